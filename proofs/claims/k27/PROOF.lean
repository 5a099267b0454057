import PyProof.Rows.All
import Wide.All
import OpenK.AllK
import Wide.FinOn
import HandS.ForMost
import HandS.ForExc
import HandS.IsInst
import HandS.Walk
import HandS.More
import HandS.Small
import HandS.Lambda
import HandS.EndTab
import KE.SortKeyHeap
import HandS.Rev
import KE.KDictList
import PySem.Challenge.RW_topiary_k27_whole_rows_tell_the_document
set_option Elab.async false
set_option linter.all false
set_option maxRecDepth 100000
set_option maxHeartbeats 4000000
/-! Mathematics of k27 in plain Lean: trees, their nodes in preorder with upward paths, sorted stably by path; these rows tell the tree. -/
namespace Tp
universe u v
/-! ### lists -/
section
variable {β : Type u} {γ : Type v} {κ : Type}
/-- a sorted list is told by its rows of equal keys -/
theorem sorted_one [DecidableEq κ] {le : κ → κ → Prop} (anti : ∀ a b, le a b → le b a → a = b) (key : β → κ) :
    ∀ m n : List β, m.Pairwise (fun a b => le (key a) (key b)) → n.Pairwise (fun a b => le (key a) (key b)) →
      (∀ k, m.filter (fun x => decide (key x = k)) = n.filter (fun x => decide (key x = k))) → m = n
  | [], [], _, _, _ => rfl
  | [], b :: n, _, _, h => by
    have q := h (key b)
    simp at q
  | a :: m, [], _, _, h => by
    have q := h (key a)
    simp at q
  | a :: m, b :: n, hm, hn, h => by
    have ea : key a = key b := by
      have ha : a ∈ b :: n := by
        have q : a ∈ (b :: n).filter (fun x => decide (key x = key a)) := by
          rw [← h (key a)]
          exact List.mem_filter.mpr ⟨List.mem_cons_self, by simp⟩
        exact (List.mem_filter.mp q).1
      have hb : b ∈ a :: m := by
        have q : b ∈ (a :: m).filter (fun x => decide (key x = key b)) := by
          rw [h (key b)]
          exact List.mem_filter.mpr ⟨List.mem_cons_self, by simp⟩
        exact (List.mem_filter.mp q).1
      rcases List.mem_cons.mp ha with e | ha
      · rw [e]
      · rcases List.mem_cons.mp hb with e | hb
        · rw [e]
        · exact anti _ _ ((List.pairwise_cons.mp hm).1 b hb) ((List.pairwise_cons.mp hn).1 a ha)
    have e : a = b := by
      have q := h (key a)
      rw [List.filter_cons_of_pos (by simp), List.filter_cons_of_pos (by simp [ea])] at q
      exact (List.cons.inj q).1
    subst e
    have t : m = n := sorted_one anti key m n (List.pairwise_cons.mp hm).2 (List.pairwise_cons.mp hn).2 fun k => by
      have q := h k
      by_cases hk : key a = k
      · rw [List.filter_cons_of_pos (by simp [hk]), List.filter_cons_of_pos (by simp [hk])] at q
        exact (List.cons.inj q).2
      · rw [List.filter_cons_of_neg (by simp [hk]), List.filter_cons_of_neg (by simp [hk])] at q
        exact q
    rw [t]
/-- equal keys, item by item, give equal values -/
theorem map_rel {δ : Type} {k : β → γ} {h : β → δ} : ∀ {m n : List β}, (∀ x ∈ m, ∀ y ∈ n, k x = k y → h x = h y) → m.map k = n.map k → m.map h = n.map h
  | [], [], _, _ => rfl
  | [], _ :: _, _, e => by simp at e
  | _ :: _, [], _, e => by simp at e
  | a :: m, b :: n, f, e => by
    rw [List.map_cons, List.map_cons] at e ⊢
    rw [f a List.mem_cons_self b List.mem_cons_self (List.cons.inj e).1, map_rel (fun x hx y hy => f x (List.mem_cons_of_mem _ hx) y (List.mem_cons_of_mem _ hy)) (List.cons.inj e).2]
theorem map_pair {δ : Type} {k : β → γ} {h : β → δ} : ∀ {m n : List β}, m.map k = n.map k → m.map h = n.map h → m.map (fun x => (k x, h x)) = n.map (fun x => (k x, h x))
  | [], [], _, _ => rfl
  | [], _ :: _, e, _ => by simp at e
  | _ :: _, [], e, _ => by simp at e
  | a :: m, b :: n, e, f => by
    rw [List.map_cons, List.map_cons] at e f ⊢
    rw [(List.cons.inj e).1, (List.cons.inj f).1, map_pair (List.cons.inj e).2 (List.cons.inj f).2]
/-- the rows of each label, taken apart and together again -/
theorem recomb {δ : Type} [DecidableEq κ] {k : β → κ} {h : β → δ} : ∀ {m n : List β}, m.map k = n.map k →
    (∀ c, (m.filter fun x => decide (k x = c)).map h = (n.filter fun x => decide (k x = c)).map h) → m.map h = n.map h
  | [], [], _, _ => rfl
  | [], _ :: _, e, _ => by simp at e
  | _ :: _, [], e, _ => by simp at e
  | a :: m, b :: n, e, f => by
    rw [List.map_cons, List.map_cons] at e
    have e1 : k a = k b := (List.cons.inj e).1
    have q := f (k a)
    rw [List.filter_cons_of_pos (by simp), List.filter_cons_of_pos (by simp [e1]), List.map_cons, List.map_cons] at q
    rw [List.map_cons, List.map_cons, (List.cons.inj q).1]
    congr 1
    refine recomb (List.cons.inj e).2 fun c => ?_
    by_cases hc : k a = c
    · have q := f c
      rw [List.filter_cons_of_pos (by simp [hc]), List.filter_cons_of_pos (by simp [← e1, hc]), List.map_cons, List.map_cons] at q
      exact (List.cons.inj q).2
    · have q := f c
      rw [List.filter_cons_of_neg (by simp [hc]), List.filter_cons_of_neg (by simp [← e1, hc])] at q
      exact q
theorem filter_map_of {δ : Type} [DecidableEq κ] {k : β → κ} {h : β → δ} {m n : List β} (e : m.map k = n.map k) (f : m.map h = n.map h) (c : κ) :
    (m.filter fun x => decide (k x = c)).map h = (n.filter fun x => decide (k x = c)).map h := by
  have g : ∀ l : List β, (l.filter fun x => decide (k x = c)).map h = ((l.map fun x => (k x, h x)).filter fun p => decide (p.1 = c)).map (·.2) := by
    intro l
    rw [List.filter_map, List.map_map]
    rfl
  rw [g m, g n, map_pair e f]
/-! ### blocks, each ended by a mark -/
def Blk (mk : β → Bool) : List β → Prop
  | [] => True
  | [x] => mk x = true
  | x :: y :: r => mk x = false ∧ Blk mk (y :: r)
theorem blk_app {mk : β → Bool} : ∀ {L L' A A' : List β}, Blk mk L → Blk mk L' → L ≠ [] → L' ≠ [] → L ++ A = L' ++ A' → L = L' ∧ A = A'
  | [], _, _, _, _, _, h, _, _ => absurd rfl h
  | _ :: _, [], _, _, _, _, _, h, _ => absurd rfl h
  | [x], [y], _, _, _, _, _, _, e => by
    have e' := List.cons.inj e
    exact ⟨by rw [e'.1], e'.2⟩
  | [x], y :: z :: r, _, _, h1, h2, _, _, e => by
    have e' := List.cons.inj e
    have h1' : mk x = true := h1
    rw [e'.1, h2.1] at h1'
    cases h1'
  | x :: z :: r, [y], _, _, h1, h2, _, _, e => by
    have e' := List.cons.inj e
    have h2' : mk y = true := h2
    rw [← e'.1, h1.1] at h2'
    cases h2'
  | x :: z :: r, y :: z' :: r', A, A', h1, h2, _, _, e => by
    have e' := List.cons.inj e
    have q := blk_app (L := z :: r) (L' := z' :: r') (A := A) (A' := A') h1.2 h2.2 (by simp) (by simp) e'.2
    exact ⟨by rw [e'.1, q.1], q.2⟩
theorem unflat {mk : β → Bool} : ∀ {Ls Ls' : List (List β)}, Ls.map List.isEmpty = Ls'.map List.isEmpty → (∀ L ∈ Ls, Blk mk L) → (∀ L ∈ Ls', Blk mk L) → Ls.flatten = Ls'.flatten → Ls = Ls'
  | [], [], _, _, _, _ => rfl
  | [], _ :: _, e, _, _, _ => by simp at e
  | _ :: _, [], e, _, _, _ => by simp at e
  | L :: Ls, L' :: Ls', e, h, h', f => by
    rw [List.map_cons, List.map_cons] at e
    have e1 : L.isEmpty = L'.isEmpty := (List.cons.inj e).1
    have e2 := (List.cons.inj e).2
    rw [List.flatten_cons, List.flatten_cons] at f
    have ht := fun M hM => h M (List.mem_cons_of_mem _ hM)
    have ht' := fun M hM => h' M (List.mem_cons_of_mem _ hM)
    by_cases c : L = []
    · subst c
      have c' : L' = [] := by simpa using e1.symm
      subst c'
      rw [unflat e2 ht ht' (by simpa using f)]
    · have c' : L' ≠ [] := fun z => c (by rw [z] at e1; simpa using e1)
      obtain ⟨q1, q2⟩ := blk_app (h L List.mem_cons_self) (h' L' List.mem_cons_self) c c' f
      rw [q1, unflat e2 ht ht' q2]
theorem app_eq {A A' B B' : List β} (h : A.length = A'.length) (e : A ++ B = A' ++ B') : A = A' ∧ B = B' := List.append_inj e h
theorem flatMap_split {F G : κ → List β} : ∀ {cs : List κ}, (∀ c, (F c).length = (G c).length) → cs.flatMap F = cs.flatMap G → ∀ c ∈ cs, F c = G c
  | [], _, _, c, hc => absurd hc (by simp)
  | a :: cs, hl, e, c, hc => by
    rw [List.flatMap_cons, List.flatMap_cons] at e
    obtain ⟨q1, q2⟩ := app_eq (hl a) e
    rcases List.mem_cons.mp hc with z | z
    · rw [z]; exact q1
    · exact flatMap_split hl q2 c z
end
/-! ### trees and their nodes -/
inductive Tree (α : Type) where
  | text (s : α)
  | elem (n : α) (cs : List (Tree α))
structure Nd (α : Type) where
  path : List Int
  last : Bool
  t : Tree α
section
variable {α : Type} (f : α → Int)
def lab : Tree α → Int
  | .text _ => 0
  | .elem n _ => f n
def full : Tree α → Bool
  | .text _ => false
  | .elem _ cs => !cs.isEmpty
def txt : Tree α → Option α
  | .text s => some s
  | .elem _ _ => none
mutual
def preT (p : List Int) (b : Bool) : Tree α → List (Nd α)
  | .text s => [⟨p, b, .text s⟩]
  | .elem n cs => ⟨p, b, .elem n cs⟩ :: preL (f n :: p) cs
def preL (q : List Int) : List (Tree α) → List (Nd α)
  | [] => []
  | c :: r => preT q r.isEmpty c ++ preL q r
end
def famL (q : List Int) : List (Tree α) → List (Nd α)
  | [] => []
  | c :: r => ⟨q, r.isEmpty, c⟩ :: famL q r
def fam (d : Nd α) : List (Nd α) := match d.t with
  | .text _ => []
  | .elem n cs => famL (f n :: d.path) cs
theorem fam_text {p : List Int} {b : Bool} {s : α} : fam f ⟨p, b, .text s⟩ = [] := rfl
theorem fam_elem {p : List Int} {b : Bool} {n : α} {cs : List (Tree α)} : fam f ⟨p, b, .elem n cs⟩ = famL (f n :: p) cs := rfl
theorem famL_path {q : List Int} : ∀ {cs : List (Tree α)} {d : Nd α}, d ∈ famL q cs → d.path = q
  | [], _, h => absurd h (by simp [famL])
  | c :: r, d, h => by
    rcases List.mem_cons.mp (show d ∈ ⟨q, r.isEmpty, c⟩ :: famL q r from h) with e | e
    · rw [e]
    · exact famL_path e
theorem fam_path {d x : Nd α} (h : x ∈ fam f d) : x.path = lab f d.t :: d.path := by
  obtain ⟨p, b, t⟩ := d
  cases t with
  | text s => exact absurd h (by simp [fam])
  | elem n cs => exact famL_path h
mutual
theorem preT_len {p : List Int} : ∀ {b : Bool} (t : Tree α) {d : Nd α}, d ∈ preT f p b t → p.length ≤ d.path.length
  | b, .text s, d, h => by
    have e : d = ⟨p, b, .text s⟩ := by simpa [preT] using h
    rw [e]; exact Nat.le_refl _
  | b, .elem n cs, d, h => by
    rcases List.mem_cons.mp (show d ∈ ⟨p, b, .elem n cs⟩ :: preL f (f n :: p) cs by simpa [preT] using h) with e | e
    · rw [e]; exact Nat.le_refl _
    · have q := preL_len cs e
      rw [List.length_cons] at q
      omega
theorem preL_len {p : List Int} : ∀ (cs : List (Tree α)) {d : Nd α}, d ∈ preL f p cs → p.length ≤ d.path.length
  | [], d, h => absurd h (by simp [preL])
  | c :: r, d, h => by
    rcases List.mem_append.mp (show d ∈ preT f p r.isEmpty c ++ preL f p r by simpa [preL] using h) with e | e
    · exact preT_len c e
    · exact preL_len r e
end
def atP (k : List Int) (d : Nd α) : Bool := decide (d.path = k)
def atPC (k : List Int) (c : Int) (d : Nd α) : Bool := decide (d.path = k) && decide (lab f d.t = c)
theorem filt_nil {p k : List Int} {c : Int} {l : List (Nd α)} (h : ∀ d ∈ l, p.length ≤ d.path.length) (hk : k.length < p.length) : l.filter (atPC f k c) = [] := by
  rw [List.filter_eq_nil_iff]
  intro d hd z
  have e : d.path = k := by
    unfold atPC at z
    simp only [Bool.and_eq_true, decide_eq_true_eq] at z
    exact z.1
  have q := h d hd
  rw [e] at q
  omega
theorem filt_root {p : List Int} {b : Bool} {t : Tree α} {k : List Int} : [(⟨p, b, t⟩ : Nd α)].filter (atP k) = if p = k then [⟨p, b, t⟩] else [] := by
  by_cases h : p = k
  · rw [if_pos h, List.filter_cons_of_pos (by simp [atP, h])]; rfl
  · rw [if_neg h, List.filter_cons_of_neg (by simp [atP, h])]; rfl
mutual
theorem preT_fam (k : List Int) (c : Int) : ∀ (p : List Int) (b : Bool) (t : Tree α),
    (preT f p b t).filter (atP (c :: k)) = (if p = c :: k then [⟨p, b, t⟩] else []) ++ ((preT f p b t).filter (atPC f k c)).flatMap (fam f)
  | p, b, .text s => by
    rw [preT, filt_root]
    have e : ([(⟨p, b, .text s⟩ : Nd α)].filter (atPC f k c)).flatMap (fam f) = [] := by
      by_cases h : atPC f k c (⟨p, b, .text s⟩ : Nd α) = true
      · rw [List.filter_cons_of_pos h]; rfl
      · rw [List.filter_cons_of_neg h]; rfl
    rw [e, List.append_nil]
  | p, b, .elem n cs => by
    rw [preT, List.filter_cons, List.filter_cons]
    have ih := preL_fam k c (f n :: p) cs
    have hp : atP (c :: k) (⟨p, b, .elem n cs⟩ : Nd α) = decide (p = c :: k) := rfl
    have hq : atPC f k c (⟨p, b, .elem n cs⟩ : Nd α) = (decide (p = k) && decide (f n = c)) := rfl
    rw [hp, hq, ih]
    have e2 : (if f n :: p = c :: k then famL (f n :: p) cs else []) = ((if (decide (p = k) && decide (f n = c)) = true then [(⟨p, b, .elem n cs⟩ : Nd α)] else []).flatMap (fam f)) := by
      by_cases h : f n :: p = c :: k
      · have h' := List.cons.inj h
        rw [if_pos h, if_pos (by simp [h'.1, h'.2])]
        simp [fam]
      · rw [if_neg h, if_neg (by
          intro z
          simp only [Bool.and_eq_true, decide_eq_true_eq] at z
          exact h (by rw [z.1, z.2]))]
        rfl
    rw [e2]
    by_cases h : p = c :: k
    · rw [if_pos (by simp [h]), if_pos h]
      by_cases h2 : (decide (p = k) && decide (f n = c)) = true
      · simp [h2, List.flatMap_cons]
      · simp [h2]
    · rw [if_neg (by simp [h]), if_neg h]
      by_cases h2 : (decide (p = k) && decide (f n = c)) = true
      · simp [h2, List.flatMap_cons]
      · simp [h2]
theorem preL_fam (k : List Int) (c : Int) : ∀ (q : List Int) (cs : List (Tree α)),
    (preL f q cs).filter (atP (c :: k)) = (if q = c :: k then famL q cs else []) ++ ((preL f q cs).filter (atPC f k c)).flatMap (fam f)
  | q, [] => by
    rw [preL]
    by_cases h : q = c :: k
    · rw [if_pos h]; rfl
    · rw [if_neg h]; rfl
  | q, t :: r => by
    rw [preL, List.filter_append, List.filter_append, List.flatMap_append, preT_fam k c q r.isEmpty t, preL_fam k c q r]
    by_cases h : q = c :: k
    · have z : (preT f q r.isEmpty t).filter (atPC f k c) = [] := filt_nil f (fun d hd => preT_len f t hd) (by rw [h, List.length_cons]; omega)
      rw [if_pos h, if_pos h, if_pos h, z]
      simp [famL]
    · rw [if_neg h, if_neg h, if_neg h]
      simp
end
/-! ### the order of paths -/
theorem le_anti (a b : List Int) (h : a ≤ b) (h' : b ≤ a) : a = b := List.le_antisymm h h'
theorem le_head {a b : Int} {x y : List Int} (h : a < b) : a :: x ≤ b :: y := List.cons_le_cons_iff.mpr (.inl h)
theorem le_tail {a : Int} {x y : List Int} (h : x ≤ y) : a :: x ≤ a :: y := List.cons_le_cons_iff.mpr (.inr ⟨rfl, h⟩)
/-- S is X sorted stably by path -/
structure Srt (S X : List (Nd α)) : Prop where
  up : S.Pairwise fun a b => a.path ≤ b.path
  row : ∀ k, S.filter (atP k) = X.filter (atP k)
theorem Srt.mem {S X : List (Nd α)} (h : Srt S X) {d : Nd α} : d ∈ S ↔ d ∈ X := by
  have q := h.row d.path
  constructor
  · intro hd
    have z : d ∈ S.filter (atP d.path) := List.mem_filter.mpr ⟨hd, by simp [atP]⟩
    rw [q] at z
    exact (List.mem_filter.mp z).1
  · intro hd
    have z : d ∈ X.filter (atP d.path) := List.mem_filter.mpr ⟨hd, by simp [atP]⟩
    rw [← q] at z
    exact (List.mem_filter.mp z).1
theorem Srt.one {S S' X : List (Nd α)} (h : Srt S X) (h' : Srt S' X) : S = S' :=
  sorted_one (le := fun a b : List Int => a ≤ b) le_anti Nd.path S S' h.up h'.up fun k => (h.row k).trans (h'.row k).symm
/-- the families of the rows of S, by labels -/
def famsOf (cs : List Int) (S : List (Nd α)) : List (Nd α) := cs.flatMap fun c => (S.filter fun d => decide (lab f d.t = c)).flatMap (fam f)
theorem filter_fam {k : List Int} {c : Int} {l : List (Nd α)} : (l.flatMap (fam f)).filter (atP (c :: k)) = (l.filter (atPC f k c)).flatMap (fam f) := by
  induction l with
  | nil => rfl
  | cons d l ih =>
    rw [List.flatMap_cons, List.filter_append, ih, List.filter_cons]
    by_cases h : atPC f k c d = true
    · rw [if_pos h, List.flatMap_cons]
      congr 1
      refine List.filter_eq_self.mpr fun x hx => ?_
      have e := fam_path f hx
      unfold atPC at h
      simp only [Bool.and_eq_true, decide_eq_true_eq] at h
      unfold atP
      rw [e, h.1, h.2]
      simp
    · rw [if_neg h]
      have z : (fam f d).filter (atP (c :: k)) = [] := by
        rw [List.filter_eq_nil_iff]
        intro x hx q
        have e := fam_path f hx
        unfold atP at q
        rw [e] at q
        simp only [decide_eq_true_eq] at q
        have q' := List.cons.inj q
        exact h (by unfold atPC; simp [q'.1, q'.2])
      rw [z, List.nil_append]
theorem filter_fams {k : List Int} {c : Int} {S : List (Nd α)} : ∀ {cs : List Int}, cs.Pairwise (· < ·) → (c ∈ cs ∨ S.filter (atPC f k c) = []) → (famsOf f cs S).filter (atP (c :: k)) = (S.filter (atPC f k c)).flatMap (fam f) := by
  intro cs
  have other : ∀ {c' : Int}, c' ≠ c → ((S.filter fun d => decide (lab f d.t = c')).flatMap (fam f)).filter (atP (c :: k)) = [] := by
    intro c' hc
    rw [filter_fam, List.filter_filter]
    have z : S.filter (fun d => atPC f k c d && decide (lab f d.t = c')) = [] := by
      rw [List.filter_eq_nil_iff]
      intro d _ q
      unfold atPC at q
      simp only [Bool.and_eq_true, decide_eq_true_eq] at q
      exact hc (q.2.symm.trans q.1.2)
    rw [z]; rfl
  have own : ((S.filter fun d => decide (lab f d.t = c)).flatMap (fam f)).filter (atP (c :: k)) = (S.filter (atPC f k c)).flatMap (fam f) := by
    rw [filter_fam, List.filter_filter]
    congr 1
    refine List.filter_congr fun d _ => ?_
    unfold atPC
    by_cases h : lab f d.t = c <;> simp [h]
  have none : ∀ cs : List Int, c ∉ cs → (famsOf f cs S).filter (atP (c :: k)) = [] := by
    intro cs
    induction cs with
    | nil => intro _; rfl
    | cons a cs ih =>
      intro h
      have h1 : a ≠ c := fun z => h (by rw [z]; exact List.mem_cons_self)
      have h2 : c ∉ cs := fun z => h (List.mem_cons_of_mem _ z)
      unfold famsOf at ih ⊢
      rw [List.flatMap_cons, List.filter_append, other h1, ih h2]
      rfl
  induction cs with
  | nil =>
    intro _ h
    rcases h with h | h
    · exact absurd h (by simp)
    · rw [h]; rfl
  | cons a cs ih =>
    intro hp h
    have hp' := List.pairwise_cons.mp hp
    unfold famsOf at ih ⊢
    rw [List.flatMap_cons, List.filter_append]
    by_cases ha : a = c
    · subst ha
      have hn : a ∉ cs := fun z => absurd (hp'.1 a z) (by omega)
      have z := none cs hn
      unfold famsOf at z
      rw [own, z, List.append_nil]
    · rw [other ha, List.nil_append]
      refine ih hp'.2 ?_
      rcases h with h | h
      · rcases List.mem_cons.mp h with z | z
        · exact absurd z.symm ha
        · exact .inl z
      · exact .inr h
/-- the nodes in rows: the root, then the families in the order of labels and rows -/
theorem srt_fams {n : α} {ts : List (Tree α)} {S : List (Nd α)} {cs : List Int} (h : Srt S (preT f [] true (.elem n ts))) (hc : cs.Pairwise (· < ·)) (hl : ∀ d ∈ S, lab f d.t ∈ cs) :
    S = ⟨[], true, .elem n ts⟩ :: famsOf f cs S := by
  refine sorted_one (le := fun a b : List Int => a ≤ b) le_anti Nd.path _ _ h.up ?_ ?_
  · rw [List.pairwise_cons]
    refine ⟨fun d _ => List.nil_le _, ?_⟩
    unfold famsOf
    rw [List.pairwise_flatMap]
    refine ⟨fun c _ => ?_, ?_⟩
    · rw [List.pairwise_flatMap]
      refine ⟨fun d _ => ?_, ?_⟩
      · rw [List.pairwise_iff_forall_sublist]
        intro a b hs
        have ha : a ∈ fam f d := hs.subset List.mem_cons_self
        have hb : b ∈ fam f d := hs.subset (List.mem_cons_of_mem _ List.mem_cons_self)
        rw [fam_path f ha, fam_path f hb]
        exact List.le_refl _
      · have hS : (S.filter fun d => decide (lab f d.t = c)).Pairwise fun a b => a.path ≤ b.path := h.up.sublist List.filter_sublist
        refine hS.imp_of_mem fun {a b} ha hb r x hx y hy => ?_
        have ea : lab f a.t = c := by simpa using (List.mem_filter.mp ha).2
        have eb : lab f b.t = c := by simpa using (List.mem_filter.mp hb).2
        rw [fam_path f hx, fam_path f hy, ea, eb]
        exact le_tail r
    · refine hc.imp fun {c c'} r x hx y hy => ?_
      obtain ⟨a, ha, hx⟩ := List.mem_flatMap.mp hx
      obtain ⟨b, hb, hy⟩ := List.mem_flatMap.mp hy
      have ea : lab f a.t = c := by simpa using (List.mem_filter.mp ha).2
      have eb : lab f b.t = c' := by simpa using (List.mem_filter.mp hb).2
      rw [fam_path f hx, fam_path f hy, ea, eb]
      exact le_head r
  · intro k
    have hk := h.row k
    show S.filter (atP k) = (_ :: famsOf f cs S).filter (atP k)
    rw [hk]
    cases k with
    | nil =>
      rw [preT, List.filter_cons_of_pos (by simp [atP]), List.filter_cons_of_pos (by simp [atP])]
      have z1 : (preL f [f n] ts).filter (atP []) = [] := by
        rw [List.filter_eq_nil_iff]
        intro d hd q
        have q1 := preL_len f ts hd
        unfold atP at q
        simp only [decide_eq_true_eq] at q
        rw [q] at q1
        simp at q1
      have z2 : (famsOf f cs S).filter (atP []) = [] := by
        rw [List.filter_eq_nil_iff]
        intro d hd q
        unfold famsOf at hd
        obtain ⟨c, _, hd⟩ := List.mem_flatMap.mp hd
        obtain ⟨x, _, hd⟩ := List.mem_flatMap.mp hd
        unfold atP at q
        simp only [decide_eq_true_eq] at q
        rw [fam_path f hd] at q
        cases q
      rw [z1, z2]
    | cons c k =>
      have q := preT_fam f k c [] true (.elem n ts)
      rw [if_neg (by simp), List.nil_append] at q
      have e : S.filter (atPC f k c) = (preT f [] true (.elem n ts)).filter (atPC f k c) := by
        have g : ∀ l : List (Nd α), l.filter (atPC f k c) = (l.filter (atP k)).filter fun d => decide (lab f d.t = c) := by
          intro l
          rw [List.filter_filter]
          refine List.filter_congr fun d _ => ?_
          unfold atPC atP
          by_cases h1 : d.path = k <;> by_cases h2 : lab f d.t = c <;> simp [h1, h2]
        rw [g S, g, h.row k]
      rw [q, List.filter_cons_of_neg (by simp [atP]), filter_fams f hc, e]
      by_cases z : S.filter (atPC f k c) = []
      · exact .inr z
      · left
        cases q2 : S.filter (atPC f k c) with
        | nil => exact absurd q2 z
        | cons d r =>
          have hd : d ∈ S.filter (atPC f k c) := by rw [q2]; exact List.mem_cons_self
          obtain ⟨h1, h2⟩ := List.mem_filter.mp hd
          unfold atPC at h2
          simp only [Bool.and_eq_true, decide_eq_true_eq] at h2
          rw [← h2.2]
          exact hl d h1
/-! ### trees cut at a depth -/
def cut : Nat → Tree α → Tree α
  | _, .text s => .text s
  | 0, .elem n _ => .elem n []
  | k + 1, .elem n cs => .elem n (cs.map (cut k))
mutual
def dep : Tree α → Nat
  | .text _ => 0
  | .elem _ cs => depL cs + 1
def depL : List (Tree α) → Nat
  | [] => 0
  | c :: r => max (dep c) (depL r)
end
mutual
theorem cut_deep : ∀ (t : Tree α) (k : Nat), dep t ≤ k → cut k t = t
  | .text s, k, _ => by cases k <;> rfl
  | .elem n cs, 0, h => absurd h (by rw [dep]; omega)
  | .elem n cs, k + 1, h => by
    rw [cut, cutL_deep cs k (by rw [dep] at h; omega)]
theorem cutL_deep : ∀ (cs : List (Tree α)) (k : Nat), depL cs ≤ k → cs.map (cut k) = cs
  | [], _, _ => rfl
  | c :: r, k, h => by
    rw [depL] at h
    rw [List.map_cons, cut_deep c k (by omega), cutL_deep r k (by omega)]
end
def cutN (k : Nat) (d : Nd α) : Bool × Tree α := (d.last, cut k d.t)
theorem famL_cut {q : List Int} {k : Nat} : ∀ {cs : List (Tree α)}, (famL q cs).map (fun d => (cutN k d).2) = cs.map (cut k)
  | [] => rfl
  | c :: r => by
    have ih := famL_cut (q := q) (k := k) (cs := r)
    show cut k c :: (famL q r).map _ = cut k c :: r.map (cut k)
    rw [ih]
theorem famL_blk {q : List Int} {k : Nat} : ∀ {cs : List (Tree α)}, Blk (fun p : Bool × Tree α => p.1) ((famL q cs).map (cutN k))
  | [] => trivial
  | [c] => rfl
  | c :: d :: r => ⟨rfl, famL_blk (cs := d :: r)⟩
theorem famL_isEmpty {q : List Int} : ∀ {cs : List (Tree α)}, (famL q cs).isEmpty = cs.isEmpty
  | [] => rfl
  | _ :: _ => rfl
theorem fam_blk {k : Nat} (d : Nd α) : Blk (fun p : Bool × Tree α => p.1) ((fam f d).map (cutN k)) := by
  obtain ⟨p, b, t⟩ := d
  cases t with
  | text s => exact trivial
  | elem n cs => exact famL_blk
theorem fam_empty (d : Nd α) : (fam f d).isEmpty = !full d.t := by
  obtain ⟨p, b, t⟩ := d
  cases t with
  | text s => rfl
  | elem n cs => show (famL (f n :: p) cs).isEmpty = !(!cs.isEmpty); rw [famL_isEmpty, Bool.not_not]
/-- what the rows of a document tell -/
structure SameRows (S S' : List (Nd α)) : Prop where
  labs : S.map (fun d => lab f d.t) = S'.map (fun d => lab f d.t)
  lasts : S.map Nd.last = S'.map Nd.last
  fulls : S.map (fun d => full d.t) = S'.map (fun d => full d.t)
  texts : (S.filter fun d => decide (lab f d.t = 0)).map (fun d => txt d.t) = (S'.filter fun d => decide (lab f d.t = 0)).map (fun d => txt d.t)
/-- the names of a row's node are among ns -/
def Names (ns : List α) : Tree α → Prop
  | .text _ => True
  | .elem n _ => n ∈ ns
theorem flatMap_congr' {β γ : Type} {F G : β → List γ} : ∀ {l : List β}, (∀ x ∈ l, F x = G x) → l.flatMap F = l.flatMap G
  | [], _ => rfl
  | x :: l, h => by rw [List.flatMap_cons, List.flatMap_cons, h x List.mem_cons_self, flatMap_congr' fun y hy => h y (List.mem_cons_of_mem _ hy)]
theorem fams_flat {k : Nat} {l : List (Nd α)} : ∀ {cs : List Int}, (famsOf f cs l).map (cutN k) = (cs.flatMap fun c => (l.filter fun d => decide (lab f d.t = c)).map fun d => (fam f d).map (cutN k)).flatten
  | [] => rfl
  | c :: cs => by
    have ih := fams_flat (k := k) (l := l) (cs := cs)
    unfold famsOf at ih ⊢
    rw [List.flatMap_cons, List.flatMap_cons, List.flatten_append, List.map_append, ih, List.map_flatMap, List.flatMap_def]
theorem rows_cut {ns : List α} {n n' : α} {ts ts' : List (Tree α)} {S S' : List (Nd α)} {cs : List Int} (inj : ∀ a ∈ ns, ∀ b ∈ ns, f a = f b → a = b)
    (h : Srt S (preT f [] true (.elem n ts))) (h' : Srt S' (preT f [] true (.elem n' ts'))) (hc : cs.Pairwise (· < ·)) (hl : ∀ d ∈ S, lab f d.t ∈ cs) (hl' : ∀ d ∈ S', lab f d.t ∈ cs)
    (hn : ∀ d ∈ S, Names ns d.t) (hn' : ∀ d ∈ S', Names ns d.t) (R : SameRows f S S') : ∀ k, S.map (cutN k) = S'.map (cutN k) := by
  have cont : S.map (fun d => txt d.t) = S'.map (fun d => txt d.t) := by
    refine recomb R.labs fun c => ?_
    by_cases hc0 : c = 0
    · rw [hc0]; exact R.texts
    · have g : ∀ l : List (Nd α), (l.filter fun d => decide (lab f d.t = c)).map (fun d => txt d.t) = (l.filter fun d => decide (lab f d.t = c)).map (fun _ => none) := by
        intro l
        refine List.map_congr_left fun d hd => ?_
        have e : lab f d.t = c := by simpa using (List.mem_filter.mp hd).2
        cases ht : d.t with
        | text s => rw [ht] at e; exact absurd e.symm hc0
        | elem m us => rfl
      have gl : (S.filter fun d => decide (lab f d.t = c)).length = (S'.filter fun d => decide (lab f d.t = c)).length := by
        have q := filter_map_of R.labs R.labs c
        have q2 := congrArg List.length q
        rw [List.length_map, List.length_map] at q2
        exact q2
      rw [g S, g S']
      rw [List.map_const', List.map_const', gl]
  have key : S.map (fun d => (lab f d.t, (d.last, txt d.t))) = S'.map (fun d => (lab f d.t, (d.last, txt d.t))) := map_pair R.labs (map_pair R.lasts cont)
  intro k
  induction k with
  | zero =>
    refine map_rel (k := fun d : Nd α => (lab f d.t, (d.last, txt d.t))) (fun x hx y hy e => ?_) key
    have e1 : lab f x.t = lab f y.t := congrArg (·.1) e
    have e2 : x.last = y.last := congrArg (·.2.1) e
    have e3 : txt x.t = txt y.t := congrArg (·.2.2) e
    unfold cutN
    rw [e2]
    congr 1
    have nx := hn x hx
    have ny := hn' y hy
    cases hx' : x.t with
    | text s =>
      cases hy' : y.t with
      | text s' => rw [hx', hy'] at e3; rw [Option.some.inj e3]
      | elem m us => rw [hx', hy'] at e3; cases e3
    | elem m us =>
      cases hy' : y.t with
      | text s' => rw [hx', hy'] at e3; cases e3
      | elem m' us' =>
        rw [hx'] at nx e1
        rw [hy'] at ny e1
        rw [inj m nx m' ny e1]
        rfl
  | succ k ih =>
    have eS := srt_fams f h hc hl
    have eS' := srt_fams f h' hc hl'
    have tl : (famsOf f cs S).map (cutN k) = (famsOf f cs S').map (cutN k) := by
      have q : (⟨[], true, .elem n ts⟩ :: famsOf f cs S : List (Nd α)).map (cutN k) = (⟨[], true, .elem n' ts'⟩ :: famsOf f cs S' : List (Nd α)).map (cutN k) := by
        rw [← eS, ← eS']
        exact ih
      rw [List.map_cons, List.map_cons] at q
      exact (List.cons.inj q).2
    rw [fams_flat, fams_flat] at tl
    have lens : ∀ c, ((S.filter fun d => decide (lab f d.t = c)).map fun d => (fam f d).map (cutN k)).length = ((S'.filter fun d => decide (lab f d.t = c)).map fun d => (fam f d).map (cutN k)).length := by
      intro c
      have q2 := congrArg List.length (filter_map_of R.labs R.labs c)
      rw [List.length_map, List.length_map] at q2
      rw [List.length_map, List.length_map, q2]
    have emp : ∀ c, ((S.filter fun d => decide (lab f d.t = c)).map fun d => (fam f d).map (cutN k)).map List.isEmpty = ((S'.filter fun d => decide (lab f d.t = c)).map fun d => (fam f d).map (cutN k)).map List.isEmpty := by
      intro c
      have g : ∀ l : List (Nd α), ((l.filter fun d => decide (lab f d.t = c)).map fun d => (fam f d).map (cutN k)).map List.isEmpty = ((l.filter fun d => decide (lab f d.t = c)).map fun d => full d.t).map not := by
        intro l
        rw [List.map_map, List.map_map]
        refine List.map_congr_left fun d _ => ?_
        show ((fam f d).map (cutN k)).isEmpty = !full d.t
        rw [List.isEmpty_map, fam_empty]
      rw [g S, g S', filter_map_of R.labs R.fulls c]
    have bl : ∀ (l : List (Nd α)) (L : List (Bool × Tree α)), L ∈ (cs.flatMap fun c => (l.filter fun d => decide (lab f d.t = c)).map fun d => (fam f d).map (cutN k)) → Blk (fun p : Bool × Tree α => p.1) L := by
      intro l L hL
      obtain ⟨c, _, hL⟩ := List.mem_flatMap.mp hL
      obtain ⟨d, _, rfl⟩ := List.mem_map.mp hL
      exact fam_blk f d
    have all := unflat (mk := fun p : Bool × Tree α => p.1) (by
      rw [List.map_flatMap, List.map_flatMap]
      exact flatMap_congr' fun c _ => emp c) (bl S) (bl S') tl
    have each := flatMap_split lens all
    have blocks : S.map (fun d => (fam f d).map (cutN k)) = S'.map (fun d => (fam f d).map (cutN k)) := by
      refine recomb R.labs fun c => ?_
      by_cases hcc : c ∈ cs
      · exact each c hcc
      · have z : ∀ l : List (Nd α), (∀ d ∈ l, lab f d.t ∈ cs) → (l.filter fun d => decide (lab f d.t = c)) = [] := by
          intro l hh
          rw [List.filter_eq_nil_iff]
          intro d hd q
          have q' : lab f d.t = c := by simpa using q
          exact hcc (by rw [← q']; exact hh d hd)
        rw [z S hl, z S' hl']
    refine map_rel (k := fun d : Nd α => ((lab f d.t, (d.last, txt d.t)), (fam f d).map (cutN k))) (fun x hx y hy e => ?_) (map_pair key blocks)
    have e1 : lab f x.t = lab f y.t := congrArg (·.1.1) e
    have e2 : x.last = y.last := congrArg (·.1.2.1) e
    have e3 : txt x.t = txt y.t := congrArg (·.1.2.2) e
    have e4 : (fam f x).map (cutN k) = (fam f y).map (cutN k) := congrArg (·.2) e
    unfold cutN
    rw [e2]
    congr 1
    have nx := hn x hx
    have ny := hn' y hy
    obtain ⟨px, bx, tx⟩ := x
    obtain ⟨py, by_, ty⟩ := y
    cases tx with
    | text s =>
      cases ty with
      | text s' =>
        have es : s = s' := Option.some.inj (show some s = some s' from e3)
        rw [es]
      | elem m us => exact nomatch (show some s = none from e3)
    | elem m us =>
      cases ty with
      | text s' => exact nomatch (show none = some s' from e3)
      | elem m' us' =>
        have em : m = m' := inj m nx m' ny e1
        have e5 : us.map (cut k) = us'.map (cut k) := by
          have q := congrArg (List.map Prod.snd) e4
          rw [List.map_map, List.map_map] at q
          exact (famL_cut (q := f m :: px) (k := k) (cs := us)).symm.trans (q.trans (famL_cut (q := f m' :: py) (k := k) (cs := us')))
        show Tree.elem m (us.map (cut k)) = Tree.elem m' (us'.map (cut k))
        rw [em, e5]
/-- the rows tell the document -/
theorem rows_tell {ns : List α} {n n' : α} {ts ts' : List (Tree α)} {S S' : List (Nd α)} {cs : List Int} (inj : ∀ a ∈ ns, ∀ b ∈ ns, f a = f b → a = b)
    (h : Srt S (preT f [] true (.elem n ts))) (h' : Srt S' (preT f [] true (.elem n' ts'))) (hc : cs.Pairwise (· < ·)) (hl : ∀ d ∈ S, lab f d.t ∈ cs) (hl' : ∀ d ∈ S', lab f d.t ∈ cs)
    (hn : ∀ d ∈ S, Names ns d.t) (hn' : ∀ d ∈ S', Names ns d.t) (R : SameRows f S S') : Tree.elem n ts = Tree.elem n' ts' := by
  have k := rows_cut f inj h h' hc hl hl' hn hn' R (max (dep (.elem n ts)) (dep (.elem n' ts')))
  rw [srt_fams f h hc hl, srt_fams f h' hc hl', List.map_cons, List.map_cons] at k
  have q := congrArg Prod.snd (List.cons.inj k).1
  have q' : cut (max (dep (.elem n ts)) (dep (.elem n' ts'))) (.elem n ts) = cut (max (dep (.elem n ts)) (dep (.elem n' ts'))) (.elem n' ts') := q
  rw [cut_deep _ _ (Nat.le_max_left _ _), cut_deep _ _ (Nat.le_max_right _ _)] at q'
  exact q'
/-! ### sizes -/
mutual
def size : Tree α → Nat
  | .text _ => 1
  | .elem _ cs => 1 + sizeL cs
def sizeL : List (Tree α) → Nat
  | [] => 0
  | c :: r => size c + sizeL r
end
mutual
theorem preT_size : ∀ (p : List Int) (b : Bool) (t : Tree α), (preT f p b t).length = size t
  | _, _, .text _ => rfl
  | p, b, .elem n cs => by
    rw [preT, List.length_cons, preL_size (f n :: p) cs, size]
    omega
theorem preL_size : ∀ (q : List Int) (cs : List (Tree α)), (preL f q cs).length = sizeL cs
  | _, [] => rfl
  | q, c :: r => by rw [preL, List.length_append, preT_size q r.isEmpty c, preL_size q r, sizeL]
end
end
end Tp

/-! k27: the text by places, facts of the top, trees in the heap, comprehensions. -/
namespace Tk
open PySem PySem.Spec PyProof.Rows L2
open Tp (Tree)
/-! ### the text by places -/
def topS (i : Nat) : Stmt := PySem.Challenge.pw_topiary_k27_whole_rows_tell_the_document.main.body.getD i (.Pass ⟨0, 0, 0, 0⟩)
abbrev sIsName : Stmt := topS 9
abbrev sIsChar : Stmt := topS 10
abbrev sIsText : Stmt := topS 11
abbrev sIsString : Stmt := topS 12
abbrev sApart : Stmt := topS 13
abbrev sIsTree : Stmt := topS 14
abbrev sDepth : Stmt := topS 15
abbrev sNodesOf : Stmt := topS 16
abbrev sRight : Stmt := topS 17
abbrev sIsDoc : Stmt := topS 18
abbrev sRowsInit : Stmt := inClass (topS 20) 0
abbrev sParts : Stmt := topS 21
abbrev sSameRows : Stmt := topS 22
abbrev sNamesIn : Stmt := topS 23
abbrev sGathInit : Stmt := inClass (topS 24) 0
abbrev sGather : Stmt := inClass (topS 24) 1
abbrev sRowsOf : Stmt := topS 25
abbrev sDeck : Stmt := topS 27
abbrev sDraw : Stmt := topS 28
abbrev sSame : Stmt := topS 29
abbrev sTree : Stmt := topS 30
abbrev sDocument : Stmt := topS 31
abbrev sChanged : Stmt := topS 32
abbrev sRefused : Stmt := topS 33
abbrev sSize : Stmt := topS 34
abbrev sLaw : Stmt := topS 35
def letters : Str := Str.ofString "abcdefghijklmnopqrstuvwxyz"
/-- what the top has left of names that are no defs -/
structure Txt (mg : Str → Option Value) : Prop where
  len : mg "len" = none
  all : mg "all" = none
  any : mg "any" = none
  isi : mg "isinstance" = none
  max : mg "max" = none
  min : mg "min" = none
  list : mg "list" = none
  rev : mg "reversed" = none
  sorted : mg "sorted" = none
  enum : mg "enumerate" = none
  int : mg "int" = none
  range : mg "range" = none
  sum : mg "sum" = none
  str : mg "str" = none
  tuple : mg "tuple" = none
  bool : mg "bool" = none
  letters : ∃ t, mg "LETTERS" = some (.str letters t)
  mostL : ∃ t, mg "MOST_LETTERS" = some (.int 12 t)
  mostT : ∃ t, mg "MOST_TEXT" = some (.int 200 t)
  mostN : ∃ t, mg "MOST_NODES" = some (.int 5000 t)
  mostD : ∃ t, mg "MOST_DEPTH" = some (.int 60 t)
/-- a def of the text, by its name -/
def Df (K : PySem.W.Frag) (mg : Str → Option Value) (x : Str) (st : Stmt) (ps : List Str) : Prop := ∃ f fd, Fun K x x st f fd ∧ mg x = some (.ref f) ∧ Binds K fd ps []
/-- a def that keeps its promise -/
def Has (P : Program) (w : World) (K : PySem.W.Frag) (mg : Str → Option Value) (base : Heap) (CX : CXT) (k : Nat) (x : Str) (ps : List Str) (sp : Sp) : Prop :=
  ∃ f fd, FnOk P w K mg base CX k f fd ps sp ∧ Binds K fd ps [] ∧ PySem.W.keepIn K (.ref f) = true ∧ mg x = some (.ref f)
theorem has_of {P : Program} {w : World} {K : PySem.W.Frag} {mg : Str → Option Value} {base : Heap} {CX : CXT} {k : Nat} {x : Str} {st : Stmt} {ps : List Str} {sp : Sp} (D : Df K mg x st ps)
    (h : ∀ f fd, Fun K x x st f fd → FnOk P w K mg base CX k f fd ps sp) : Has P w K mg base CX k x ps sp := by
  obtain ⟨f, fd, F, m, b⟩ := D
  exact ⟨f, fd, h f fd F, b, F.kp, m⟩
/-! ### heaps -/
/-- all stands but what is at d -/
def But (d : Addr) (H H' : Hp) : Prop := ∀ b o, b ≠ d → H b = some o → H' b = some o
theorem But.refl {d : Addr} (H : Hp) : But d H H := fun _ _ _ h => h
theorem But.trans {d : Addr} {H H1 H2 : Hp} (a : But d H H1) (b : But d H1 H2) : But d H H2 := fun c o n h => b c o n (a c o n h)
theorem But.of {d : Addr} {H H' : Hp} (a : Same H H') : But d H H' := fun c o _ h => a c o h
theorem But.put {d : Addr} {H H' : Hp} (a : But d H H') (o : HO) : But d H (upd H' d o) := fun c u n h => by rw [upd_ne n]; exact a c u n h
theorem But.new {d p : Addr} {H H' : Hp} (a : But d H H') (h : H' p = none) (o : HO) : But d H (upd H' p o) := fun c u n q => by
  have e := a c u n q
  rw [upd_ne (ne_of_none e h)]; exact e
theorem same_new {H : Hp} {p : Addr} (h : H p = none) (o : HO) : Same H (upd H p o) := fun b u q => by rw [upd_ne (ne_of_none q h)]; exact q
theorem Same.new {H H' : Hp} {p : Addr} (a : Same H H') (h : H' p = none) (o : HO) : Same H (upd H' p o) := a.trans (same_new h o)
/-- writing at an address that was free at the beginning -/
theorem Same.at {H H' : Hp} {p : Addr} (a : Same H H') (h : H p = none) (o : HO) : Same H (upd H' p o) := fun b u q => by rw [upd_ne (ne_of_none q h)]; exact a b u q
theorem But.free {d p : Addr} {H H' : Hp} (a : But d H H') (hp : p ≠ d) (h : H' p = none) : H p = none := by
  cases q : H p with
  | none => rfl
  | some o => rw [a p o hp q] at h; cases h
/-! ### trees in the heap: F tells at which addresses they may lie -/
abbrev T := Tree Str
mutual
def TreeIn (F : Addr → Prop) (H : Hp) : T → V → Prop
  | .text s, v => v = .str s
  | .elem n cs, v => ∃ t l vs, v = .ref t ∧ F t ∧ F l ∧ H t = some (.tup [.str n, .ref l]) ∧ H l = some (.lst vs) ∧ TreesIn F H cs vs
def TreesIn (F : Addr → Prop) (H : Hp) : List T → List V → Prop
  | [], vs => vs = []
  | c :: r, vs => ∃ v vs', vs = v :: vs' ∧ TreeIn F H c v ∧ TreesIn F H r vs'
end
mutual
theorem TreeIn.mono {F F' : Addr → Prop} {H H' : Hp} (k : ∀ b o, F b → H b = some o → (∃ xs, o = .lst xs ∨ o = .tup xs) → H' b = some o) (f : ∀ b o, F b → H b = some o → F' b) : ∀ {t : T} {v : V}, TreeIn F H t v → TreeIn F' H' t v
  | .text _, _, h => by rw [TreeIn] at h ⊢; exact h
  | .elem n cs, v, h => by
    rw [TreeIn] at h ⊢
    obtain ⟨t, l, vs, e, f1, f2, h1, h2, h3⟩ := h
    exact ⟨t, l, vs, e, f t _ f1 h1, f l _ f2 h2, k t _ f1 h1 ⟨_, .inr rfl⟩, k l _ f2 h2 ⟨_, .inl rfl⟩, TreesIn.mono k f h3⟩
theorem TreesIn.mono {F F' : Addr → Prop} {H H' : Hp} (k : ∀ b o, F b → H b = some o → (∃ xs, o = .lst xs ∨ o = .tup xs) → H' b = some o) (f : ∀ b o, F b → H b = some o → F' b) : ∀ {ts : List T} {vs : List V}, TreesIn F H ts vs → TreesIn F' H' ts vs
  | [], _, h => by rw [TreesIn] at h ⊢; exact h
  | c :: r, vs, h => by
    rw [TreesIn] at h ⊢
    obtain ⟨v, vs', e, h1, h2⟩ := h
    exact ⟨v, vs', e, TreeIn.mono k f h1, TreesIn.mono k f h2⟩
end
theorem TreeIn.same {F : Addr → Prop} {H H' : Hp} {t : T} {v : V} (h : TreeIn F H t v) (s : Same H H') : TreeIn F H' t v := h.mono (fun b o _ e _ => s b o e) fun _ _ f _ => f
theorem TreesIn.same {F : Addr → Prop} {H H' : Hp} {t : List T} {v : List V} (h : TreesIn F H t v) (s : Same H H') : TreesIn F H' t v := h.mono (fun b o _ e _ => s b o e) fun _ _ f _ => f
/-- a tree anywhere -/
abbrev At (H : Hp) (t : T) (v : V) : Prop := TreeIn (fun _ => True) H t v
abbrev Ats (H : Hp) (t : List T) (v : List V) : Prop := TreesIn (fun _ => True) H t v
theorem TreeIn.any {F : Addr → Prop} {H : Hp} {t : T} {v : V} (h : TreeIn F H t v) : At H t v := h.mono (fun _ _ _ e _ => e) fun _ _ _ _ => True.intro
theorem TreesIn.any {F : Addr → Prop} {H : Hp} {t : List T} {v : List V} (h : TreesIn F H t v) : Ats H t v := h.mono (fun _ _ _ e _ => e) fun _ _ _ _ => True.intro
theorem TreesIn.len {F : Addr → Prop} {H : Hp} : ∀ {ts : List T} {vs : List V}, TreesIn F H ts vs → vs.length = ts.length
  | [], _, h => by rw [TreesIn] at h; rw [h]; rfl
  | c :: r, vs, h => by
    rw [TreesIn] at h
    obtain ⟨v, vs', rfl, _, h2⟩ := h
    rw [List.length_cons, List.length_cons, TreesIn.len h2]
theorem TreesIn.get {F : Addr → Prop} {H : Hp} : ∀ {ts : List T} {vs : List V} {i : Nat} {v : V}, TreesIn F H ts vs → vs[i]? = some v → ∃ t, ts[i]? = some t ∧ TreeIn F H t v
  | [], vs, i, v, h, e => by rw [TreesIn] at h; rw [h] at e; simp at e
  | c :: r, vs, i, v, h, e => by
    rw [TreesIn] at h
    obtain ⟨u, vs', rfl, h1, h2⟩ := h
    cases i with
    | zero =>
      simp at e
      subst e
      exact ⟨c, rfl, h1⟩
    | succ i =>
      simp at e
      obtain ⟨t, q, h⟩ := TreesIn.get h2 e
      exact ⟨t, by simpa using q, h⟩
theorem TreesIn.get' {F : Addr → Prop} {H : Hp} {ts : List T} {vs : List V} {i : Nat} {t : T} (h : TreesIn F H ts vs) (e : ts[i]? = some t) : ∃ v, vs[i]? = some v ∧ TreeIn F H t v := by
  have hi : i < vs.length := by rw [h.len]; exact (List.getElem?_eq_some_iff.mp e).1
  obtain ⟨u, q, k⟩ := h.get (List.getElem?_eq_getElem hi)
  rw [e] at q
  cases q
  exact ⟨_, List.getElem?_eq_getElem hi, k⟩
theorem TreesIn.append {F : Addr → Prop} {H : Hp} : ∀ {ts us : List T} {vs ws : List V}, TreesIn F H ts vs → TreesIn F H us ws → TreesIn F H (ts ++ us) (vs ++ ws)
  | [], us, vs, ws, h, k => by rw [TreesIn] at h; rw [h]; exact k
  | c :: r, us, vs, ws, h, k => by
    rw [TreesIn] at h
    obtain ⟨v, vs', rfl, h1, h2⟩ := h
    rw [List.cons_append, TreesIn]
    exact ⟨v, vs' ++ ws, rfl, h1, TreesIn.append h2 k⟩
theorem TreesIn.take {F : Addr → Prop} {H : Hp} : ∀ {ts : List T} {vs : List V} (i : Nat), TreesIn F H ts vs → TreesIn F H (ts.take i) (vs.take i)
  | _, _, 0, _ => by rw [List.take_zero, List.take_zero, TreesIn]
  | [], vs, i + 1, h => by rw [TreesIn] at h; rw [h]; rw [List.take_nil, List.take_nil, TreesIn]
  | c :: r, vs, i + 1, h => by
    rw [TreesIn] at h
    obtain ⟨v, vs', rfl, h1, h2⟩ := h
    rw [List.take_succ_cons, List.take_succ_cons, TreesIn]
    exact ⟨v, vs'.take i, rfl, h1, TreesIn.take i h2⟩
theorem TreesIn.drop {F : Addr → Prop} {H : Hp} : ∀ {ts : List T} {vs : List V} (i : Nat), TreesIn F H ts vs → TreesIn F H (ts.drop i) (vs.drop i)
  | _, _, 0, h => h
  | [], vs, i + 1, h => by rw [TreesIn] at h; rw [h]; rw [List.drop_nil, List.drop_nil, TreesIn]
  | c :: r, vs, i + 1, h => by
    rw [TreesIn] at h
    obtain ⟨v, vs', rfl, h1, h2⟩ := h
    exact TreesIn.drop i h2
theorem TreesIn.one {F : Addr → Prop} {H : Hp} {t : T} {v : V} (h : TreeIn F H t v) : TreesIn F H [t] [v] := by
  rw [TreesIn]
  exact ⟨v, [], rfl, h, by rw [TreesIn]⟩
theorem TreesIn.nil {F : Addr → Prop} {H : Hp} : TreesIn F H [] [] := by rw [TreesIn]
/-! ### a comprehension without a test, its elements by a relation -/
theorem lc_rel {J : It} {n : Nat} {G : Hp → Prop} {Y : Nat → Hp → V → Hp → Prop} (w : Walk J n G Y) {g : TG} {te : TE} {vs : List Nat} {σ : L2.St} {H1 : Hp} {D : Addr} {Qd : Hp → Prop} (hD : H1 D = none) (hn : n ≤ sizeLine) (Rl : Nat → V → Hp → Prop)
    (hst : ∀ i y H H' acc, H D = some (.lst acc) → But D H H' → Rl i y H → Rl i y H') (hG : ∀ H, Same H1 H → G H)
    (hs : ∀ i x H H' (R : V → Hp → Prop), i < n → Same H1 H → Y i H x H' → (∀ y H3, Same H H3 → Rl i y H3 → R y H3) → g x (wipe σ vs) H' fun σ2 H2 => wipe σ2 vs = wipe σ vs ∧ te σ2 H2 R)
    (hd : ∀ H ys, Same H1 H → H D = some (.lst ys) → ys.length = n → (∀ i y, ys[i]? = some y → Rl i y H) → Qd H) :
    ∃ W : Nat → Nat → Hp → Prop, (∃ m, W 0 m (upd H1 D (.lst []))) ∧ ∀ i m H, W i m H →
      (J.stop i H ∧ Qd H) ∨ (J.go i H ∧ ∃ Nx : Hp → Prop, (∀ H', Nx H' → ∃ m', m' < m ∧ W (i + 1) m' H') ∧ ∀ x H', J.yld i H x H' → g x (wipe σ vs) H' fun σ2 H2 => wipe σ2 vs = wipe σ vs ∧ tYes σ2 H2 fun b H3 =>
        if b = true then te σ2 H3 fun y H4 => ∃ acc, H4 D = some (.lst acc) ∧ acc.length < sizeLine ∧ Nx (upd H4 D (.lst (acc ++ [y]))) else Nx H3) := by
  refine lc_it w (fun i H => Same H1 H ∧ ∃ ys, H D = some (.lst ys) ∧ ys.length = i ∧ ∀ j y, ys[j]? = some y → Rl j y H) ⟨same_new hD _, [], upd_same, rfl, fun j y e => by simp at e⟩ (fun i H _ q => hG H q.1) ?_ ?_
  · rintro i x H H' hi ⟨s, ys, hY, hl, hr⟩ y
    refine hs i x H H' (fun y H4 => ∃ acc, H4 D = some (.lst acc) ∧ acc.length < sizeLine ∧ (Same H1 (upd H4 D (.lst (acc ++ [y]))) ∧ ∃ ys, (upd H4 D (.lst (acc ++ [y]))) D = some (.lst ys) ∧ ys.length = i + 1 ∧ ∀ j z, ys[j]? = some z → Rl j z (upd H4 D (.lst (acc ++ [y]))))) hi s y fun z H3 s3 hz => ?_
    have hD3 := s3 D _ hY
    have bt : But D H3 (upd H3 D (.lst (ys ++ [z]))) := (But.refl H3).put _
    refine ⟨ys, hD3, by omega, Same.at (s.trans s3) hD _, ys ++ [z], upd_same, by rw [List.length_append, hl]; rfl, fun j u e => ?_⟩
    by_cases hj : j < ys.length
    · rw [List.getElem?_append_left hj] at e
      exact hst j u H3 _ ys hD3 bt (hst j u H H3 ys hY (But.of s3) (hr j u e))
    · rw [List.getElem?_append_right (by omega)] at e
      have e0 : j - ys.length = 0 := by
        cases q : j - ys.length with
        | zero => rfl
        | succ k => rw [q] at e; simp at e
      rw [e0] at e
      simp at e
      have ej : j = i := by omega
      subst e ej
      exact hst j z H3 _ ys hD3 bt hz
  · rintro H ⟨s, ys, hY, hl, hr⟩
    exact hd H ys s hY hl hr
/-- .. each element a value told by its place -/
theorem lc_fn {J : It} {n : Nat} {G : Hp → Prop} {Y : Nat → Hp → V → Hp → Prop} (w : Walk J n G Y) {g : TG} {te : TE} {vs : List Nat} {σ : L2.St} {H1 : Hp} {D : Addr} {Qd : Hp → Prop} (hD : H1 D = none) (hn : n ≤ sizeLine) (f : Nat → V) (hG : ∀ H, Same H1 H → G H)
    (hs : ∀ i x H H' (R : V → Hp → Prop), i < n → Same H1 H → Y i H x H' → (∀ H3, Same H H3 → R (f i) H3) → g x (wipe σ vs) H' fun σ2 H2 => wipe σ2 vs = wipe σ vs ∧ te σ2 H2 R)
    (hd : ∀ H, Same H1 H → H D = some (.lst ((List.range n).map f)) → Qd H) :
    ∃ W : Nat → Nat → Hp → Prop, (∃ m, W 0 m (upd H1 D (.lst []))) ∧ ∀ i m H, W i m H →
      (J.stop i H ∧ Qd H) ∨ (J.go i H ∧ ∃ Nx : Hp → Prop, (∀ H', Nx H' → ∃ m', m' < m ∧ W (i + 1) m' H') ∧ ∀ x H', J.yld i H x H' → g x (wipe σ vs) H' fun σ2 H2 => wipe σ2 vs = wipe σ vs ∧ tYes σ2 H2 fun b H3 =>
        if b = true then te σ2 H3 fun y H4 => ∃ acc, H4 D = some (.lst acc) ∧ acc.length < sizeLine ∧ Nx (upd H4 D (.lst (acc ++ [y]))) else Nx H3) := by
  refine lc_rel w hD hn (fun i y _ => y = f i) (fun _ _ _ _ _ _ _ h => h) hG (fun i x H H' R hi s y h => hs i x H H' R hi s y fun H3 s3 => h _ H3 s3 rfl) fun H ys s hY hl hr => ?_
  have e : ys = (List.range n).map f := by
    apply List.ext_getElem?
    intro j
    by_cases hj : j < n
    · have q := hr j (ys[j]'(by omega)) (List.getElem?_eq_getElem (by omega))
      rw [List.getElem?_eq_getElem (by omega), q]
      simp [hj]
    · rw [List.getElem?_eq_none (by omega), List.getElem?_eq_none (by simp; omega)]
  rw [e] at hY
  exact hd H s hY
end Tk

/-! k27: is_name, is_character, is_text, is_string. -/
namespace Tk
open PySem PySem.Spec PyProof.Rows L2
open Tp (Tree)
/-! ### names and texts -/
def chIn (c : Nat) : Bool := decide (c ∈ letters.cps.toList)
def isName (z : Str) : Bool := if (1 : Int) ≤ (z.length : Int) ∧ (z.length : Int) ≤ 12 then z.cps.toList.all chIn else false
/-- '\n', or from ' ' to '~', as the comparisons say it -/
def chOk (c : Nat) : Bool := if c = 10 then true else if (!decide ([c] < [32])) = true then !decide ([126] < [c]) else false
def isText (z : Str) : Bool := if (1 : Int) ≤ (z.length : Int) ∧ (z.length : Int) ≤ 200 then z.cps.toList.all chOk else false
def spName : Sp := fun vs H Q _ => ∃ z : Str, vs = [.str z] ∧ z.length ≤ 1000 ∧ ∀ H', Same H H' → Q (.bl (isName z)) H'
def spChar : Sp := fun vs H Q _ => ∃ c : Nat, vs = [.str ⟨#[c]⟩] ∧ Q (.bl (chOk c)) H
def spText : Sp := fun vs H Q _ => ∃ z : Str, vs = [.str z] ∧ z.length ≤ 1000 ∧ ∀ H', Same H H' → Q (.bl (isText z)) H'
theorem small16 {n : Nat} (h : n ≤ 1000) : n ≤ sizeLine := Nat.le_of_lt (small1000 h)
/-- the bools of the signs -/
theorem range_all (z : Str) (f : Nat → Bool) : (List.range z.cps.size).map (fun i => V.bl (f (z.cps[i]?.getD 0))) = (z.cps.toList.map f).map V.bl := by
  apply List.ext_getElem?
  intro j
  by_cases hj : j < z.cps.size
  · simp [hj]
  · rw [List.getElem?_eq_none (by simp; omega), List.getElem?_eq_none (by simp; omega)]
theorem all_map (l : List Nat) (f : Nat → Bool) : (l.map f).all id = l.all f := by
  rw [List.all_map]
  rfl
section
variable {P : Program} {w : World} {K : PySem.W.Frag} {mg : Str → Option Value} {base : Heap}
theorem scName : FnScope ["word", "letter"] ["word"] (defScope sIsName) := ⟨rfl, rfl, rfl, by decide +kernel, rfl, by decide +kernel, by decide +kernel⟩
theorem ok_name {f : Addr} {fd : FuncData} (F : Fun K "is_name" "is_name" sIsName f fd) (X : Txt mg) : FnOk P w K mg base CX0 1 f fd ["word"] spName := by
  refine F.ok scName (fun vs H Q E h => ?_) (fun cdv A outer s H vs Q E hr h => ?_)
  · obtain ⟨z, rfl, _⟩ := h
    rfl
  · obtain ⟨z, rfl, hz, q⟩ := h
    obtain ⟨tL, mL⟩ := X.letters
    obtain ⟨tM, mM⟩ := X.mostL
    refine ⟨_, pss_one (ps_ret (pe_and (pe_chain op_le op_le pe_int (pe_callB call_len rfl X.len PySem.boot_len (pa_cons (pv 0) pa_nil)) (pe_glob (v := .int 12) rfl mM ⟨_, rfl⟩))
      (pe_one (pe_callB (cr_all rfl) rfl X.all (by decide +kernel) (pa_cons
        (pe_lc (own := [("letter", 1)]) (g := gName 1) (tt := tYes) rfl scName.nd (pi_str (pv 0)) (blkOk_by (N := ["word", "letter"]) (sc := defScope sIsName) (by decide +kernel))
          (fun _ _ _ _ _ => pg_name (i := 1) scName.nd rfl (Or.inl rfl)) (fun _ _ _ _ _ => pts_nil) (fun _ _ _ _ _ => pe_cmpR op_in_sign (pv 1) (pe_glob (v := .str letters) rfl mL ⟨_, rfl⟩) rfl)) pa_nil))))), ?_⟩
    refine ⟨_, rfl, _, (z.length : Nat), rfl, ⟨small16 hz, rfl⟩, _, _, rfl, rfl, _, rfl, ?_⟩
    by_cases c1 : (1 : Int) ≤ (z.length : Int)
    · refine ite2 (fun _ => ?_) (fun n => absurd (decide_eq_true c1) n)
      refine ⟨_, _, rfl, rfl, _, rfl, ?_⟩
      by_cases c2 : (z.length : Int) ≤ 12
      · refine ite2 (fun _ => ?_) (fun n => absurd (decide_eq_true c2) n)
        refine ⟨_, rfl, z, rfl, fun D hD => ?_⟩
        refine lc_fn walk_str (H1 := H) hD (small16 hz) (fun i => V.bl (chIn (z.cps[i]?.getD 0))) (fun _ _ => True.intro) ?_ ?_
        · rintro i x H1 H2 R hi s1 ⟨rfl, c, hc, rfl⟩ hR
          refine ⟨rfl, _, rfl, c, letters, rfl, rfl, ?_⟩
          have e := hR H2 (Same.refl _)
          rw [hc] at e
          exact e
        · intro H1 s1 hY
          rw [range_all z chIn] at hY
          refine ⟨D, z.cps.toList.map chIn, rfl, SqL.of hY, ?_⟩
          rw [all_map]
          have e := q H1 s1
          unfold isName at e
          rw [if_pos ⟨c1, c2⟩] at e
          exact e
      · refine ite2 (fun y => absurd (of_decide_eq_true y) c2) (fun _ => ?_)
        have e := q H (Same.refl _)
        unfold isName at e
        rw [if_neg (fun y => c2 y.2)] at e
        exact e
    · refine ite2 (fun y => absurd (of_decide_eq_true y) c1) (fun _ => ?_)
      refine ⟨_, rfl, iteF ?_⟩
      have e := q H (Same.refl _)
      unfold isName at e
      rw [if_neg (fun y => c1 y.1)] at e
      exact e
theorem scChar : FnScope ["letter"] ["letter"] (defScope sIsChar) := ⟨rfl, rfl, rfl, by decide +kernel, rfl, by decide +kernel, by decide +kernel⟩
theorem ok_char {f : Addr} {fd : FuncData} (F : Fun K "is_character" "is_character" sIsChar f fd) : FnOk P w K mg base CX0 1 f fd ["letter"] spChar := by
  refine F.ok scChar (fun vs H Q E h => ?_) (fun cdv A outer s H vs Q E hr h => ?_)
  · obtain ⟨z, rfl, _⟩ := h
    rfl
  · obtain ⟨c, rfl, q⟩ := h
    refine ⟨_, pss_one (ps_ret (pe_or (pe_cmpR op_eq (pv 0) pe_str (nomark _)) (pe_one (pe_chain op_le_str op_le_str pe_str (pv 0) pe_str)))), ?_⟩
    unfold chOk at q
    refine ⟨_, rfl, rfl, _, rfl, ?_⟩
    have e10 : decide (V.str ⟨#[c]⟩ = V.str (Str.ofString "\n")) = decide (c = 10) := by
      refine decide_eq_decide.mpr ⟨fun h => ?_, fun h => by rw [h]; rfl⟩
      injection h with h
      have h2 : (#[c] : Array Nat) = #[10] := congrArg Str.cps h
      simpa using h2
    by_cases c1 : c = 10
    · rw [if_pos c1] at q
      refine ite2 (fun _ => q) (fun n => absurd (e10.trans (decide_eq_true c1)) n)
    · rw [if_neg c1] at q
      refine ite2 (fun y => absurd (of_decide_eq_true (e10.symm.trans y)) c1) (fun _ => ?_)
      refine ⟨_, rfl, _, _, rfl, rfl, _, rfl, ?_⟩
      by_cases c2 : (!decide ([c] < [32])) = true
      · rw [if_pos c2] at q
        refine ite2 (fun _ => ?_) (fun n => absurd c2 n)
        exact ⟨_, _, rfl, rfl, q⟩
      · rw [if_neg c2] at q
        refine ite2 (fun y => absurd y c2) (fun _ => q)
theorem scText : FnScope ["string", "letter"] ["string"] (defScope sIsText) := ⟨rfl, rfl, rfl, by decide +kernel, rfl, by decide +kernel, by decide +kernel⟩
theorem ok_text {f : Addr} {fd : FuncData} (F : Fun K "is_text" "is_text" sIsText f fd) (X : Txt mg) (C : Has P w K mg base CX0 1 "is_character" ["letter"] spChar) : FnOk P w K mg base CX0 2 f fd ["string"] spText := by
  obtain ⟨fC, fdC, GC, bC, kC, mC⟩ := C
  refine F.ok scText (fun vs H Q E h => ?_) (fun cdv A outer s H vs Q E hr h => ?_)
  · obtain ⟨z, rfl, _⟩ := h
    rfl
  · obtain ⟨z, rfl, hz, q⟩ := h
    obtain ⟨tM, mM⟩ := X.mostT
    refine ⟨_, pss_one (ps_ret (pe_and (pe_chain op_le op_le pe_int (pe_callB call_len rfl X.len PySem.boot_len (pa_cons (pv 0) pa_nil)) (pe_glob (v := .int 200) rfl mM ⟨_, rfl⟩))
      (pe_one (pe_callB (cr_all rfl) rfl X.all (by decide +kernel) (pa_cons
        (pe_lc (own := [("letter", 1)]) (g := gName 1) (tt := tYes) rfl scText.nd (pi_str (pv 0)) (blkOk_by (N := ["string", "letter"]) (sc := defScope sIsText) (by decide +kernel))
          (fun _ _ _ _ _ => pg_name (i := 1) scText.nd rfl (Or.inl rfl)) (fun _ _ _ _ _ => pts_nil) (fun _ _ _ _ _ => pe_call GC hr rfl mC kC bC .nil pass0 (pa_cons (pv 1) pa_nil))) pa_nil))))), ?_⟩
    refine ⟨_, rfl, _, (z.length : Nat), rfl, ⟨small16 hz, rfl⟩, _, _, rfl, rfl, _, rfl, ?_⟩
    by_cases c1 : (1 : Int) ≤ (z.length : Int)
    · refine ite2 (fun _ => ?_) (fun n => absurd (decide_eq_true c1) n)
      refine ⟨_, _, rfl, rfl, _, rfl, ?_⟩
      by_cases c2 : (z.length : Int) ≤ 200
      · refine ite2 (fun _ => ?_) (fun n => absurd (decide_eq_true c2) n)
        refine ⟨_, rfl, z, rfl, fun D hD => ?_⟩
        refine lc_fn walk_str (H1 := H) hD (small16 hz) (fun i => V.bl (chOk (z.cps[i]?.getD 0))) (fun _ _ => True.intro) ?_ ?_
        · rintro i x H1 H2 R hi s1 ⟨rfl, c, hc, rfl⟩ hR
          refine ⟨rfl, _, rfl, c, rfl, ?_⟩
          have e := hR H2 (Same.refl _)
          rw [hc] at e
          exact e
        · intro H1 s1 hY
          rw [range_all z chOk] at hY
          refine ⟨D, z.cps.toList.map chOk, rfl, SqL.of hY, ?_⟩
          rw [all_map]
          have e := q H1 s1
          unfold isText at e
          rw [if_pos ⟨c1, c2⟩] at e
          exact e
      · refine ite2 (fun y => absurd (of_decide_eq_true y) c2) (fun _ => ?_)
        have e := q H (Same.refl _)
        unfold isText at e
        rw [if_neg (fun y => c2 y.2)] at e
        exact e
    · refine ite2 (fun y => absurd (of_decide_eq_true y) c1) (fun _ => ?_)
      refine ⟨_, rfl, iteF ?_⟩
      have e := q H (Same.refl _)
      unfold isText at e
      rw [if_neg (fun y => c1 y.1)] at e
      exact e
/-! ### is_string -/
def isStr : T → Bool
  | .text _ => true
  | .elem _ _ => false
theorem At.ty {H : Hp} {t : T} {v : V} (h : At H t v) : TyX K H v (if isStr t = true then .type "str" else .type "tuple") := by
  cases t with
  | text s => rw [At, TreeIn] at h; rw [h]; exact .base (.str s)
  | elem n cs =>
    rw [At, TreeIn] at h
    obtain ⟨t, l, vs, rfl, _, _, h1, _⟩ := h
    exact .base (.tup h1)
theorem kit_str (t : T) : PySem.W.kitOne K (if isStr t = true then .type "str" else .type "tuple") (.type "str") = some (isStr t) := by
  cases t with
  | text s => exact kit_ty (show kitB "str" "str" = some true by decide +kernel)
  | elem n cs => exact kit_ty (show kitB "tuple" "str" = some false by decide +kernel)
def spString : Sp := fun vs H Q _ => ∃ (t : T) (v : V), vs = [v] ∧ At H t v ∧ Q (.bl (isStr t)) H
theorem scString : FnScope ["tree"] ["tree"] (defScope sIsString) := ⟨rfl, rfl, rfl, by decide +kernel, rfl, by decide +kernel, by decide +kernel⟩
theorem ok_string {f : Addr} {fd : FuncData} (F : Fun K "is_string" "is_string" sIsString f fd) (X : Txt mg) : FnOk P w K mg base CX0 1 f fd ["tree"] spString := by
  refine F.ok scString (fun vs H Q E h => ?_) (fun cdv A outer s H vs Q E hr h => ?_)
  · obtain ⟨t, v, rfl, _⟩ := h
    rfl
  · obtain ⟨t, v, rfl, hT, q⟩ := h
    refine ⟨_, pss_one (ps_ret (pe_callB call_isi rfl X.isi (by decide +kernel) (pa_cons (pv 0) (pa_cons (pe_bltn (v := .ty "str") rfl X.str (by decide +kernel) rfl) pa_nil)))), ?_⟩
    exact ⟨_, rfl, _, _, _, _, _, rfl, .ty "str", hT.ty, kit_str t, q⟩
end
end Tk

/-! k27: are_apart, is_tree. -/
namespace Tk
open PySem PySem.Spec PyProof.Rows L2
open Tp (Tree)
/-! ### right trees -/
def apart : List T → Bool
  | a :: b :: r => !(isStr b && isStr a) && apart (b :: r)
  | _ => true
mutual
def good : T → Bool
  | .text s => isText s
  | .elem n cs => isName n && apart cs && goodL cs
def goodL : List T → Bool
  | [] => true
  | c :: r => good c && goodL r
end
theorem goodL_app : ∀ a b : List T, goodL (a ++ b) = (goodL a && goodL b)
  | [], b => by rw [List.nil_append, goodL, Bool.true_and]
  | c :: r, b => by rw [List.cons_append, goodL, goodL, goodL_app r b, Bool.and_assoc]
/-! short texts and names -/
mutual
def lenOk : T → Prop
  | .text s => s.length ≤ 1000
  | .elem n cs => n.length ≤ 1000 ∧ lenOkL cs
def lenOkL : List T → Prop
  | [] => True
  | c :: r => lenOk c ∧ lenOkL r
end
theorem lenOkL_app : ∀ {a b : List T}, lenOkL (a ++ b) ↔ lenOkL a ∧ lenOkL b
  | [], b => by rw [List.nil_append, lenOkL, true_and]
  | c :: r, b => by rw [List.cons_append, lenOkL, lenOkL, lenOkL_app, and_assoc]
theorem sizeL_app : ∀ a b : List T, Tp.sizeL (a ++ b) = Tp.sizeL a + Tp.sizeL b
  | [], b => by rw [List.nil_append, Tp.sizeL, Nat.zero_add]
  | c :: r, b => by rw [List.cons_append, Tp.sizeL, Tp.sizeL, sizeL_app r b, Nat.add_assoc]
theorem size_pos (t : T) : 1 ≤ Tp.size t := by
  cases t with
  | text s => rw [Tp.size]; exact Nat.le_refl _
  | elem n cs => rw [Tp.size]; omega
theorem len_size : ∀ l : List T, l.length ≤ Tp.sizeL l
  | [] => Nat.le_refl _
  | c :: r => by
    have h1 := size_pos c
    have h2 := len_size r
    rw [List.length_cons, Tp.sizeL]
    omega
theorem snoc_of {α : Type} : ∀ {l : List α}, l ≠ [] → ∃ a x, l = a ++ [x]
  | [], h => absurd rfl h
  | [x], _ => ⟨[], x, rfl⟩
  | x :: y :: r, _ => by
    obtain ⟨a, z, e⟩ := snoc_of (l := y :: r) (by simp)
    exact ⟨x :: a, z, by rw [e]; rfl⟩
theorem TreesIn.split {F : Addr → Prop} {H : Hp} : ∀ {a b : List T} {vs : List V}, TreesIn F H (a ++ b) vs → ∃ va vb, vs = va ++ vb ∧ TreesIn F H a va ∧ TreesIn F H b vb
  | [], b, vs, h => ⟨[], vs, rfl, TreesIn.nil, h⟩
  | c :: r, b, vs, h => by
    rw [List.cons_append, TreesIn] at h
    obtain ⟨v, vs', rfl, h1, h2⟩ := h
    obtain ⟨va, vb, rfl, h3, h4⟩ := TreesIn.split h2
    exact ⟨v :: va, vb, rfl, by rw [TreesIn]; exact ⟨v, va, rfl, h1, h3⟩, h4⟩
theorem TreesIn.pop {F : Addr → Prop} {H : Hp} {ts : List T} {vs : List V} (h : TreesIn F H ts vs) (hne : vs ≠ []) : ∃ ts' t vs' v, ts = ts' ++ [t] ∧ vs = vs' ++ [v] ∧ TreesIn F H ts' vs' ∧ TreeIn F H t v := by
  have hne' : ts ≠ [] := fun e => hne (by
    have q := h.len
    rw [e] at q
    exact List.eq_nil_of_length_eq_zero q)
  obtain ⟨ts', t, rfl⟩ := snoc_of hne'
  obtain ⟨va, vb, rfl, h1, h2⟩ := h.split
  rw [TreesIn] at h2
  obtain ⟨v, vs', rfl, h3, h4⟩ := h2
  rw [TreesIn] at h4
  subst h4
  exact ⟨ts', t, va, v, rfl, rfl, h1, h3⟩
theorem pop_last {α : Type} (a : List α) (x : α) : (a ++ [x])[(a ++ [x]).length - 1]? = some x := by simp
theorem pop_init {α : Type} (a : List α) (x : α) : (a ++ [x]).dropLast = a := by simp
theorem cut_from (xs : List V) (k : Nat) : cutV xs (some (k : Int)) none = xs.drop k := by
  unfold cutV
  rw [HT.sIx_nat, HT.sIx_none]
  by_cases h : k ≤ xs.length
  · rw [Nat.min_eq_left h]
    exact List.take_of_length_le (by rw [List.length_drop]; exact Nat.le_refl _)
  · rw [Nat.min_eq_right (by omega), List.drop_length, List.drop_eq_nil_of_le (by omega), List.take_nil]
theorem cut_to (xs : List V) (k : Nat) : cutV xs none (some (k : Int)) = xs.take k := by
  unfold cutV
  rw [HT.sIx_nat, HT.sIx_none, List.drop_zero, Nat.sub_zero]
  by_cases h : k ≤ xs.length
  · rw [Nat.min_eq_left h]
  · rw [Nat.min_eq_right (by omega), List.take_length, List.take_of_length_le (by omega)]
/-- the pairs of neighbours -/
def nextTo (cs : List T) (i : Nat) : Bool := match cs[i + 1]?, cs[i]? with
  | some b, some a => isStr b && isStr a
  | _, _ => false
theorem any_next : ∀ cs : List T, ((List.range (cs.length - 1)).map (nextTo cs)).any id = !apart cs
  | [] => rfl
  | [a] => rfl
  | a :: b :: r => by
    have ih := any_next (b :: r)
    have e : (a :: b :: r).length - 1 = ((b :: r).length - 1) + 1 := by simp
    have e2 : (List.range ((b :: r).length - 1)).map (nextTo (a :: b :: r) ∘ Nat.succ) = (List.range ((b :: r).length - 1)).map (nextTo (b :: r)) := by
      refine List.map_congr_left fun i _ => ?_
      show nextTo (a :: b :: r) (i + 1) = nextTo (b :: r) i
      unfold nextTo
      rw [List.getElem?_cons_succ, List.getElem?_cons_succ (a := a) (l := b :: r)]
    rw [e, List.range_succ_eq_map, List.map_cons, List.map_map, e2, List.any_cons, ih, apart]
    show (nextTo (a :: b :: r) 0 || !apart (b :: r)) = !(!(isStr b && isStr a) && apart (b :: r))
    have e3 : nextTo (a :: b :: r) 0 = (isStr b && isStr a) := rfl
    rw [e3]
    cases isStr b && isStr a <;> cases apart (b :: r) <;> rfl
def spApart : Sp := fun vs H Q _ => ∃ (a : Addr) (cs : List T) (ws : List V), vs = [.ref a] ∧ H a = some (.lst ws) ∧ Ats H cs ws ∧ cs.length ≤ 1000 ∧ ∀ H', Same H H' → Q (.bl (apart cs)) H'
def spTree : Sp := fun vs H Q _ => ∃ (t : T) (v : V), vs = [v] ∧ At H t v ∧ lenOk t ∧ Tp.size t ≤ 1000 ∧ ∀ H', Same H H' → Q (.bl (good t)) H'
section
variable {P : Program} {w : World} {K : PySem.W.Frag} {mg : Str → Option Value} {base : Heap}
theorem scApart : FnScope ["children", "place", "tree"] ["children"] (defScope sApart) := ⟨rfl, rfl, rfl, by decide +kernel, rfl, by decide +kernel, by decide +kernel⟩
theorem ok_apart {f : Addr} {fd : FuncData} (F : Fun K "are_apart" "are_apart" sApart f fd) (X : Txt mg) (S : Has P w K mg base CX0 1 "is_string" ["tree"] spString) : FnOk P w K mg base CX0 2 f fd ["children"] spApart := by
  obtain ⟨fS, fdS, GS, bS, kS, mS⟩ := S
  refine F.ok scApart (fun vs H Q E h => ?_) (fun cdv A outer s H vs Q E hr h => ?_)
  · obtain ⟨a, cs, ws, rfl, _⟩ := h
    rfl
  · obtain ⟨a, cs, ws, rfl, ha, hT, hn, q⟩ := h
    refine ⟨_, pss_one (ps_ret (pe_not (pe_callB (cr_any rfl) rfl X.any (by decide +kernel) (pa_cons
        (pe_lc (own := [("place", 1), ("tree", 2)]) (g := gTup K 2 (gCons (gName 1) (gCons (gName 2) gNil))) (tt := tYes) rfl scApart.nd (pi_enum rfl X.enum (pa_cons (pe_slice sl_list (pv 0) (po_some pe_int) po_none) pa_nil)) (blkOk_by (N := ["children", "place", "tree"]) (sc := defScope sApart) (by decide +kernel))
          (fun _ _ _ _ _ => pg_tup rfl (pgs_cons (pg_name (i := 1) scApart.nd rfl (Or.inl rfl)) (pgs_cons (pg_name (i := 2) scApart.nd rfl (Or.inl rfl)) pgs_nil))) (fun _ _ _ _ _ => pts_nil)
          (fun _ _ _ _ _ => pe_and (pe_call GS hr rfl mS kS bS .nil pass0 (pa_cons (pv 2) pa_nil)) (pe_one (pe_call GS hr rfl mS kS bS .nil pass0 (pa_cons (pe_ix (show IxR _ (rIxL K) from ix_list) (pv 0) (pv 1) (fun _ _ => rfl)) pa_nil))))) pa_nil)))), ?_⟩
    refine ⟨_, rfl, _, rfl, a, ws, rfl, SqL.of ha, fun p hp => ?_⟩
    have ec : cutV ws (some 1) none = ws.drop 1 := cut_from ws 1
    rw [ec]
    have lw : ws.length = cs.length := hT.len
    have sp := same_new hp (HO.lst (ws.drop 1))
    refine ⟨p, ws.drop 1, rfl, SqL.of upd_same, fun D hD => ?_⟩
    have hpD : p ≠ D := fun e => by rw [← e, upd_same] at hD; cases hD
    refine lc_fn walk_enum (H1 := upd H p (.lst (ws.drop 1))) hD (by rw [List.length_drop]; exact small16 (by omega)) (fun i => V.bl (nextTo cs i)) (fun H1 s1 => SqL.of (s1 _ _ upd_same)) ?_ ?_
    · rintro i x H1 H2 R hi s1 ⟨tt, x1, x2, rfl, hT1, rfl, e1, e2⟩ hR
      rw [List.length_drop] at hi
      cases e1
      have e2' : ws[i + 1]? = some x2 := by
        have e3 : (ws.drop 1)[i]? = some x2 := e2
        rw [List.getElem?_drop] at e3
        rw [Nat.add_comm]; exact e3
      have s2 : Same H (upd H1 tt (.tup [.int (i : Nat), x2])) := Same.new (sp.trans s1) hT1 _
      have hT2 : Ats (upd H1 tt (.tup [.int (i : Nat), x2])) cs ws := hT.same s2
      obtain ⟨t2, c2, k2⟩ := hT2.get e2'
      obtain ⟨x1, e1⟩ : ∃ x1, ws[i]? = some x1 := ⟨_, List.getElem?_eq_getElem (by omega)⟩
      obtain ⟨t1, c1, k1⟩ := hT2.get e1
      have en : nextTo cs i = (isStr t2 && isStr t1) := by
        unfold nextTo
        rw [c1, c2]
      refine ⟨tt, _, rfl, SqT.of upd_same, rfl, _, _, rfl, _, _, rfl, rfl, rfl, ?_⟩
      refine ⟨_, rfl, t2, x2, rfl, k2, _, rfl, ?_⟩
      have fin := hR (upd H1 tt (.tup [.int (i : Nat), x2])) (same_new hT1 _)
      rw [en] at fin
      by_cases c : isStr t2 = true
      · refine ite2 (fun _ => ?_) (fun n => absurd c n)
        rw [c, Bool.true_and] at fin
        refine ⟨_, rfl, _, rfl, a, _, _, _, rfl, rfl, SqL.of (s2 _ _ ha), atI_nat e1, t1, x1, rfl, k1, fin⟩
      · refine ite2 (fun y => absurd y c) (fun _ => ?_)
        rw [Bool.eq_false_iff.mpr c, Bool.false_and] at fin
        exact fin
    · intro H1 s1 hY
      refine ⟨D, (List.range (ws.drop 1).length).map (nextTo cs), rfl, SqL.of (by rw [hY, List.map_map]; rfl), _, rfl, ?_⟩
      have e : (List.range (ws.drop 1).length).map (nextTo cs) = (List.range (cs.length - 1)).map (nextTo cs) := by rw [List.length_drop, lw]
      rw [e, any_next, Bool.not_not]
      exact q _ (sp.trans s1)
end
end Tk

/-! k27: list(reversed(xs)). -/
namespace Tk
open PySem PySem.Spec PyProof.Rows L2
section
variable {prog : Program} {w : World} {A : Around} {E : Value → Shared → Prop} {s : Shared}
/-- a reverse iterator tells no length -/
theorem hint_rev {it : Addr} {Q : Bool → Shared → Prop} (hT : s.TypeIs (.ref it) "list_reverseiterator") (h : Q false s) : wpAny (model prog w) A (Builtin.List.listLengthHint (.ref it)) Q E s := by
  unfold Builtin.List.listLengthHint
  refine wpAny_bind (wpAny_specialOf hT RT.nolen_lri ?_)
  show wpAny _ A (specialOf (Value.ref it) (Str.ofString "__length_hint__") >>= _) _ _ _
  refine wpAny_bind (wpAny_specialOf hT RT.hint_lri ?_)
  generalize hid : ("list_reverseiterator.__length_hint__" : String) = id0
  wp_delta
  rw [show splitId id0 = some ("list_reverseiterator", "__length_hint__") from by subst hid; decide +kernel]
  subst hid
  refine wpAny_bind (wpAny_isInstance (b := true) hT (by rw [isSubtype_type]; kernel_rfl) ?_)
  exact wpAny_pure h
/-- S.extend(it), S empty, it a reverse iterator of l at its beginning -/
theorem fill_rev {S it l : Addr} {items : Array Value} {c : Nat} {R : Result → Shared → Prop} (hh : A.handled = none) (hit : s.heap.IsRevIter it l ((items.size : Int) - 1)) (hl : s.heap.IsList l items) (hn : items.size ≤ sizeLine)
    (n1 : S ≠ it) (n2 : S ≠ l) (n3 : l ≠ it) (hS : s.heap.get? S = some { cls := .type "list", data := .seq #[] c })
    (hR : ∀ h' tk acc c', (∀ b o, b ≠ S → b ≠ it → s.heap.get? b = some o → h'.get? b = some o) → h'.get? S = some { cls := .type "list", data := .seq acc c' } → ItemsOf (fun i v => items[items.size - 1 - i]? = some v) acc items.size →
      R (.ok (.ret .none)) { s with heap := h', toks := tk }) :
    wpAny (model prog w) A.in1 (Builtin.List.listExtendWith (.ref S) (.ref it) .none)
      (fun fin s' => match fin with | .done f => R (.ok f) s' | .again c' => c'.quiet = true ∧ codeAny (model prog w) A c' R s') (fun e s' => R (.error e) s') s := by
  have hT : s.TypeIs (.ref it) "list_reverseiterator" := hit.typeIs
  have W := (Walks.listRev (prog := prog) (w := w) (A := A.in1) hh it l n3 items).toS
  have out : S ∉ [it, l] := by simp only [List.mem_cons, List.not_mem_nil, or_false, not_or]; exact ⟨n1, n2⟩
  have other : Builtin.List.listSameRef (.ref S) (.ref it) = false := by simp [Builtin.List.listSameRef, n1]
  unfold Builtin.List.listExtendWith
  refine wpAny_bind (wpAny_typeOf hT ?_)
  rw [if_neg (by rw [other]; decide)]
  refine wpAny_bind (wpAny_pyIter_revIter hit ?_)
  refine wpAny_bind (wpAny_holding (hint_rev hT ?_))
  rw [if_neg (by decide)]
  have e0 : ((items.size : Nat) : Int) - 1 - ((0 : Nat) : Int) = (items.size : Int) - 1 := by omega
  refine wpAny_pure ⟨plainId_quiet F.plain_extend_loop _, codeAny_extend_loopS W hn _ out _ items.size 0 _ _ _ rfl (Nat.zero_le _) ⟨Nat.zero_le _, by rw [e0]; exact hit, hl⟩ hS (ItemsOf.nil _) fun s' acc c' hm hS' hacc => ?_⟩
  rw [Moved.eq_with hm]
  refine hR s'.heap s'.toks acc c' (fun b o hb hb2 e => hm.heap b o (fun z => ?_) e) hS' hacc
  rcases List.mem_cons.mp z with z | z
  · exact hb z
  · exact hb2 (List.mem_singleton.mp z)
/-- list(it), it a reverse iterator -/
theorem call_list_rev {it l : Addr} {items : Array Value} {Q : Value → Shared → Prop} (hh : A.handled = none) (hit : s.heap.IsRevIter it l ((items.size : Int) - 1)) (hl : s.heap.IsList l items) (hn : items.size ≤ sizeLine) (n3 : l ≠ it)
    (hQ : ∀ h' tk acc c', (∀ b o, b ≠ it → s.heap.get? b = some o → h'.get? b = some o) → h'.get? s.heap.objs.size = some { cls := .type "list", data := .seq acc c' } → ItemsOf (fun i v => items[items.size - 1 - i]? = some v) acc items.size →
      Q (.ref s.heap.objs.size) { s with heap := h', toks := tk }) :
    wpAny (model prog w) A (call (.type "list") [.ref it]) Q E s := by
  obtain ⟨oi, hoi, _⟩ := id hit
  obtain ⟨ol, hol, _⟩ := id hl
  refine callType_codes (Q₁ := fun obj s₁ => obj = .ref s.heap.objs.size ∧ s₁ = { s with heap := s.heap.push { cls := .type "list", data := .seq #[] } }) F.called_list (F.typeCall_list_1 _) F.entry_list_init
    (code_list_new _ ⟨rfl, rfl⟩) fun obj s₁ h₁ => ?_
  obtain ⟨rfl, rfl⟩ := h₁
  have new : (s.heap.push { cls := .type "list", data := .seq #[] }).get? s.heap.objs.size = some { cls := .type "list", data := .seq #[] } := Heap.get?_push_size _ rfl
  refine ⟨⟨_, new, rfl⟩, F.args_list_init_2 _ _, ?_⟩
  have lt1 : it < s.heap.objs.size := Heap.lt_size hoi
  have lt2 : l < s.heap.objs.size := Heap.lt_size hol
  show wpAny _ _ (do let old ← Builtin.List.listItems (.ref s.heap.objs.size); Builtin.List.listUpdate (.ref s.heap.objs.size) (fun _ => #[]); letGo old.toList.reverse; Builtin.List.listExtendWith (.ref s.heap.objs.size) (.ref it) .none) _ _ _
  refine wpAny_bind (listItems_at new rfl ?_)
  refine wpAny_bind (listUpdate_at new rfl ?_ (Nat.zero_le _) (Nat.zero_le _))
  refine wpAny_bind (wpAny_letGo ?_)
  have k1 : ∀ b o, b ≠ s.heap.objs.size → s.heap.get? b = some o → ((s.heap.push { cls := .type "list", data := .seq #[] }).update s.heap.objs.size (Obj.mapSeq fun _ => (#[] : Array Value))).get? b = some o := fun b o hb e =>
    (Heap.get?_update_other _ _ (Ne.symm hb)).trans (Heap.get?_push_of_some _ e)
  refine fill_rev (A := A.in1) (l := l) (items := items) (s := { s with heap := (s.heap.push { cls := .type "list", data := .seq #[] }).update s.heap.objs.size (Obj.mapSeq fun _ => (#[] : Array Value)) }) hh (hit.at fun o e => k1 _ o (Nat.ne_of_lt lt1) e) ⟨ol, k1 _ _ (Nat.ne_of_lt lt2) hol, (by obtain ⟨o2, ho2, r⟩ := hl; rw [hol] at ho2; cases ho2; exact r)⟩ hn (Nat.ne_of_gt lt1) (Nat.ne_of_gt lt2) n3 (get?_update_seq new _) fun h' tk acc c' hk hS hacc => ?_
  exact ⟨rfl, hQ h' tk acc c' (fun b o hb e => hk b o (Nat.ne_of_lt (Heap.lt_size e)) hb (k1 b o (Nat.ne_of_lt (Heap.lt_size e)) e)) hS hacc⟩
end
/-- list(reversed(e)), e a list: a new list -/
def tListRev (K : PySem.W.Frag) (te : TE) : TE := fun σ H Q => te σ H fun v H1 => ∃ (a : Addr) (xs : List V), v = .ref a ∧ SqL K H1 a xs ∧ ∀ q, H1 q = none → Q (.ref q) (upd H1 q (.lst xs.reverse))
theorem pe_listRev {X : Cx} {e : Expr} {te : TE} {p p2 pos pos2 : Pos} (hc : X.calm = true) (hg : Gl X "list") (hm : X.mg "list" = none) (hg2 : Gl X "reversed") (hm2 : X.mg "reversed" = none) (he : PE X e te)
    (hs : starEach [e] X.env = (false, eval e X.env) :: starEach [] X.env := by rfl)
    (hs2 : starEach [.Call (.Name "reversed" p2) [e] [] pos2] X.env = (false, eval (.Call (.Name "reversed" p2) [e] [] pos2) X.env) :: starEach [] X.env := by rfl) :
    PE X (.Call (.Name "list" p) [.Call (.Name "reversed" p2) [e] [] pos2] [] pos) (tListRev X.K te) := by
  refine ⟨fun pins s σ H Q I h => ?_⟩
  refine Call_ (ld_blt I hg hm boot_list (PyProof.Rows.callWith_type1 (args_cons (Call_ (ld_blt I hg2 hm2 PyProof.Rows.boot_reversed (PyProof.Rows.callWith_type1 (args_cons (thn (he.run pins s σ H _ I h) fun u s1 hh => args_nil ?_) hs) hs rfl))) hs2) hs2 rfl))
  obtain ⟨v, H1, I1, r1, a, xs, ev, hq, q⟩ := hh
  subst ev
  obtain rfl : u = Value.ref a := r1
  obtain ⟨its, rv, pl, hz⟩ := I1.list hq
  refine call_reversed_list pl.isList (args_nil ?_)
  have hl := pl.isList
  obtain ⟨ol, hol, _⟩ := id hl
  have hsz : (s1.heap.push (revObj a ((its.toArray.size : Int) - 1))).objs.size = s1.heap.objs.size + 1 := by rw [Heap.size_push]
  refine call_list_rev (s := { s1 with heap := s1.heap.push (revObj a ((its.toArray.size : Int) - 1)) }) (I1.ok.hd hc) ⟨_, Heap.get?_push_size _ rfl, rfl, rfl⟩ (hl.push _) (by rw [List.size_toArray, ← rv.length]; exact hz) (Nat.ne_of_lt (Heap.lt_size hol)) fun h' tk acc c' hk hD hacc => ?_
  have up : s1.heap.objs.size ≤ (s1.heap.push (revObj a ((its.toArray.size : Int) - 1))).objs.size := by rw [hsz]; exact Nat.le_succ _
  refine ⟨.ref _, upd H1 _ (.lst xs.reverse), I1.laid (t' := tk) (fun b o e => hk b o (Nat.ne_of_lt (Heap.lt_size e)) (Heap.get?_push_of_some _ e)) up
    (show ObjOk X.prog X.w _ _ _ (.lst xs.reverse) from ⟨by rw [List.length_reverse]; exact hz, acc.toList, c', RT.vals_rev rv hacc, by rw [Array.toArray_toList]; exact hD⟩), rfl, q _ (I1.hok.fresh up)⟩
end Tk

/-! k27: is_tree. -/
namespace Tk
open PySem PySem.Spec PyProof.Rows L2
open Tp (Tree)
theorem pops {α : Type} {l : List α} (h : l ≠ []) : 0 < l.length := List.length_pos_iff.mpr h
/-- here[0], here[1] of an element -/
theorem At.parts {H : Hp} {n : Str} {cs : List T} {v : V} (h : At H (.elem n cs) v) : ∃ t l vs, v = .ref t ∧ H t = some (.tup [.str n, .ref l]) ∧ H l = some (.lst vs) ∧ Ats H cs vs := by
  rw [At, TreeIn] at h
  obtain ⟨t, l, vs, e, _, _, h1, h2, h3⟩ := h
  exact ⟨t, l, vs, e, h1, h2, h3⟩
theorem At.sign {H : Hp} {z : Str} {v : V} (h : At H (.text z) v) : v = .str z := by
  rw [At, TreeIn] at h
  exact h
section
variable {P : Program} {w : World} {K : PySem.W.Frag} {mg : Str → Option Value} {base : Heap}
theorem scTree : FnScope ["tree", "waiting", "here"] ["tree"] (defScope sIsTree) := ⟨rfl, rfl, rfl, by decide +kernel, rfl, by decide +kernel, by decide +kernel⟩
theorem ok_tree {f : Addr} {fd : FuncData} (F : Fun K "is_tree" "is_tree" sIsTree f fd) (X : Txt mg) (S : Has P w K mg base CX0 1 "is_string" ["tree"] spString) (N : Has P w K mg base CX0 1 "is_name" ["word"] spName)
    (Te : Has P w K mg base CX0 2 "is_text" ["string"] spText) (Ap : Has P w K mg base CX0 2 "are_apart" ["children"] spApart) : FnOk P w K mg base CX0 3 f fd ["tree"] spTree := by
  obtain ⟨fS, fdS, GS, bS, kS, mS⟩ := S
  obtain ⟨fN, fdN, GN, bN, kN, mN⟩ := N
  obtain ⟨fT, fdT, GT, bT, kT, mT⟩ := Te
  obtain ⟨fA, fdA, GA, bA, kA, mA⟩ := Ap
  refine F.ok scTree (fun vs H Q E h => ?_) (fun cdv A outer s H vs Q E hr h => ?_)
  · obtain ⟨t, v, rfl, _⟩ := h
    rfl
  · obtain ⟨t, v, rfl, hT, hlen, hsz, q⟩ := h
    have hr1 : Room 1 _ := hr.mono (by decide)
    refine ⟨_, pss_cons (ps_set (i := 1) scTree.nd rfl (Or.inl rfl) (pe_lst (pa_cons (pv 0) pa_nil)))
      (pss_cons (ps_while PassesOwn.never (pt_cmpR op_gt (pe_callB call_len_seq rfl X.len PySem.boot_len (pa_cons (pv 1) pa_nil)) pe_int (nomark _))
        (pss_cons (ps_set (i := 2) scTree.nd rfl (Or.inl rfl) (pe_bm0 PySem.F.plainAttrs_list PySem.F.slot_list_pop PySem.F.type_list_pop mt_pop (pv 1)))
        (pss_one (ps_if (pt_val (pe_call GS hr1 rfl mS kS bS .nil pass0 (pa_cons (pv 2) pa_nil)))
          (pss_one (ps_if (pt_not (pt_val (pe_call GT hr rfl mT kT bT .nil pass0 (pa_cons (pv 2) pa_nil)))) (pss_one (ps_ret pe_bl)) pss_nil))
          (pss_one (ps_if (PW.pt (pw_or (pt_not (pt_val (pe_call GN hr1 rfl mN kN bN .nil pass0 (pa_cons (pe_ix ix_tup (pv 2) pe_int (fun _ _ => rfl)) pa_nil))))
              (pw_or1 (pt_not (pt_val (pe_call GA hr rfl mA kA bA .nil pass0 (pa_cons (pe_ix ix_tup (pv 2) pe_int (fun _ _ => rfl)) pa_nil)))))))
            (pss_one (ps_ret pe_bl))
            (pss_one (ps_expr (pe_bm PySem.F.plainAttrs_list PySem.F.slot_list_extend PySem.F.type_list_extend mt_extend (pv 1) (pa_cons (pe_ix ix_tup (pv 2) pe_int (fun _ _ => rfl)) pa_nil))))))))))
      (pss_one (ps_ret pe_bl))), ?_⟩
    refine ⟨_, rfl, (by show 1 ≤ sizeLine; decide), fun wt hw => ?_⟩
    refine ⟨fun m σ H' => ∃ (st : List T) (ws : List V) (h : Option V), m = Tp.sizeL st ∧ σ = [some v, some (.ref wt), h] ∧ Same H H' ∧ H' wt = some (.lst ws) ∧ Ats H st ws ∧ good t = goodL st ∧ lenOkL st ∧ Tp.sizeL st ≤ 1000,
      ⟨Tp.size t, [t], [v], none, by rw [Tp.sizeL, Tp.sizeL]; rfl, rfl, same_new hw _, upd_same, TreesIn.one hT, by rw [goodL, goodL, Bool.and_true], by rw [lenOkL, lenOkL]; exact ⟨hlen, True.intro⟩, by rw [Tp.sizeL, Tp.sizeL]; exact hsz⟩, ?_⟩
    rintro m σ H1 ⟨st, ws, h, rfl, rfl, s1, hW, hA, hg, hl, hz⟩
    refine ⟨_, rfl, wt, ws, rfl, .inl (SqL.of hW), _, _, rfl, rfl, _, rfl, ?_⟩
    by_cases c0 : ws = []
    · refine ite2 (fun y => ?_) (fun _ => ?_)
      · have y' := of_decide_eq_true y
        rw [c0] at y'
        exact absurd y' (by decide)
      · have e0 : st = [] := List.eq_nil_of_length_eq_zero (by rw [← hA.len, c0]; rfl)
        rw [e0, goodL] at hg
        have fin := q H1 s1
        rw [hg] at fin
        exact fin
    · refine ite2 (fun _ => ?_) (fun n => absurd (decide_eq_true (by have z := pops c0; omega)) n)
      obtain ⟨st', u, ws', x, rfl, rfl, hA', hu⟩ := hA.pop c0
      have s2 : Same H (upd H1 wt (.lst ws')) := Same.at s1 hw _
      rw [goodL_app, goodL, goodL, Bool.and_true] at hg
      rw [lenOkL_app, lenOkL, lenOkL, and_true] at hl
      rw [sizeL_app, Tp.sizeL, Tp.sizeL, Nat.add_zero] at hz ⊢
      have up := size_pos u
      refine ⟨fun σ' H' => ∃ m', m' < Tp.sizeL st' + Tp.size u ∧ ∃ (st : List T) (ws : List V) (h : Option V), m' = Tp.sizeL st ∧ σ' = [some v, some (.ref wt), h] ∧ Same H H' ∧ H' wt = some (.lst ws) ∧ Ats H st ws ∧ good t = goodL st ∧ lenOkL st ∧ Tp.sizeL st ≤ 1000, fun σ' H' k => k, ?_⟩
      refine ⟨_, rfl, .inl ⟨rfl, _, SqL.of hW⟩, wt, _, x, rfl, rfl, hW, pop_last ws' x, ?_⟩
      rw [pop_init]
      have hu2 : At (upd H1 wt (.lst ws')) u x := hu.same s2
      refine ⟨_, rfl, u, x, rfl, hu2, _, rfl, ?_⟩
      cases u with
      | text z =>
        obtain rfl := At.sign hu
        rw [lenOk] at hl
        rw [good] at hg
        refine ⟨_, rfl, z, rfl, hl.2, fun H3 s3 => ?_⟩
        by_cases cz : isText z = true
        · refine ⟨_, rfl, ite2 (fun y => ?_) (fun _ => ?_)⟩
          · rw [cz] at y; cases y
          · rw [cz, Bool.and_true] at hg
            rw [Tp.size] at hz
            exact ⟨Tp.sizeL st', by rw [Tp.size]; omega, st', ws', _, rfl, rfl, s2.trans s3, s3 _ _ upd_same, hA', hg, hl.1, by omega⟩
        · refine ⟨_, rfl, ite2 (fun _ => ?_) (fun n => ?_)⟩
          · have fin := q H3 (s2.trans s3)
            rw [hg, Bool.eq_false_iff.mpr cz, Bool.and_false] at fin
            exact fin
          · rw [Bool.eq_false_iff.mpr cz] at n
            exact absurd rfl n
      | elem nm cs =>
        obtain ⟨ta, la, vs, rfl, h1, h2, h3⟩ := At.parts hu
        rw [lenOk] at hl
        rw [good] at hg
        have hm1 := s2 _ _ h1
        have hm2 := s2 _ _ h2
        have hcl := len_size cs
        rw [Tp.size] at hz
        refine ⟨_, rfl, ta, _, _, _, rfl, rfl, SqT.of hm1, (atI_nat (j := 0) rfl), nm, rfl, hl.2.1, fun H3 s3 => ?_⟩
        refine ⟨_, rfl, ?_⟩
        by_cases cn : isName nm = true
        · refine ite2 (fun y => by rw [cn] at y; cases y) (fun _ => ?_)
          refine ⟨_, rfl, ta, _, _, _, rfl, rfl, SqT.of (s3 _ _ hm1), (atI_nat (j := 1) rfl), la, cs, vs, rfl, s3 _ _ hm2, h3.same (s2.trans s3), by omega, fun H4 s4 => ?_⟩
          refine ⟨_, rfl, ?_⟩
          have s5 := (s2.trans s3).trans s4
          by_cases ca : apart cs = true
          · refine ite2 (fun y => by rw [ca] at y; cases y) (fun _ => ?_)
            have hlw : la ≠ wt := ne_of_none h2 hw
            have lv := h3.len
            have lw := hA'.len
            have lst := len_size st'
            refine ⟨_, rfl, .inl ⟨rfl, _, SqL.of (s4 _ _ (s3 _ _ upd_same))⟩, _, rfl, ta, _, _, _, rfl, rfl, SqT.of (s4 _ _ (s3 _ _ hm1)), (atI_nat (j := 1) rfl), wt, la, _, _, rfl, rfl, s4 _ _ (s3 _ _ upd_same), s4 _ _ (s3 _ _ hm2), small16 (by omega), ?_⟩
            rw [cn, ca, Bool.and_self, Bool.true_and] at hg
            exact ⟨Tp.sizeL (st' ++ cs), by rw [sizeL_app, Tp.size]; omega, st' ++ cs, ws' ++ vs, _, rfl, rfl, Same.at s5 hw _, upd_same, hA'.append h3, by rw [goodL_app]; exact hg, by rw [lenOkL_app]; exact ⟨hl.1, hl.2.2⟩, by rw [sizeL_app]; omega⟩
          · refine ite2 (fun _ => ?_) (fun n => by rw [Bool.eq_false_iff.mpr ca] at n; exact absurd rfl n)
            have fin := q H4 s5
            rw [hg, Bool.eq_false_iff.mpr ca, Bool.and_false, Bool.false_and, Bool.and_false] at fin
            exact fin
        · refine ite2 (fun _ => ?_) (fun n => by rw [Bool.eq_false_iff.mpr cn] at n; exact absurd rfl n)
          refine iteT ?_
          have fin := q H3 (s2.trans s3)
          rw [hg, Bool.eq_false_iff.mpr cn, Bool.false_and, Bool.false_and, Bool.and_false] at fin
          exact fin
end
end Tk

/-! k27: depth_within, nodes_of, has_right_size, is_document. -/
namespace Tk
open PySem PySem.Spec PyProof.Rows L2
open Tp (Tree)
/-! ### a stack of pairs -/
def PAt (H0 H : Hp) : List (T × Int) → List V → Prop
  | [], vs => vs = []
  | p :: r, vs => ∃ a v vs', vs = .ref a :: vs' ∧ H a = some (.tup [v, .int p.2]) ∧ At H0 p.1 v ∧ PAt H0 H r vs'
theorem PAt.len {H0 H : Hp} : ∀ {st : List (T × Int)} {vs : List V}, PAt H0 H st vs → vs.length = st.length
  | [], _, h => by rw [PAt] at h; rw [h]; rfl
  | p :: r, vs, h => by
    rw [PAt] at h
    obtain ⟨a, v, vs', rfl, _, _, h⟩ := h
    rw [List.length_cons, List.length_cons, PAt.len h]
theorem PAt.but {H0 H H' : Hp} {w : Addr} {xs : List V} (hw : H w = some (.lst xs)) (k : But w H H') : ∀ {st : List (T × Int)} {vs : List V}, PAt H0 H st vs → PAt H0 H' st vs
  | [], _, h => by rw [PAt] at h ⊢; exact h
  | p :: r, vs, h => by
    rw [PAt] at h ⊢
    obtain ⟨a, v, vs', e, h1, h2, h3⟩ := h
    exact ⟨a, v, vs', e, k a _ (ne_of h1 hw (by intro z; cases z)) h1, h2, PAt.but hw k h3⟩
theorem PAt.append {H0 H : Hp} : ∀ {a b : List (T × Int)} {vs ws : List V}, PAt H0 H a vs → PAt H0 H b ws → PAt H0 H (a ++ b) (vs ++ ws)
  | [], b, vs, ws, h, k => by rw [PAt] at h; rw [h]; exact k
  | p :: r, b, vs, ws, h, k => by
    rw [PAt] at h
    obtain ⟨a, v, vs', rfl, h1, h2, h3⟩ := h
    rw [List.cons_append, PAt]
    exact ⟨a, v, vs' ++ ws, rfl, h1, h2, PAt.append h3 k⟩
theorem PAt.split {H0 H : Hp} : ∀ {a b : List (T × Int)} {vs : List V}, PAt H0 H (a ++ b) vs → ∃ va vb, vs = va ++ vb ∧ PAt H0 H a va ∧ PAt H0 H b vb
  | [], b, vs, h => ⟨[], vs, rfl, by rw [PAt], h⟩
  | p :: r, b, vs, h => by
    rw [List.cons_append, PAt] at h
    obtain ⟨a, v, vs', rfl, h1, h2, h3⟩ := h
    obtain ⟨va, vb, rfl, h4, h5⟩ := PAt.split h3
    exact ⟨.ref a :: va, vb, rfl, by rw [PAt]; exact ⟨a, v, va, rfl, h1, h2, h4⟩, h5⟩
theorem PAt.pop {H0 H : Hp} {st : List (T × Int)} {vs : List V} (h : PAt H0 H st vs) (hne : vs ≠ []) : ∃ st' t d vs' a v, st = st' ++ [(t, d)] ∧ vs = vs' ++ [.ref a] ∧ PAt H0 H st' vs' ∧ H a = some (.tup [v, .int d]) ∧ At H0 t v := by
  have hne' : st ≠ [] := fun e => hne (by
    have q := h.len
    rw [e] at q
    exact List.eq_nil_of_length_eq_zero q)
  obtain ⟨st', ⟨t, d⟩, rfl⟩ := snoc_of hne'
  obtain ⟨va, vb, rfl, h1, h2⟩ := h.split
  rw [PAt] at h2
  obtain ⟨a, v, vs', rfl, h3, h4, h5⟩ := h2
  rw [PAt] at h5
  subst h5
  exact ⟨st', t, d, va, a, v, rfl, rfl, h1, h3, h4⟩
theorem PAt.of {H0 H : Hp} {d : Int} : ∀ {cs : List T} {ys : List V}, ys.length = cs.length → (∀ (i : Nat) y, ys[i]? = some y → ∃ a v t, y = .ref a ∧ H a = some (.tup [v, .int d]) ∧ cs[i]? = some t ∧ At H0 t v) → PAt H0 H (cs.map fun t => (t, d)) ys
  | [], ys, hl, _ => by rw [List.map_nil, PAt]; exact List.eq_nil_of_length_eq_zero hl
  | c :: r, [], hl, _ => by simp at hl
  | c :: r, y :: ys, hl, h => by
    obtain ⟨a, v, t, rfl, h1, h2, h3⟩ := h 0 y rfl
    simp at h2
    subst h2
    rw [List.map_cons, PAt]
    exact ⟨a, v, ys, rfl, h1, h3, PAt.of (by simpa using hl) fun i y e => by
      obtain ⟨a, v, t, e1, e2, e3, e4⟩ := h (i + 1) y (by simpa using e)
      exact ⟨a, v, t, e1, e2, by simpa using e3, e4⟩⟩
theorem dep_mem : ∀ {cs : List T} {c : T}, c ∈ cs → Tp.dep c ≤ Tp.depL cs
  | [], c, h => absurd h (by simp)
  | d :: r, c, h => by
    rw [Tp.depL]
    rcases List.mem_cons.mp h with e | e
    · rw [e]; omega
    · have q := dep_mem e
      omega
def spDepth : Sp := fun vs H Q _ => ∃ (t : T) (v : V), vs = [v] ∧ At H t v ∧ Tp.size t ≤ 1000 ∧ 1 + Tp.dep t ≤ 60 ∧ ∀ (d : Int) H', d ≤ 60 → Same H H' → Q (.int d) H'
section
variable {P : Program} {w : World} {K : PySem.W.Frag} {mg : Str → Option Value} {base : Heap}
theorem scDepth : FnScope ["tree", "deepest", "waiting", "here", "depth", "child"] ["tree"] (defScope sDepth) := ⟨rfl, rfl, rfl, by decide +kernel, rfl, by decide +kernel, by decide +kernel⟩
theorem ok_depth {f : Addr} {fd : FuncData} (F : Fun K "depth_within" "depth_within" sDepth f fd) (X : Txt mg) (S : Has P w K mg base CX0 1 "is_string" ["tree"] spString) : FnOk P w K mg base CX0 2 f fd ["tree"] spDepth := by
  obtain ⟨fS, fdS, GS, bS, kS, mS⟩ := S
  refine F.ok scDepth (fun vs H Q E h => ?_) (fun cdv A outer s H vs Q E hr h => ?_)
  · obtain ⟨t, v, rfl, _⟩ := h
    rfl
  · obtain ⟨t, v, rfl, hT, hsz, hd, q⟩ := h
    refine ⟨_, pss_cons (ps_set (i := 1) scDepth.nd rfl (Or.inl rfl) pe_int) (pss_cons (ps_set (i := 2) scDepth.nd rfl (Or.inl rfl) (pe_lst (pa_cons (pe_tup (pa_cons (pv 0) (pa_cons pe_int pa_nil))) pa_nil)))
      (pss_cons (ps_while PassesOwn.never (pt_cmpR op_gt (pe_callB call_len_seq rfl X.len PySem.boot_len (pa_cons (pv 2) pa_nil)) pe_int (nomark _))
        (pss_cons (ps_asg (pe_bm0 PySem.F.plainAttrs_list PySem.F.slot_list_pop PySem.F.type_list_pop mt_pop (pv 2)) (pg_tup rfl (pgs_cons (pg_name (i := 3) scDepth.nd rfl (Or.inl rfl)) (pgs_cons (pg_name (i := 4) scDepth.nd rfl (Or.inr rfl)) pgs_nil))))
        (pss_cons (ps_set (i := 1) scDepth.nd rfl (Or.inl rfl) (pe_callB (call_max2 rfl) rfl X.max (by decide +kernel) (pa_cons (pv 1) (pa_cons (pv 4) pa_nil))))
        (pss_one (ps_if (pt_not (pt_val (pe_call GS hr rfl mS kS bS .nil pass0 (pa_cons (pv 3) pa_nil))))
          (pss_one (ps_expr (pe_bm PySem.F.plainAttrs_list PySem.F.slot_list_extend PySem.F.type_list_extend mt_extend (pv 2) (pa_cons
            (pe_lc (own := [("child", 5)]) (g := gName 5) (tt := tYes) rfl scDepth.nd (pi_list (pe_ix ix_tup (pv 3) pe_int (fun _ _ => rfl))) (blkOk_by (N := ["tree", "deepest", "waiting", "here", "depth", "child"]) (sc := defScope sDepth) (by decide +kernel))
              (fun _ _ _ _ _ => pg_name (i := 5) scDepth.nd rfl (Or.inl rfl)) (fun _ _ _ _ _ => pts_nil) (fun _ _ _ _ _ => pe_tup (pa_cons (pv 5) (pa_cons (pe_op op_add (pv 4) pe_int) pa_nil)))) pa_nil)))) pss_nil)))))
      (pss_one (ps_ret (pv 1))))), ?_⟩
    refine ⟨_, rfl, (by show 2 ≤ sizeLine; decide), fun ta hta => ⟨(by show 1 ≤ sizeLine; decide), fun wt hw => ?_⟩⟩
    have sA : Same H (upd H ta (.tup [v, .int 1])) := same_new hta _
    have hw0 : H wt = none := sA.free hw
    refine ⟨fun m σ H' => ∃ (st : List (T × Int)) (ws : List V) (dp : Int) (h dd : Option V), m = Tp.sizeL (st.map (·.1)) ∧ σ = [some v, some (.int dp), some (.ref wt), h, dd, none] ∧ Same H H' ∧ H' wt = some (.lst ws) ∧ PAt H H' st ws ∧ dp ≤ 60 ∧ (∀ p ∈ st, p.2 + Tp.dep p.1 ≤ 60) ∧ Tp.sizeL (st.map (·.1)) ≤ 1000,
      ⟨Tp.size t, [(t, 1)], [.ref ta], 0, none, none, by rw [List.map_cons, List.map_nil, Tp.sizeL, Tp.sizeL]; rfl, rfl, Same.new sA hw _, upd_same, by rw [PAt]; exact ⟨ta, v, [], rfl, same_new hw _ _ _ upd_same, hT, by rw [PAt]⟩, by decide, fun p hp => by
        rw [List.mem_singleton.mp hp]
        show (1 : Int) + (Tp.dep t : Nat) ≤ 60
        omega, by rw [List.map_cons, List.map_nil, Tp.sizeL, Tp.sizeL]; exact hsz⟩, ?_⟩
    rintro m σ H1 ⟨st, ws, dp, h, dd, rfl, rfl, s1, hW, hA, hdp, hall, hz⟩
    refine ⟨_, rfl, wt, ws, rfl, .inl (SqL.of hW), _, _, rfl, rfl, _, rfl, ?_⟩
    by_cases c0 : ws = []
    · refine ite2 (fun y => ?_) (fun _ => ?_)
      · have y' := of_decide_eq_true y
        rw [c0] at y'
        exact absurd y' (by decide)
      · exact ⟨_, rfl, q dp H1 hdp s1⟩
    · refine ite2 (fun _ => ?_) (fun n => absurd (decide_eq_true (by have z := pops c0; omega)) n)
      obtain ⟨st', u, d, ws', a, x, rfl, rfl, hA', ha, hu⟩ := hA.pop c0
      have haw : a ≠ wt := ne_of ha hW (by intro z; cases z)
      have s2 : Same H (upd H1 wt (.lst ws')) := Same.at s1 hw0 _
      have b2 : But wt H1 (upd H1 wt (.lst ws')) := (But.refl H1).put _
      have ha2 : (upd H1 wt (.lst ws')) a = some (.tup [x, .int d]) := by rw [upd_ne haw]; exact ha
      have hdu := hall (u, d) (List.mem_append_right _ List.mem_cons_self)
      rw [List.map_append, sizeL_app, List.map_cons, List.map_nil, Tp.sizeL, Tp.sizeL, Nat.add_zero] at hz ⊢
      have up := size_pos u
      have hd60 : d ≤ 60 := by
        have z : d + ((Tp.dep u : Nat) : Int) ≤ 60 := hdu
        omega
      refine ⟨fun σ' H' => ∃ m', m' < Tp.sizeL (st'.map (·.1)) + Tp.size u ∧ ∃ (st : List (T × Int)) (ws : List V) (dp : Int) (h dd : Option V), m' = Tp.sizeL (st.map (·.1)) ∧ σ' = [some v, some (.int dp), some (.ref wt), h, dd, none] ∧ Same H H' ∧ H' wt = some (.lst ws) ∧ PAt H H' st ws ∧ dp ≤ 60 ∧ (∀ p ∈ st, p.2 + Tp.dep p.1 ≤ 60) ∧ Tp.sizeL (st.map (·.1)) ≤ 1000, fun σ' H' k => k, ?_⟩
      refine ⟨_, rfl, .inl ⟨rfl, _, SqL.of hW⟩, wt, _, .ref a, rfl, rfl, hW, pop_last ws' (.ref a), ?_⟩
      rw [pop_init]
      refine ⟨a, _, rfl, SqT.of ha2, rfl, _, _, rfl, _, _, rfl, rfl, ?_⟩
      have hu2 : At (upd H1 wt (.lst ws')) u x := hu.same s2
      refine ⟨_, rfl, _, rfl, _, _, rfl, ?_⟩
      have hmx : (if d > dp then d else dp) ≤ 60 := by split <;> omega
      refine ⟨_, rfl, u, x, rfl, hu2, _, rfl, ?_⟩
      cases u with
      | text z =>
        refine iteF ?_
        rw [Tp.size] at hz
        exact ⟨Tp.sizeL (st'.map (·.1)), by rw [Tp.size]; omega, st', ws', _, _, _, rfl, rfl, s2, upd_same, hA'.but hW b2, hmx, fun p hp => hall p (List.mem_append_left _ hp), by omega⟩
      | elem nm cs =>
        refine iteT ?_
        obtain ⟨tt, la, vs, rfl, h1, h2, h3⟩ := At.parts hu
        have hm1 := s2 _ _ h1
        have hm2 := s2 _ _ h2
        have hcl := len_size cs
        have lv := h3.len
        rw [Tp.size] at hz
        refine ⟨_, rfl, .inl ⟨rfl, _, SqL.of upd_same⟩, _, rfl, tt, _, _, _, rfl, rfl, SqT.of hm1, (atI_nat (j := 1) rfl), la, rfl, ⟨_, SqL.of hm2⟩, fun D hD => ?_⟩
        refine lc_rel walk_list (H1 := upd H1 wt (.lst ws')) (D := D) hD (small16 (by omega)) (fun i y H' => ∃ a v t, y = .ref a ∧ H' a = some (.tup [v, .int (d + 1)]) ∧ cs[i]? = some t ∧ At H t v) ?_ (fun H3 s3 => SqL.of (s3 _ _ hm2)) ?_ ?_
        · rintro i y H3 H4 acc hD3 b3 ⟨a, v, t, rfl, k1, k2, k3⟩
          exact ⟨a, v, t, rfl, b3 a _ (ne_of k1 hD3 (by intro z; cases z)) k1, k2, k3⟩
        · rintro i x H3 H4 R hi s3 ⟨rfl, hx⟩ hR
          obtain ⟨tc, hc, kc⟩ := h3.get hx
          refine ⟨rfl, _, rfl, _, rfl, _, _, rfl, rfl, (by show 2 ≤ sizeLine; decide), fun p hp => ?_⟩
          exact hR _ _ (same_new hp _) ⟨p, x, tc, rfl, upd_same, hc, kc⟩
        · intro H3 ys s3 hY hl hr2
          have hDw : D ≠ wt := fun e => by rw [e, upd_same] at hD; cases hD
          have lw := hA'.len
          have lst := len_size (st'.map (·.1))
          rw [List.length_map] at lst
          have hPc : PAt H H3 (cs.map fun t => (t, d + 1)) ys := PAt.of (by omega) hr2
          have hW3 := s3 _ _ (upd_same (H := H1) (a := wt) (o := .lst ws'))
          have b4 : But wt H3 (upd H3 wt (.lst (ws' ++ ys))) := (But.refl H3).put _
          refine ⟨wt, D, ws', ys, rfl, rfl, hW3, hY, small16 (by omega), ?_⟩
          have s5 : Same H (upd H3 wt (.lst (ws' ++ ys))) := Same.at (s2.trans s3) hw0 _
          have em : (st' ++ cs.map fun t => (t, d + 1)).map (·.1) = st'.map (·.1) ++ cs := by rw [List.map_append, List.map_map]; congr 1; exact List.map_id cs
          have esz : Tp.sizeL ((st' ++ cs.map fun t => (t, d + 1)).map (·.1)) = Tp.sizeL (st'.map (·.1)) + Tp.sizeL cs := by rw [em, sizeL_app]
          refine ⟨Tp.sizeL ((st' ++ cs.map fun t => (t, d + 1)).map (·.1)), by rw [esz, Tp.size]; omega, st' ++ cs.map fun t => (t, d + 1), ws' ++ ys, _, _, _, rfl, rfl, s5, upd_same, ?_, hmx, fun p hp => ?_, by rw [esz]; omega⟩
          · exact PAt.append (((hA'.but hW b2).but upd_same (But.of s3)).but hW3 b4) (hPc.but hW3 b4)
          · rcases List.mem_append.mp hp with hp | hp
            · exact hall p (List.mem_append_left _ hp)
            · obtain ⟨c, hc, rfl⟩ := List.mem_map.mp hp
              have z : d + ((Tp.dep (Tree.elem nm cs) : Nat) : Int) ≤ 60 := hdu
              rw [Tp.dep] at z
              have z2 := dep_mem hc
              show d + 1 + ((Tp.dep c : Nat) : Int) ≤ 60
              omega
end
end Tk

/-! k27: nodes_of, has_right_size, is_document. -/
namespace Tk
open PySem PySem.Spec PyProof.Rows L2
open Tp (Tree)
theorem TreesIn.rev {F : Addr → Prop} {H : Hp} : ∀ {ts : List T} {vs : List V}, TreesIn F H ts vs → TreesIn F H ts.reverse vs.reverse
  | [], _, h => by rw [TreesIn] at h; rw [h]; exact TreesIn.nil
  | c :: r, vs, h => by
    rw [TreesIn] at h
    obtain ⟨v, vs', rfl, h1, h2⟩ := h
    rw [List.reverse_cons, List.reverse_cons]
    exact (TreesIn.rev h2).append (TreesIn.one h1)
theorem sizeL_rev : ∀ l : List T, Tp.sizeL l.reverse = Tp.sizeL l
  | [] => rfl
  | c :: r => by
    rw [List.reverse_cons, sizeL_app, sizeL_rev r, Tp.sizeL, Tp.sizeL, Tp.sizeL]
    omega
def spNodes : Sp := fun vs H Q _ => ∃ (t : T) (v : V), vs = [v] ∧ At H t v ∧ Tp.size t ≤ 1000 ∧ ∀ (p : Addr) (ws : List V) H', Same H H' → H' p = some (.lst ws) → ws.length = Tp.size t → Q (.ref p) H'
def spRight : Sp := fun vs H Q _ => ∃ (t : T) (v : V), vs = [v] ∧ At H t v ∧ Tp.size t ≤ 1000 ∧ 1 + Tp.dep t ≤ 60 ∧ ∀ H', Same H H' → Q (.bl true) H'
def isDoc (t : T) : Bool := !isStr t && good t
def spDoc : Sp := fun vs H Q _ => ∃ (t : T) (v : V), vs = [v] ∧ At H t v ∧ lenOk t ∧ Tp.size t ≤ 1000 ∧ 1 + Tp.dep t ≤ 60 ∧ ∀ H', Same H H' → Q (.bl (isDoc t)) H'
section
variable {P : Program} {w : World} {K : PySem.W.Frag} {mg : Str → Option Value} {base : Heap}
theorem scNodes : FnScope ["tree", "found", "waiting", "here"] ["tree"] (defScope sNodesOf) := ⟨rfl, rfl, rfl, by decide +kernel, rfl, by decide +kernel, by decide +kernel⟩
theorem ok_nodes {f : Addr} {fd : FuncData} (F : Fun K "nodes_of" "nodes_of" sNodesOf f fd) (X : Txt mg) (S : Has P w K mg base CX0 1 "is_string" ["tree"] spString) : FnOk P w K mg base CX0 2 f fd ["tree"] spNodes := by
  obtain ⟨fS, fdS, GS, bS, kS, mS⟩ := S
  refine F.ok scNodes (fun vs H Q E h => ?_) (fun cdv A outer s H vs Q E hr h => ?_)
  · obtain ⟨t, v, rfl, _⟩ := h
    rfl
  · obtain ⟨t, v, rfl, hT, hsz, q⟩ := h
    refine ⟨_, pss_cons (ps_set (i := 1) scNodes.nd rfl (Or.inl rfl) (pe_lst pa_nil)) (pss_cons (ps_set (i := 2) scNodes.nd rfl (Or.inl rfl) (pe_lst (pa_cons (pv 0) pa_nil)))
      (pss_cons (ps_while PassesOwn.never (pt_cmpR op_gt (pe_callB call_len_seq rfl X.len PySem.boot_len (pa_cons (pv 2) pa_nil)) pe_int (nomark _))
        (pss_cons (ps_set (i := 3) scNodes.nd rfl (Or.inl rfl) (pe_bm0 PySem.F.plainAttrs_list PySem.F.slot_list_pop PySem.F.type_list_pop mt_pop (pv 2)))
        (pss_cons (ps_expr (pe_bm PySem.F.plainAttrs_list PySem.F.slot_list_append PySem.F.type_list_append mt_append (pv 1) (pa_cons (pv 3) pa_nil)))
        (pss_one (ps_if (pt_not (pt_val (pe_call GS hr rfl mS kS bS .nil pass0 (pa_cons (pv 3) pa_nil))))
          (pss_one (ps_expr (pe_bm PySem.F.plainAttrs_list PySem.F.slot_list_extend PySem.F.type_list_extend mt_extend (pv 2) (pa_cons
            (pe_listRev rfl rfl X.list rfl X.rev (pe_ix ix_tup (pv 3) pe_int (fun _ _ => rfl))) pa_nil)))) pss_nil)))))
      (pss_one (ps_ret (pv 1))))), ?_⟩
    refine ⟨(by show 0 ≤ sizeLine; decide), fun ft hf => ⟨_, rfl, (by show 1 ≤ sizeLine; decide), fun wt hw => ?_⟩⟩
    have sA : Same H (upd H ft (.lst [])) := same_new hf _
    have hw0 : H wt = none := sA.free hw
    have hfw : ft ≠ wt := fun e => by rw [← e, upd_same] at hw; cases hw
    refine ⟨fun m σ H' => ∃ (st : List T) (ws fs : List V) (h : Option V), m = Tp.sizeL st ∧ σ = [some v, some (.ref ft), some (.ref wt), h] ∧ Same H H' ∧ H' wt = some (.lst ws) ∧ H' ft = some (.lst fs) ∧ Ats H st ws ∧ fs.length + Tp.sizeL st = Tp.size t,
      ⟨Tp.size t, [t], [v], [], none, by rw [Tp.sizeL, Tp.sizeL]; rfl, rfl, Same.new sA hw _, upd_same, by rw [upd_ne hfw]; exact upd_same, TreesIn.one hT, by rw [Tp.sizeL, Tp.sizeL]; simp⟩, ?_⟩
    rintro m σ H1 ⟨st, ws, fs, h, rfl, rfl, s1, hW, hF, hA, hz⟩
    refine ⟨_, rfl, wt, ws, rfl, .inl (SqL.of hW), _, _, rfl, rfl, _, rfl, ?_⟩
    by_cases c0 : ws = []
    · refine ite2 (fun y => ?_) (fun _ => ?_)
      · have y' := of_decide_eq_true y
        rw [c0] at y'
        exact absurd y' (by decide)
      · have e0 : st = [] := List.eq_nil_of_length_eq_zero (by rw [← hA.len, c0]; rfl)
        rw [e0, Tp.sizeL] at hz
        exact ⟨_, rfl, q ft fs H1 s1 hF hz⟩
    · refine ite2 (fun _ => ?_) (fun n => absurd (decide_eq_true (by have z := pops c0; omega)) n)
      obtain ⟨st', u, ws', x, rfl, rfl, hA', hu⟩ := hA.pop c0
      have s2 : Same H (upd H1 wt (.lst ws')) := Same.at s1 hw0 _
      rw [sizeL_app, Tp.sizeL, Tp.sizeL, Nat.add_zero] at hz ⊢
      have up := size_pos u
      refine ⟨fun σ' H' => ∃ m', m' < Tp.sizeL st' + Tp.size u ∧ ∃ (st : List T) (ws fs : List V) (h : Option V), m' = Tp.sizeL st ∧ σ' = [some v, some (.ref ft), some (.ref wt), h] ∧ Same H H' ∧ H' wt = some (.lst ws) ∧ H' ft = some (.lst fs) ∧ Ats H st ws ∧ fs.length + Tp.sizeL st = Tp.size t, fun σ' H' k => k, ?_⟩
      refine ⟨_, rfl, .inl ⟨rfl, _, SqL.of hW⟩, wt, _, x, rfl, rfl, hW, pop_last ws' x, ?_⟩
      rw [pop_init]
      have hF2 : (upd H1 wt (.lst ws')) ft = some (.lst fs) := by rw [upd_ne hfw]; exact hF
      refine ⟨_, rfl, .inl ⟨rfl, _, SqL.of hF2⟩, _, rfl, ft, fs, x, rfl, rfl, hF2, Nat.lt_of_lt_of_le (show fs.length < 1000 by omega) (by decide), ?_⟩
      have s3 : Same H (upd (upd H1 wt (.lst ws')) ft (.lst (fs ++ [x]))) := Same.at s2 hf _
      have hW3 : (upd (upd H1 wt (.lst ws')) ft (.lst (fs ++ [x]))) wt = some (.lst ws') := by rw [upd_ne hfw.symm]; exact upd_same
      have hu2 := hu.same s3
      refine ⟨_, rfl, u, x, rfl, hu2, _, rfl, ?_⟩
      have lfs : (fs ++ [x]).length = fs.length + 1 := by rw [List.length_append]; rfl
      cases u with
      | text z =>
        refine iteF ?_
        rw [Tp.size] at hz
        exact ⟨Tp.sizeL st', by rw [Tp.size]; omega, st', ws', fs ++ [x], _, rfl, rfl, s3, hW3, upd_same, hA', by rw [lfs]; omega⟩
      | elem nm cs =>
        refine iteT ?_
        obtain ⟨tt, la, vs, rfl, h1, h2, h3⟩ := At.parts hu
        have hcl := len_size cs
        have lv := h3.len
        have lw := hA'.len
        have lst := len_size st'
        rw [Tp.size] at hz
        refine ⟨_, rfl, .inl ⟨rfl, _, SqL.of hW3⟩, _, rfl, tt, _, _, _, rfl, rfl, SqT.of (s3 _ _ h1), (atI_nat (j := 1) rfl), la, vs, rfl, SqL.of (s3 _ _ h2), fun D hD => ?_⟩
        have hDw : wt ≠ D := fun e => by rw [← e, hW3] at hD; cases hD
        have hDf : ft ≠ D := fun e => by rw [← e, upd_same] at hD; cases hD
        refine ⟨wt, D, ws', vs.reverse, rfl, rfl, by rw [upd_ne hDw]; exact hW3, upd_same, by rw [List.length_reverse]; exact small16 (by omega), ?_⟩
        refine ⟨Tp.sizeL (st' ++ cs.reverse), by rw [sizeL_app, sizeL_rev, Tp.size]; omega, st' ++ cs.reverse, ws' ++ vs.reverse, fs ++ [_], _, rfl, rfl, Same.at (Same.new s3 hD _) hw0 _, upd_same, by rw [upd_ne hfw, upd_ne hDf]; exact upd_same, hA'.append h3.rev, by rw [lfs, sizeL_app, sizeL_rev]; omega⟩
theorem scRight : FnScope ["tree"] ["tree"] (defScope sRight) := ⟨rfl, rfl, rfl, by decide +kernel, rfl, by decide +kernel, by decide +kernel⟩
theorem ok_right {f : Addr} {fd : FuncData} (F : Fun K "has_right_size" "has_right_size" sRight f fd) (X : Txt mg) (N : Has P w K mg base CX0 2 "nodes_of" ["tree"] spNodes) (D : Has P w K mg base CX0 2 "depth_within" ["tree"] spDepth) : FnOk P w K mg base CX0 3 f fd ["tree"] spRight := by
  obtain ⟨fN, fdN, GN, bN, kN, mN⟩ := N
  obtain ⟨fD, fdD, GD, bD, kD, mD⟩ := D
  refine F.ok scRight (fun vs H Q E h => ?_) (fun cdv A outer s H vs Q E hr h => ?_)
  · obtain ⟨t, v, rfl, _⟩ := h
    rfl
  · obtain ⟨t, v, rfl, hT, hsz, hd, q⟩ := h
    obtain ⟨t1, m1⟩ := X.mostN
    obtain ⟨t2, m2⟩ := X.mostD
    refine ⟨_, pss_one (ps_ret (pe_and (pe_cmpR op_le (pe_callB call_len_seq rfl X.len PySem.boot_len (pa_cons (pe_call GN hr rfl mN kN bN .nil pass0 (pa_cons (pv 0) pa_nil)) pa_nil)) (pe_glob (v := .int 5000) rfl m1 ⟨_, rfl⟩) (nomark _))
      (pe_one (pe_cmpR op_le (pe_call GD hr rfl mD kD bD .nil pass0 (pa_cons (pv 0) pa_nil)) (pe_glob (v := .int 60) rfl m2 ⟨_, rfl⟩) (nomark _))))), ?_⟩
    refine ⟨_, rfl, t, v, rfl, hT, hsz, fun p ws H1 s1 hp hl => ?_⟩
    refine ⟨p, ws, rfl, .inl (SqL.of hp), _, _, rfl, rfl, _, rfl, ?_⟩
    refine ite2 (fun _ => ?_) (fun n => absurd (decide_eq_true (by rw [hl]; omega)) n)
    refine ⟨_, rfl, t, v, rfl, hT.same s1, hsz, hd, fun d H2 hd2 s2 => ?_⟩
    refine ⟨_, _, rfl, rfl, ?_⟩
    have fin := q H2 (s1.trans s2)
    have e : decide (d ≤ 60) = true := decide_eq_true hd2
    show Q (.bl (decide (d ≤ 60))) H2
    rw [e]
    exact fin
theorem scDoc : FnScope ["tree"] ["tree"] (defScope sIsDoc) := ⟨rfl, rfl, rfl, by decide +kernel, rfl, by decide +kernel, by decide +kernel⟩
theorem ok_doc {f : Addr} {fd : FuncData} (F : Fun K "is_document" "is_document" sIsDoc f fd) (S : Has P w K mg base CX0 1 "is_string" ["tree"] spString) (Tr : Has P w K mg base CX0 3 "is_tree" ["tree"] spTree) (R : Has P w K mg base CX0 3 "has_right_size" ["tree"] spRight) : FnOk P w K mg base CX0 4 f fd ["tree"] spDoc := by
  obtain ⟨fS, fdS, GS, bS, kS, mS⟩ := S
  obtain ⟨fT, fdT, GT, bT, kT, mT⟩ := Tr
  obtain ⟨fR, fdR, GR, bR, kR, mR⟩ := R
  refine F.ok scDoc (fun vs H Q E h => ?_) (fun cdv A outer s H vs Q E hr h => ?_)
  · obtain ⟨t, v, rfl, _⟩ := h
    rfl
  · obtain ⟨t, v, rfl, hT, hlen, hsz, hd, q⟩ := h
    have hr1 : Room 1 _ := hr.mono (by decide)
    refine ⟨_, pss_one (ps_ret (pe_and (pe_not (pe_call GS hr1 rfl mS kS bS .nil pass0 (pa_cons (pv 0) pa_nil)))
      (pe_and (pe_call GT hr rfl mT kT bT .nil pass0 (pa_cons (pv 0) pa_nil)) (pe_one (pe_call GR hr rfl mR kR bR .nil pass0 (pa_cons (pv 0) pa_nil)))))), ?_⟩
    refine ⟨_, rfl, t, v, rfl, hT, _, rfl, _, rfl, ?_⟩
    unfold isDoc at q
    by_cases c1 : (!isStr t) = true
    · refine ite2 (fun _ => ?_) (fun n => absurd c1 n)
      rw [c1, Bool.true_and] at q
      refine ⟨_, rfl, t, v, rfl, hT, hlen, hsz, fun H1 s1 => ⟨_, rfl, ?_⟩⟩
      by_cases c2 : good t = true
      · refine ite2 (fun _ => ?_) (fun n => absurd c2 n)
        rw [c2] at q
        exact ⟨_, rfl, t, v, rfl, hT.same s1, hsz, hd, fun H2 s2 => q H2 (s1.trans s2)⟩
      · refine ite2 (fun y => absurd y c2) (fun _ => ?_)
        rw [Bool.eq_false_iff.mpr c2] at q
        exact q H1 s1
    · refine ite2 (fun y => absurd y c1) (fun _ => ?_)
      rw [Bool.eq_false_iff.mpr c1, Bool.false_and] at q
      exact q H (Same.refl _)
end
end Tk

/-! k27: dict.update, names_in. -/
namespace Tk
open PySem PySem.Spec PyProof.Rows L2
open Tp (Tree)
/-! ### d.update(e) -/
def rUpdate : V → List V → Hp → VK → Prop := fun x xs H Q => ∃ (d o : Addr) (kvs more : List (Key × V)), x = .ref d ∧ xs = [.ref o] ∧ d ≠ o ∧ H d = some (.dK kvs) ∧ H o = some (.dK more) ∧ kvs.length + more.length ≤ sizeLine ∧ Q .non (upd H d (.dK (mergeK kvs more)))
theorem mt_update {X : Cx} : MtR X "dict.update" rUpdate := by
  intro pins s σ H x xs v us Q I rx rxs h
  obtain ⟨d, o, kvs, more, rfl, rfl, hne, hd, ho, hz, q⟩ := h
  obtain rfl : v = Value.ref d := rx
  obtain ⟨u, rfl, ru⟩ := vals1 rxs
  obtain rfl : u = Value.ref o := ru
  obtain ⟨z, sd, vs, rel, dd⟩ := dk_of I.hok hd
  obtain ⟨z2, so, ws, rel2, dd2⟩ := dk_of I.hok ho
  refine call_meetsIn PySem.F.slot_dict_update dd.typeIs PySem.F.entry_dict_update (PySem.F.args_dict_update_2 _ _) (meets_dict_update (mixKind X.prog X.w) d o hne so)
    ⟨vs, ws, dd, dd2, by rw [← rel.length, ← rel2.length]; exact hz, fun h' dd' _ hs => ?_⟩
  have he : ∃ q, h'.get? d = some q := let ⟨q, _, _, hq, _⟩ := dd'; ⟨q, hq⟩
  exact ⟨.non, _, d_write (t' := s.toks) I (by rw [hd]; exact True.intro) hs he (dk_new (Nat.le_trans (length_mergeK more kvs) hz) sd (KV.merge rel2 rel) dd'), rfl, q⟩
/-! ### the names of a tree -/
def addN (acc : List Str) (n : Str) : List Str := if n ∈ acc then acc else acc ++ [n]
mutual
def names : T → List Str
  | .text _ => []
  | .elem n cs => namesL [n] cs
def namesL (acc : List Str) : List T → List Str
  | [] => acc
  | c :: r => namesL ((names c).foldl addN acc) r
end
theorem namesL_snoc (c : T) : ∀ (l : List T) (acc : List Str), namesL acc (l ++ [c]) = (names c).foldl addN (namesL acc l)
  | [], acc => by rw [List.nil_append, namesL, namesL, namesL]
  | d :: r, acc => by rw [List.cons_append, namesL, namesL, namesL_snoc c r]
def mkN (ns : List Str) : List (Key × V) := ns.map fun n => (Sum.inr n, V.bl true)
theorem putK_mk (n : Str) : ∀ ns : List Str, putK (mkN ns) (Sum.inr n) (.bl true) = mkN (addN ns n) := by
  intro ns
  unfold putK addN
  have e : ((mkN ns).any fun kv => decide (kv.1 = Sum.inr n)) = decide (n ∈ ns) := by
    unfold mkN
    rw [List.any_map]
    rw [Bool.eq_iff_iff, List.any_eq_true, decide_eq_true_iff]
    constructor
    · rintro ⟨x, hx, q⟩
      have q' : (Sum.inr x : Key) = Sum.inr n := by simpa using q
      rw [← Sum.inr.inj q']
      exact hx
    · intro hn
      exact ⟨n, hn, by simp⟩
  rw [e]
  by_cases h : n ∈ ns
  · rw [if_pos (decide_eq_true h), if_pos h]
    unfold mkN
    rw [List.map_map]
    refine List.map_congr_left fun x _ => ?_
    show (if (Sum.inr x : Key) = Sum.inr n then _ else _) = _
    by_cases hx : (Sum.inr x : Key) = Sum.inr n
    · rw [if_pos hx, Sum.inr.inj hx]
    · rw [if_neg hx]
  · rw [if_neg (by simpa using h), if_neg h]
    unfold mkN
    rw [List.map_append]
    rfl
theorem mergeK_mk : ∀ ms ns : List Str, mergeK (mkN ns) (mkN ms) = mkN (ms.foldl addN ns)
  | [], ns => rfl
  | m :: ms, ns => by
    have ih := mergeK_mk ms (addN ns m)
    have e : mergeK (mkN ns) (mkN (m :: ms)) = mergeK (putK (mkN ns) (Sum.inr m) (.bl true)) (mkN ms) := rfl
    rw [e, putK_mk, ih]
    rfl
theorem mkN_len (ns : List Str) : (mkN ns).length = ns.length := List.length_map _
theorem addN_len (acc : List Str) (n : Str) : (addN acc n).length ≤ acc.length + 1 := by
  unfold addN
  split
  · omega
  · rw [List.length_append]; exact Nat.le_refl _
theorem addN_all : ∀ (ms acc : List Str), (ms.foldl addN acc).length ≤ acc.length + ms.length
  | [], acc => Nat.le_refl _
  | m :: ms, acc => by
    have h1 := addN_all ms (addN acc m)
    have h2 := addN_len acc m
    rw [List.foldl_cons, List.length_cons]
    omega
mutual
theorem names_len : ∀ t : T, (names t).length ≤ Tp.size t
  | .text _ => by rw [names]; exact Nat.zero_le _
  | .elem n cs => by
    have h := namesL_len cs [n]
    rw [names, Tp.size]
    exact h
theorem namesL_len : ∀ (cs : List T) (acc : List Str), (namesL acc cs).length ≤ acc.length + Tp.sizeL cs
  | [], acc => by rw [namesL, Tp.sizeL]; omega
  | c :: r, acc => by
    have h1 := namesL_len r ((names c).foldl addN acc)
    have h2 := addN_all (names c) acc
    have h3 := names_len c
    rw [namesL, Tp.sizeL]
    omega
end
theorem mem_addN {acc : List Str} {n m : Str} : m ∈ addN acc n ↔ m ∈ acc ∨ m = n := by
  unfold addN
  split
  · rename_i h
    exact ⟨.inl, fun k => k.elim id fun e => by rw [e]; exact h⟩
  · rw [List.mem_append, List.mem_singleton]
theorem mem_addNs : ∀ {ms acc : List Str} {m : Str}, m ∈ ms.foldl addN acc ↔ m ∈ acc ∨ m ∈ ms
  | [], acc, m => by simp
  | x :: ms, acc, m => by
    rw [List.foldl_cons, mem_addNs, mem_addN, List.mem_cons, or_assoc]
theorem nd_addN {acc : List Str} {n : Str} (h : acc.Nodup) : (addN acc n).Nodup := by
  unfold addN
  split
  · exact h
  · rename_i hn
    rw [List.nodup_append]
    refine ⟨h, by simp, fun a ha b hb => ?_⟩
    rw [List.mem_singleton.mp hb]
    intro e
    exact hn (by rw [← e]; exact ha)
theorem nd_addNs : ∀ {ms acc : List Str}, acc.Nodup → (ms.foldl addN acc).Nodup
  | [], _, h => h
  | x :: ms, acc, h => by rw [List.foldl_cons]; exact nd_addNs (nd_addN h)
theorem nd_namesL : ∀ {cs : List T} {acc : List Str}, acc.Nodup → (namesL acc cs).Nodup
  | [], acc, h => by rw [namesL]; exact h
  | c :: r, acc, h => by rw [namesL]; exact nd_namesL (nd_addNs h)
theorem nd_names (t : T) : (names t).Nodup := by
  cases t with
  | text s => rw [names]; exact List.nodup_nil
  | elem n cs => rw [names]; exact nd_namesL (by simp)
theorem mem_namesL : ∀ {cs : List T} {acc : List Str} {m : Str}, m ∈ namesL acc cs ↔ m ∈ acc ∨ ∃ c ∈ cs, m ∈ names c
  | [], acc, m => by rw [namesL]; simp
  | c :: r, acc, m => by
    rw [namesL, mem_namesL, mem_addNs]
    constructor
    · rintro ((h | h) | ⟨d, h1, h2⟩)
      · exact .inl h
      · exact .inr ⟨c, List.mem_cons_self, h⟩
      · exact .inr ⟨d, List.mem_cons_of_mem _ h1, h2⟩
    · rintro (h | ⟨d, h1, h2⟩)
      · exact .inl (.inl h)
      · rcases List.mem_cons.mp h1 with e | e
        · rw [e] at h2; exact .inl (.inr h2)
        · exact .inr ⟨d, e, h2⟩
theorem mem_names {n m : Str} {cs : List T} : m ∈ names (.elem n cs) ↔ m = n ∨ ∃ c ∈ cs, m ∈ names c := by
  rw [names, mem_namesL, List.mem_singleton]
theorem size_mem : ∀ {cs : List T} {c : T}, c ∈ cs → Tp.size c ≤ Tp.sizeL cs
  | [], c, h => absurd h (by simp)
  | d :: r, c, h => by
    rw [Tp.sizeL]
    rcases List.mem_cons.mp h with e | e
    · rw [e]; omega
    · have q := size_mem e
      omega
theorem sizeL_take : ∀ (cs : List T) (i : Nat), Tp.sizeL (cs.take i) ≤ Tp.sizeL cs
  | [], i => by rw [List.take_nil]; exact Nat.le_refl _
  | c :: r, 0 => by rw [List.take_zero, Tp.sizeL]; exact Nat.zero_le _
  | c :: r, i + 1 => by
    have h := sizeL_take r i
    rw [List.take_succ_cons, Tp.sizeL, Tp.sizeL]
    omega
theorem take_one {α : Type} : ∀ {l : List α} {i : Nat} {x : α}, l[i]? = some x → l.take (i + 1) = l.take i ++ [x]
  | [], i, x, h => by simp at h
  | a :: l, 0, x, h => by
    have e : a = x := Option.some.inj h
    subst e
    rfl
  | a :: l, i + 1, x, h => by
    have ih := take_one (l := l) (i := i) (x := x) (by simpa using h)
    show a :: l.take (i + 1) = a :: l.take i ++ [x]
    rw [ih]
    rfl
/-- names_in, n calls deep -/
def spNI (n : Nat) : Sp := fun vs H Q _ => ∃ (t : T) (v : V), vs = [v] ∧ At H t v ∧ Tp.dep t < n ∧ Tp.size t ≤ 1000 ∧ ∀ (p : Addr) H', Same H H' → H p = none → H' p = some (.dK (mkN (names t))) → Q (.ref p) H'
/-- nothing is asked of a def at no level -/
theorem fn_never {P : Program} {w : World} {K : PySem.W.Frag} {mg : Str → Option Value} {base : Heap} {CX : CXT} {f : Addr} {fd : FuncData} {ps : List Str} {sp : Sp} (no : ∀ vs H Q E, ¬ sp vs H Q E) : FnOk P w K mg base CX 0 f fd ps sp :=
  ⟨fun vs H Q E h => absurd h (no vs H Q E), fun A outer s H args us vs Q E _ _ _ _ h => absurd h (no vs H Q E)⟩
section
variable {P : Program} {w : World} {K : PySem.W.Frag} {mg : Str → Option Value} {base : Heap}
theorem scNI : FnScope ["tree", "found", "child"] ["tree"] (defScope sNamesIn) := ⟨rfl, rfl, rfl, by decide +kernel, rfl, by decide +kernel, by decide +kernel⟩
theorem ok_NI1 {n : Nat} {f : Addr} {fd : FuncData} (F : Fun K "names_in" "names_in" sNamesIn f fd) (X : Txt mg) (m : mg "names_in" = some (.ref f)) (b : Binds K fd ["tree"] []) (G : FnOk P w K mg base CX0 n f fd ["tree"] (spNI n)) : FnOk P w K mg base CX0 (n + 1) f fd ["tree"] (spNI (n + 1)) := by
  refine F.ok scNI (fun vs H Q E h => ?_) (fun cdv A outer s H vs Q E hr h => ?_)
  · obtain ⟨t, v, rfl, _⟩ := h
    rfl
  · obtain ⟨t, v, rfl, hT, hd, hz, q⟩ := h
    refine ⟨_, pss_cons (ps_if (pt_val (pe_callB call_isi rfl X.isi (by decide +kernel) (pa_cons (pv 0) (pa_cons (pe_bltn (v := .ty "str") rfl X.str (by decide +kernel) rfl) pa_nil)))) (pss_one (ps_ret pe_dnewK)) pss_nil)
      (pss_cons (ps_set (i := 1) scNI.nd rfl (Or.inl rfl) (pe_disp (pps_cons (pe_ix ix_tup (pv 0) pe_int (fun _ _ => rfl)) pe_bl pps_nil) (by rfl) (by rfl) (fun z => by cases z) (by decide)))
      (pss_cons (ps_for PassesOwn.never rfl (pi_list (pe_ix ix_tup (pv 0) pe_int (fun _ _ => rfl))) (pg_name (i := 2) scNI.nd rfl (Or.inl rfl))
        (pss_one (ps_expr (pe_bm PySem.F.plainAttrs_dict PySem.F.slot_dict_update PySem.F.type_dict_update mt_update (pv 1) (pa_cons (pe_call G hr rfl m F.kp b .nil pass0 (pa_cons (pv 2) pa_nil)) pa_nil)))))
      (pss_one (ps_ret (pv 1))))), ?_⟩
    refine ⟨_, rfl, _, _, _, _, _, rfl, .ty "str", hT.ty, kit_str t, _, rfl, ?_⟩
    cases t with
    | text z =>
      refine iteT ?_
      refine fun p hp => q p _ (same_new hp _) hp ?_
      rw [names]
      exact upd_same
    | elem nm cs =>
      refine iteF ?_
      obtain ⟨tt, la, ws, rfl, h1, h2, h3⟩ := At.parts hT
      have hcl := len_size cs
      have lv := h3.len
      rw [Tp.size] at hz
      rw [Tp.dep] at hd
      intro d hdn
      have s1 : Same H (upd H d (.dK [])) := same_new hdn _
      refine ⟨_, rfl, tt, _, _, _, rfl, rfl, SqT.of (s1 _ _ h1), (atI_nat (j := 0) rfl), ?_⟩
      refine ⟨upd_same, [(Sum.inr nm, .bl true)], rfl, (show 1 ≤ 15 by decide), ?_⟩
      rw [upd_upd]
      have s2 : Same H (upd H d (.dK (mergeK [] [(Sum.inr nm, .bl true)]))) := same_new hdn _
      have e1 : mergeK [] [((Sum.inr nm : Key), V.bl true)] = mkN [nm] := rfl
      rw [e1] at s2 ⊢
      refine ⟨_, rfl, tt, _, _, _, rfl, rfl, SqT.of (s2 _ _ h1), (atI_nat (j := 1) rfl), la, rfl, ⟨_, SqL.of (s2 _ _ h2)⟩, for_it walk_list (fun i σ H' => ∃ c, σ = [some (.ref tt), some (.ref d), c] ∧ Same H H' ∧ H' d = some (.dK (mkN (namesL [nm] (cs.take i)))))
        ⟨none, rfl, s2, by rw [List.take_zero, namesL]; exact upd_same⟩ (fun i σ H' _ ⟨_, _, s, _⟩ => SqL.of (s _ _ h2)) ?_ ?_⟩
      · rintro i x σ H1 H2 hi ⟨c, rfl, s, hD⟩ ⟨rfl, hx⟩
        obtain ⟨tc, hc, kc⟩ := h3.get hx
        have hmem : tc ∈ cs := List.mem_of_getElem? hc
        have hdc := dep_mem hmem
        have hsc := size_mem hmem
        refine ⟨_, rfl, .inr (.inr (.inl ⟨rfl, .inl ⟨_, hD⟩⟩)), _, rfl, tc, x, rfl, kc.same s, by omega, by omega, fun p H3 s3 hp hP => ?_⟩
        have hpd : d ≠ p := fun e => by rw [← e, hD] at hp; cases hp
        have hl1 := namesL_len (cs.take i) [nm]
        have hl2 := names_len tc
        have hl3 := sizeL_take cs i
        rw [List.length_singleton] at hl1
        refine ⟨d, p, _, _, rfl, rfl, hpd, s3 _ _ hD, hP, ?_, ?_⟩
        · rw [mkN_len, mkN_len]
          have z : 2000 ≤ sizeLine := by decide
          omega
        · rw [mergeK_mk]
          refine ⟨some x, rfl, Same.at (s.trans s3) hdn _, ?_⟩
          rw [take_one hc, namesL_snoc]
          exact upd_same
      · rintro σ H1 ⟨c, rfl, s, hD⟩
        rw [List.take_of_length_le (by omega)] at hD
        exact ⟨_, rfl, q d H1 s hdn (by rw [names]; exact hD)⟩
theorem ok_NI {f : Addr} {fd : FuncData} (F : Fun K "names_in" "names_in" sNamesIn f fd) (X : Txt mg) (m : mg "names_in" = some (.ref f)) (b : Binds K fd ["tree"] []) : ∀ n : Nat, FnOk P w K mg base CX0 n f fd ["tree"] (spNI n)
  | 0 => fn_never fun vs H Q E ⟨t, v, _, _, h, _⟩ => absurd h (Nat.not_lt_zero _)
  | n + 1 => ok_NI1 F X m b (ok_NI F X m b n)
end
end Tk

/-! k27: the class Gatherer. -/
namespace Tk
open PySem PySem.Spec PyProof.Rows L2
open Tp (Tree)
theorem lk_here {k : Str} {v : V} {r : List (Str × V)} : List.lookup k ((k, v) :: r) = some v := by
  have e : (k == k) = true := beq_self_eq_true k
  simp only [List.lookup, e]
theorem lk_past {k g : Str} {v : V} {r : List (Str × V)} (h : (k == g) = false) : List.lookup k ((g, v) :: r) = List.lookup k r := by
  simp only [List.lookup, h]
theorem put_here {f : Str} {v x : V} {r : List (Str × V)} : putF f v ((f, x) :: r) = (f, v) :: r := if_pos rfl
theorem put_past {f g : Str} {v x : V} {r : List (Str × V)} (h : ¬ g = f) : putF f v ((g, x) :: r) = (g, x) :: putF f v r := if_neg h
/-- the label of a name among ns -/
def lb (ns : List Str) (n : Str) : Int := 1 + ((ns.idxOf n : Nat) : Int)
def txV : T → V
  | .text s => .str s
  | .elem _ _ => .non
def b2 (b : Bool) : Int := if b then 1 else 0
/-- one node's row, its path not at q -/
def NodeAt (ns : List Str) (q : Addr) (H : Hp) (d : Tp.Nd Str) (y : V) : Prop := ∃ a u, y = .ref a ∧ H a = some (.tup [.ref u, .int (Tp.lab (lb ns) d.t), .int (b2 d.last), .int (b2 (Tp.full d.t)), txV d.t]) ∧ u ≠ q ∧ H u = some (.lst (d.path.map V.int))
def NodesAt (ns : List Str) (q : Addr) (H : Hp) : List (Tp.Nd Str) → List V → Prop
  | [], ys => ys = []
  | d :: r, ys => ∃ y ys', ys = y :: ys' ∧ NodeAt ns q H d y ∧ NodesAt ns q H r ys'
theorem NodeAt.but {ns : List Str} {q : Addr} {H H' : Hp} {xs : List V} (hq : H q = some (.lst xs)) (k : But q H H') {d : Tp.Nd Str} {y : V} (h : NodeAt ns q H d y) : NodeAt ns q H' d y := by
  obtain ⟨a, u, e, h1, n, h2⟩ := h
  exact ⟨a, u, e, k a _ (ne_of h1 hq (by intro z; cases z)) h1, n, k u _ n h2⟩
theorem NodesAt.but {ns : List Str} {q : Addr} {H H' : Hp} {xs : List V} (hq : H q = some (.lst xs)) (k : But q H H') : ∀ {ds : List (Tp.Nd Str)} {ys : List V}, NodesAt ns q H ds ys → NodesAt ns q H' ds ys
  | [], _, h => by rw [NodesAt] at h ⊢; exact h
  | d :: r, ys, h => by
    rw [NodesAt] at h ⊢
    obtain ⟨y, ys', e, h1, h2⟩ := h
    exact ⟨y, ys', e, h1.but hq k, NodesAt.but hq k h2⟩
theorem NodesAt.append {ns : List Str} {q : Addr} {H : Hp} : ∀ {a b : List (Tp.Nd Str)} {ys zs : List V}, NodesAt ns q H a ys → NodesAt ns q H b zs → NodesAt ns q H (a ++ b) (ys ++ zs)
  | [], b, ys, zs, h, k => by rw [NodesAt] at h; rw [h]; exact k
  | d :: r, b, ys, zs, h, k => by
    rw [NodesAt] at h
    obtain ⟨y, ys', rfl, h1, h2⟩ := h
    rw [List.cons_append, NodesAt]
    exact ⟨y, ys' ++ zs, rfl, h1, NodesAt.append h2 k⟩
theorem NodesAt.one {ns : List Str} {q : Addr} {H : Hp} {d : Tp.Nd Str} {y : V} (h : NodeAt ns q H d y) : NodesAt ns q H [d] [y] := by
  rw [NodesAt]
  exact ⟨y, [], rfl, h, by rw [NodesAt]⟩
theorem NodesAt.len {ns : List Str} {q : Addr} {H : Hp} : ∀ {ds : List (Tp.Nd Str)} {ys : List V}, NodesAt ns q H ds ys → ys.length = ds.length
  | [], _, h => by rw [NodesAt] at h; rw [h]; rfl
  | d :: r, ys, h => by
    rw [NodesAt] at h
    obtain ⟨y, ys', rfl, _, h2⟩ := h
    rw [List.length_cons, List.length_cons, NodesAt.len h2]
/-- the gatherer's attributes -/
def gF (a q : Addr) : List (Str × V) := [("names", .ref a), ("nodes", .ref q)]
theorem gF_names (a q : Addr) : (gF a q).lookup ("names" : Str) = some (.ref a) := lk_here
theorem gF_nodes (a q : Addr) : (gF a q).lookup ("nodes" : Str) = some (.ref q) := (lk_past (by decide +kernel)).trans lk_here
theorem gF_no (a q : Addr) : (gF a q).lookup ("gather" : Str) = none := (lk_past (by decide +kernel)).trans ((lk_past (by decide +kernel)).trans rfl)
structure Gt (K : PySem.W.Frag) (mg : Str → Option Value) (C fI fG : Addr) : Prop where
  cl : Cls K C
  nN : NoAttr K C "names"
  nO : NoAttr K C "nodes"
  mgC : mg "Gatherer" = some (.ref C)
  mI : Mk K C fI
  mG : Meth K C "gather" fG
def spGI (C : Addr) : Sp := fun vs H Q _ => ∃ (g dx a : Addr), vs = [.ref g, .ref a] ∧ H g = some (.ins C dx []) ∧ ∀ (q : Addr) H', H q = none → But g H H' → H' g = some (.ins C dx (gF a q)) → H' q = some (.lst []) → Q .non H'
/-- gather, n calls deep -/
def spG (C : Addr) (n : Nat) : Sp := fun vs H Q _ => ∃ (g dx a q u : Addr) (t : T) (v : V) (b : Bool) (ns : List Str) (p : List Int) (ys : List V), vs = [.ref g, v, .ref u, .bl b] ∧ H g = some (.ins C dx (gF a q)) ∧ H a = some (.lst (ns.map V.str)) ∧ a ≠ q ∧ H q = some (.lst ys) ∧
  H u = some (.lst (p.map V.int)) ∧ u ≠ q ∧ TreeIn (fun x => x ≠ q) H t v ∧ Tp.dep t < n ∧ ys.length + Tp.size t ≤ 1000 ∧ p.length + n ≤ 1000 ∧ (∀ m ∈ names t, m ∈ ns) ∧
  ∀ H' zs, But q H H' → H' q = some (.lst (ys ++ zs)) → NodesAt ns q H' (Tp.preT (lb ns) p b t) zs → Q .non H'
theorem TreeIn.parts {F : Addr → Prop} {H : Hp} {n : Str} {cs : List T} {v : V} (h : TreeIn F H (.elem n cs) v) : ∃ t l vs, v = .ref t ∧ F t ∧ F l ∧ H t = some (.tup [.str n, .ref l]) ∧ H l = some (.lst vs) ∧ TreesIn F H cs vs := by
  rw [TreeIn] at h
  exact h
theorem TreeIn.but {q : Addr} {H H' : Hp} (k : But q H H') {t : T} {v : V} (h : TreeIn (fun x => x ≠ q) H t v) : TreeIn (fun x => x ≠ q) H' t v := h.mono (fun b o f e _ => k b o f e) fun _ _ f _ => f
theorem TreesIn.but {q : Addr} {H H' : Hp} (k : But q H H') {t : List T} {v : List V} (h : TreesIn (fun x => x ≠ q) H t v) : TreesIn (fun x => x ≠ q) H' t v := h.mono (fun b o f e _ => k b o f e) fun _ _ f _ => f
theorem idx_at {ns : List Str} {n : Str} (h : n ∈ ns) : ns[ns.idxOf n]? = some n := by
  have q := List.idxOf_lt_length_iff.mpr h
  rw [List.getElem?_eq_getElem q, List.getElem_idxOf]
theorem idx_first {ns : List Str} {n z : Str} {m : Nat} (h : m < ns.idxOf n) (e : ns[m]? = some z) : (z == n) = false := by
  have hm : m < ns.length := (List.getElem?_eq_some_iff.mp e).1
  have e2 : ns[m] = z := (List.getElem?_eq_some_iff.mp e).2
  have q := List.not_of_lt_findIdx (p := (· == n)) (xs := ns) (i := m) h
  rw [← e2]
  simpa using q
section
variable {P : Program} {w : World} {K : PySem.W.Frag} {mg : Str → Option Value} {base : Heap} {C fI fG : Addr}
theorem scGI : FnScope ["self", "names"] ["self", "names"] (defScope sGathInit) := ⟨rfl, rfl, rfl, by decide +kernel, rfl, by decide +kernel, by decide +kernel⟩
theorem ok_GI {f : Addr} {fd : FuncData} (F : Fun K "__init__" "Gatherer.__init__" sGathInit f fd) (T : Gt K mg C fI fG) : FnOk P w K mg base CX0 1 f fd ["self", "names"] (spGI C) := by
  refine F.ok scGI (fun vs H Q E h => ?_) (fun cdv A outer s H vs Q E hr h => ?_)
  · obtain ⟨g, dx, a, rfl, _⟩ := h
    rfl
  · obtain ⟨g, dx, a, rfl, hg, q⟩ := h
    refine ⟨_, pss_cons (ps_fld (pv 0) (pv 1) rfl) (pss_one (ps_fld (pv 0) (pe_lst pa_nil) rfl)), ?_⟩
    refine ⟨_, rfl, _, rfl, g, C, dx, [], rfl, hg, T.cl, T.nN, (by show 0 < 1000; decide), ?_⟩
    refine ⟨(by show 0 ≤ sizeLine; decide), fun l hl => ?_⟩
    have hgl : g ≠ l := fun e => by rw [← e, upd_same] at hl; cases hl
    have hl0 : H l = none := by rw [upd_ne hgl.symm] at hl; exact hl
    refine ⟨_, rfl, g, C, dx, [("names", .ref a)], rfl, ?_, T.cl, T.nO, (by show 1 < 1000; decide), ?_⟩
    · rw [upd_ne hgl, upd_same]; rfl
    · refine q l _ hl0 (((But.refl H).put _).new hl _ |>.put _) ?_ ?_
      · rw [upd_same, put_past (by decide +kernel)]
        rfl
      · rw [upd_ne hgl.symm, upd_same]
theorem scG : FnScope ["self", "tree", "upward", "is_last", "name", "children", "label", "place", "child"] ["self", "tree", "upward", "is_last"] (defScope sGather) := ⟨rfl, rfl, rfl, by decide +kernel, rfl, by decide +kernel, by decide +kernel⟩
theorem ok_G1 {n : Nat} {fd : FuncData} (F : Fun K "gather" "Gatherer.gather" sGather fG fd) (X : Txt mg) (T : Gt K mg C fI fG) (b : Binds K fd ["self", "tree", "upward", "is_last"] []) (G : FnOk P w K mg base CX0 n fG fd ["self", "tree", "upward", "is_last"] (spG C n)) :
    FnOk P w K mg base CX0 (n + 1) fG fd ["self", "tree", "upward", "is_last"] (spG C (n + 1)) := by
  refine F.ok scG (fun vs H Q E h => ?_) (fun cdv A outer s H vs Q E hr h => ?_)
  · obtain ⟨g, dx, a, q, u, t, v, b, ns, p, ys, rfl, _⟩ := h
    rfl
  · obtain ⟨g, dx, a, q, u, t, v, bl, ns, p, ys, rfl, hg, ha, haq, hq, hu, huq, hT, hd, hz, hp, hn, fin⟩ := h
    refine ⟨_, pss_cons (ps_if (pt_val (pe_callB call_isi rfl X.isi (by decide +kernel) (pa_cons (pv 1) (pa_cons (pe_bltn (v := .ty "str") rfl X.str (by decide +kernel) rfl) pa_nil))))
        (pss_cons (ps_expr (pe_bm PySem.F.plainAttrs_list PySem.F.slot_list_append PySem.F.type_list_append mt_append (pe_fld (pv 0) rfl) (pa_cons
          (pe_tup (pa_cons (pv 2) (pa_cons pe_int (pa_cons (pe_callTy call_int1 rfl X.int boot_int (pa_cons (pv 3) pa_nil)) (pa_cons pe_int (pa_cons (pv 1) pa_nil)))))) pa_nil))) (pss_one ps_retN)) pss_nil)
      (pss_cons (ps_asg (pv 1) (pg_tup rfl (pgs_cons (pg_name (i := 4) scG.nd rfl (Or.inl rfl)) (pgs_cons (pg_name (i := 5) scG.nd rfl (Or.inl rfl)) pgs_nil))))
      (pss_cons (ps_set (i := 6) scG.nd rfl (Or.inl rfl) (pe_op op_add pe_int (pe_bm PySem.F.plainAttrs_list PySem.F.slot_list_index PySem.F.type_list_index mt_index (pe_fld (pv 0) rfl) (pa_cons (pv 4) pa_nil))))
      (pss_cons (ps_expr (pe_bm PySem.F.plainAttrs_list PySem.F.slot_list_append PySem.F.type_list_append mt_append (pe_fld (pv 0) rfl) (pa_cons
          (pe_tup (pa_cons (pv 2) (pa_cons (pv 6) (pa_cons (pe_callTy call_int1 rfl X.int boot_int (pa_cons (pv 3) pa_nil)) (pa_cons (pe_callTy call_int1 rfl X.int boot_int (pa_cons (pe_cmpR op_gt (pe_callB call_len_seq rfl X.len PySem.boot_len (pa_cons (pv 5) pa_nil)) pe_int (nomark _)) pa_nil)) (pa_cons pe_non pa_nil)))))) pa_nil)))
      (pss_one (ps_for PassesOwn.never rfl (pi_enum rfl X.enum (pa_cons (pv 5) pa_nil)) (pg_tup rfl (pgs_cons (pg_name (i := 7) scG.nd rfl (Or.inl rfl)) (pgs_cons (pg_name (i := 8) scG.nd rfl (Or.inl rfl)) pgs_nil)))
        (pss_one (ps_expr (pe_meth (pv 0) T.cl T.mG G hr b .nil pass0 (pa_cons (pv 8) (pa_cons (pe_op op_cat (pe_lst (pa_cons (pv 6) pa_nil)) (pv 2)) (pa_cons (pe_cmpR op_eq (pv 7) (pe_op op_sub (pe_callB call_len_seq rfl X.len PySem.boot_len (pa_cons (pv 5) pa_nil)) pe_int) (nomark _)) pa_nil))))))))))), ?_⟩
    refine ⟨_, rfl, _, _, _, _, _, rfl, .ty "str", hT.any.ty, kit_str t, _, rfl, ?_⟩
    cases t with
    | text z =>
      refine iteT ?_
      obtain rfl := At.sign hT.any
      rw [Tp.size] at hz
      refine ⟨_, rfl, g, C, dx, _, _, rfl, hg, T.cl, T.nO, gF_nodes a q, .inl ⟨rfl, _, SqL.of hq⟩, ?_⟩
      refine ⟨_, rfl, _, rfl, .inr ⟨bl, rfl, ?_⟩⟩
      refine ⟨_, rfl, (by show 5 ≤ sizeLine; decide), fun tp htp => ?_⟩
      have s1 : Same H (upd H tp (.tup [.ref u, .int 0, .int (if bl then 1 else 0), .int 0, .str z])) := same_new htp _
      refine ⟨q, ys, .ref tp, rfl, rfl, s1 _ _ hq, Nat.lt_of_lt_of_le (show ys.length < 1000 by omega) (by decide), ?_⟩
      have htq : tp ≠ q := fun e => by rw [e, hq] at htp; cases htp
      refine fin _ [.ref tp] ((But.of s1).put _) upd_same ?_
      rw [Tp.preT]
      exact NodesAt.one ⟨tp, u, rfl, by rw [upd_ne htq]; exact upd_same, huq, by rw [upd_ne huq]; exact s1 _ _ hu⟩
    | elem nm cs =>
      refine iteF ?_
      obtain ⟨tt, la, ws, rfl, ft, fl, h1, h2, h3⟩ := hT.parts
      have lv := h3.len
      have hcl := len_size cs
      rw [Tp.size] at hz
      rw [Tp.dep] at hd
      have hmem : nm ∈ ns := hn nm (mem_names.mpr (.inl rfl))
      refine ⟨_, rfl, tt, _, rfl, SqT.of h1, rfl, _, _, rfl, _, _, rfl, rfl, ?_⟩
      refine ⟨_, rfl, g, C, dx, _, _, rfl, hg, T.cl, T.nN, gF_names a q, .inl ⟨rfl, _, SqL.of ha⟩, _, rfl, a, _, .str nm, ns.idxOf nm, .str nm, rfl, rfl, SqL.of ha, rfl, ?_, ?_, ?_, ?_, ?_⟩
      · rw [List.all_map]; exact List.all_eq_true.mpr fun _ _ => rfl
      · rw [List.getElem?_map, idx_at hmem]; rfl
      · show (nm == nm) = true
        exact beq_self_eq_true nm
      · intro m z' hm e
        rw [List.getElem?_map] at e
        cases e2 : ns[m]? with
        | none => rw [e2] at e; cases e
        | some z =>
          rw [e2] at e
          rw [← Option.some.inj e]
          exact idx_first hm e2
      refine ⟨_, _, rfl, rfl, ?_⟩
      refine ⟨_, rfl, g, C, dx, _, _, rfl, hg, T.cl, T.nO, gF_nodes a q, .inl ⟨rfl, _, SqL.of hq⟩, ?_⟩
      refine ⟨_, rfl, _, rfl, _, rfl, .inr ⟨bl, rfl, ?_⟩⟩
      refine ⟨_, rfl, la, ws, rfl, .inl (SqL.of h2), _, _, rfl, rfl, .inr ⟨_, rfl, ?_⟩⟩
      refine ⟨(by show 5 ≤ sizeLine; decide), fun tp htp => ?_⟩
      have htq : tp ≠ q := fun e => by rw [e, hq] at htp; cases htp
      refine ⟨q, ys, .ref tp, rfl, rfl, same_new htp _ _ _ hq, Nat.lt_of_lt_of_le (show ys.length < 1000 by omega) (by decide), ?_⟩
      generalize hrow : V.int (if decide ((0 : Int) < ((ws.length : Nat) : Int)) = true then 1 else 0) = rowF
      have erow : rowF = V.int (b2 (Tp.full (Tree.elem nm cs))) := by
        rw [← hrow, lv]
        cases cs with
        | nil => rfl
        | cons c r =>
          rw [if_pos (decide_eq_true (by rw [List.length_cons]; omega))]
          rfl
      subst erow
      have s1 : Same H (upd H tp (.tup [.ref u, .int (1 + ((ns.idxOf nm : Nat) : Int)), .int (if bl = true then 1 else 0), .int (b2 (Tp.full (Tree.elem nm cs))), .non])) := same_new htp _
      have k2 : But q H (upd (upd H tp (.tup [.ref u, .int (1 + ((ns.idxOf nm : Nat) : Int)), .int (if bl = true then 1 else 0), .int (b2 (Tp.full (Tree.elem nm cs))), .non])) q (.lst (ys ++ [.ref tp]))) := (But.of s1).put _
      have hroot : NodeAt ns q (upd (upd H tp (.tup [.ref u, .int (1 + ((ns.idxOf nm : Nat) : Int)), .int (if bl = true then 1 else 0), .int (b2 (Tp.full (Tree.elem nm cs))), .non])) q (.lst (ys ++ [.ref tp]))) ⟨p, bl, .elem nm cs⟩ (.ref tp) :=
        ⟨tp, u, rfl, by rw [upd_ne htq]; exact upd_same, huq, by rw [upd_ne huq]; exact s1 _ _ hu⟩
      refine ⟨_, rfl, la, ws, rfl, SqL.of (k2 _ _ fl h2), for_it walk_enum (fun i σ H' => ∃ (c7 c8 : Option V) (done : List (Tp.Nd Str)) (zs : List V), σ = [some (.ref g), some (.ref tt), some (.ref u), some (.bl bl), some (.str nm), some (.ref la), some (.int (1 + ((ns.idxOf nm : Nat) : Int))), c7, c8] ∧ But q H H' ∧
          H' q = some (.lst (ys ++ zs)) ∧ NodesAt ns q H' done zs ∧ Tp.preT (lb ns) p bl (.elem nm cs) = done ++ Tp.preL (lb ns) (lb ns nm :: p) (cs.drop i) ∧ zs.length + Tp.sizeL (cs.drop i) = 1 + Tp.sizeL cs)
        ⟨none, none, [⟨p, bl, .elem nm cs⟩], [.ref tp], rfl, k2, upd_same, NodesAt.one hroot, by rw [Tp.preT, List.drop_zero]; rfl, by rw [List.drop_zero]; rfl⟩ (fun i σ H' _ ⟨_, _, _, _, _, k, _⟩ => SqL.of (k _ _ fl h2)) ?_ ?_⟩
      · rintro i x σ H1 H2 hi ⟨c7, c8, done, zs, rfl, k, hQ, hN, hpre, hlen⟩ ⟨tN, x1, x2, rfl, hT1, rfl, e1, e2⟩
        cases e1
        obtain ⟨tc, hc, kc⟩ := h3.get e2
        have hmemc : tc ∈ cs := List.mem_of_getElem? hc
        have hdc := dep_mem hmemc
        have hdrop : cs.drop i = tc :: cs.drop (i + 1) := by
          have hlt := (List.getElem?_eq_some_iff.mp hc).1
          rw [List.drop_eq_getElem_cons hlt, (List.getElem?_eq_some_iff.mp hc).2]
        rw [hdrop, Tp.sizeL] at hlen
        rw [hdrop, Tp.preL] at hpre
        -- the pair, then the target
        have kN : But q H (upd H1 tN (.tup [.int (i : Nat), x2])) := k.new hT1 _
        have hNq : tN ≠ q := fun e => by rw [e, hQ] at hT1; cases hT1
        refine ⟨tN, _, rfl, SqT.of upd_same, rfl, _, _, rfl, _, _, rfl, rfl, ?_⟩
        have hgq : g ≠ q := ne_of hg hq (by intro z; cases z)
        refine ⟨_, rfl, g, dx, _, rfl, kN _ _ hgq hg, gF_no a q, ?_⟩
        -- child, [label] + upward
        refine ⟨_, rfl, _, rfl, (by show 1 ≤ sizeLine; decide), fun p1 hp1 => ?_⟩
        have hp1q : p1 ≠ q := fun e => by rw [e, upd_ne hNq.symm, hQ] at hp1; cases hp1
        have kP := kN.new hp1 (.lst [.int (1 + ((ns.idxOf nm : Nat) : Int))])
        refine ⟨_, rfl, p1, u, _, _, rfl, rfl, upd_same, kP _ _ huq hu, (by rw [List.length_singleton, List.length_map]; exact small16 (by omega)), fun p2 hp2 => ?_⟩
        have kU := kP.new hp2 (.lst ([.int (1 + ((ns.idxOf nm : Nat) : Int))] ++ p.map V.int))
        have hQ2 : (upd (upd H1 tN (.tup [.int (i : Nat), x2])) p1 (.lst [.int (1 + ((ns.idxOf nm : Nat) : Int))])) q = some (.lst (ys ++ zs)) := by rw [upd_ne hp1q.symm, upd_ne hNq.symm]; exact hQ
        have hp2q : p2 ≠ q := fun e => by rw [e, hQ2] at hp2; cases hp2
        refine ⟨_, rfl, _, rfl, la, ws, rfl, .inl (SqL.of (kU _ _ fl h2)), _, _, rfl, rfl, rfl, ?_⟩
        have elast : decide (V.int ((i : Nat) : Int) = V.int (((ws.length : Nat) : Int) - 1)) = (cs.drop (i + 1)).isEmpty := by
          rw [Bool.eq_iff_iff, decide_eq_true_iff, List.isEmpty_iff, List.drop_eq_nil_iff, lv]
          constructor
          · intro z
            have z' : ((i : Nat) : Int) = ((cs.length : Nat) : Int) - 1 := by injection z
            omega
          · intro z
            have hlt := (List.getElem?_eq_some_iff.mp hc).1
            congr 1
            omega
        rw [elast]
        have k1U : But q H1 (upd (upd (upd H1 tN (.tup [.int (i : Nat), x2])) p1 (.lst [.int (1 + ((ns.idxOf nm : Nat) : Int))])) p2 (.lst ([.int (1 + ((ns.idxOf nm : Nat) : Int))] ++ p.map V.int))) := (((But.refl H1).new hT1 _).new hp1 _).new hp2 _
        refine ⟨g, dx, a, q, p2, tc, x2, (cs.drop (i + 1)).isEmpty, ns, lb ns nm :: p, ys ++ zs, rfl, kU _ _ hgq hg, kU _ _ haq ha, haq, ?_, upd_same, hp2q, kc.but kU, by omega, ?_, by rw [List.length_cons]; omega, ?_, ?_⟩
        · rw [upd_ne hp2q.symm]; exact hQ2
        · rw [List.length_append]
          omega
        · exact fun m hm => hn m (mem_names.mpr (.inr ⟨tc, hmemc, hm⟩))
        · intro H3 zs2 k3 hQ3 hN3
          refine ⟨_, _, done ++ Tp.preT (lb ns) (lb ns nm :: p) (cs.drop (i + 1)).isEmpty tc, zs ++ zs2, rfl, kU.trans k3, by rw [← List.append_assoc]; exact hQ3, NodesAt.append (hN.but hQ (k1U.trans k3)) hN3, by rw [hpre, List.append_assoc], ?_⟩
          have lz := hN3.len
          rw [Tp.preT_size] at lz
          rw [List.length_append]
          omega
      · rintro σ H1 ⟨c7, c8, done, zs, rfl, k, hQ, hN, hpre, hlen⟩
        rw [List.drop_eq_nil_of_le (by omega), Tp.preL, List.append_nil] at hpre
        refine fin H1 zs k hQ ?_
        rw [hpre]
        exact hN
theorem ok_G {fd : FuncData} (F : Fun K "gather" "Gatherer.gather" sGather fG fd) (X : Txt mg) (T : Gt K mg C fI fG) (b : Binds K fd ["self", "tree", "upward", "is_last"] []) : ∀ n : Nat, FnOk P w K mg base CX0 n fG fd ["self", "tree", "upward", "is_last"] (spG C n)
  | 0 => fn_never fun vs H Q E ⟨_, _, _, _, _, _, _, _, _, _, _, _, _, _, _, _, _, _, _, h, _⟩ => absurd h (Nat.not_lt_zero _)
  | n + 1 => ok_G1 F X T b (ok_G F X T b n)
end
end Tk

/-! k27: sorted(xs, key=lambda ..), the keys lists that stand ahead of the sort. -/
namespace Tk
open PySem PySem.Spec PySem.Calls PyProof.Rows PySem.W
/-- all of the first heap stands in the second -/
def Up (h₀ h : Heap) : Prop := ∀ b o, h₀.get? b = some o → h.get? b = some o
theorem Up.refl (h : Heap) : Up h h := fun _ _ e => e
theorem Up.trans {h₀ h h' : Heap} (a : Up h₀ h) (b : Up h h') : Up h₀ h' := fun c o e => b c o (a c o e)
theorem Up.write {h₀ h h' : Heap} {c : Addr} (a : Up h₀ h) (hc : h₀.get? c = none) (sb : Heap.SameBut c h h') : Up h₀ h' := fun b o e => by
  have n : b ≠ c := fun z => by rw [z, hc] at e; cases e
  exact (sb.2 b n).trans (a b o e)
/-- f(x): all that stood stands, the key is read off h₀ -/
def KeyGot (h₀ : Heap) (k : PyData) (s₁ : Shared) (v : Value) (s₂ : Shared) : Prop := ∃ h' tk, s₂ = { s₁ with heap := h', toks := tk } ∧ Up s₁.heap h' ∧ ∃ as, Reads h₀ v k as
section
variable {prog : Program} {w : World} {A : Around} {E : Value → Shared → Prop} {s : Shared} {a kS : Addr} {b : Bool} {vs : List Value} {e1 : Nat} {P : PySem.Fin → Shared → Prop} {kz : List PyData} {h₀ : Heap}
theorem keyL_rest {f : Value} (up : Up h₀ s.heap) (n1 : h₀.get? kS = none) (n2 : h₀.get? a = none) (hS : s.heap.get? kS = some (seqObj "list" #[] 0)) (ha : s.heap.get? a = some (seqObj "list" #[] e1)) (hne : kS ≠ a)
    (hlen : kz.length = vs.length) (hZ : vs.length ≤ sizeLine) (hal : AllAlike kz) (hsk : Sortable kz) (hu : ∀ d, d ∈ kz → A.units + d.depth < cLine)
    (turn : ∀ (i : Nat) (v : Value) (k : PyData), vs[i]? = some v → kz[i]? = some k → ∀ (h : Heap) (tk : Nat), Up h₀ h → wpAny (model prog w) A (call f [v]) (KeyGot h₀ k { s with heap := h, toks := tk }) (fun _ _ => False) { s with heap := h, toks := tk })
    (fin : ∀ h' tk out c, Up h₀ h' → h'.get? a = some (seqObj "list" (List.toArray out) c) → KeyedOut b kz vs out → P (.done (.ret .none)) { s with heap := h', toks := tk }) :
    wpAny (model prog w) A (ksk_rest a f b vs.toArray e1 (.ref kS)) P E s := by
  unfold ksk_rest
  refine wpAny_bind (wpAny_rule ?_)
  rw [List.forIn_toArray]
  refine wpAny_bind (ksk_fold (fun i s' => ∃ h' tk kA e, s' = { s with heap := h', toks := tk } ∧ Up h₀ h' ∧ h'.get? kS = some (seqObj "list" kA e) ∧ h'.get? a = some (seqObj "list" #[] e1) ∧ EachIs (fun v k => ∃ as, Reads h₀ v k as) kA.toList (kz.take i)) vs 0 s
    ⟨s.heap, s.toks, #[], 0, rfl, up, hS, ha, by rw [List.take_zero]; exact EachIs.nil⟩ ?one ?all)
  case one =>
    rintro j x s' hx ⟨h', tk, kA, e, rfl, u1, k1, a1, hk⟩
    simp only [Nat.zero_add] at hk ⊢
    have hj : j < vs.length := (List.getElem?_eq_some_iff.mp hx).1
    have hkj : kz[j]? = some kz[j] := List.getElem?_eq_getElem (by omega)
    have room : kA.size ≤ vs.length := by
      have z := hk.length
      rw [Array.length_toList, List.length_take] at z
      omega
    refine wpAny_bind (wpAny_attempt (wpAny_mono (turn j x _ hx hkj h' tk u1) (fun v s'' got => ?_) fun _ _ z => z.elim))
    obtain ⟨g, tk2, rfl, u2, as, hr⟩ := got
    try dsimp only
    have k2 : g.get? kS = some (seqObj "list" kA e) := u2 _ _ k1
    have a2 : g.get? a = some (seqObj "list" #[] e1) := u2 _ _ a1
    have sb := Heap.SameBut.update g kS (Obj.mapSeq (·.push v))
    refine wpAny_bind (listUpdate_at k2 rfl ?_ (Nat.le_trans room hZ) (Nat.le_trans (Nat.le_of_eq (Array.size_push ..)) (Nat.succ_le_succ (Nat.le_trans room hZ))))
    have et : kz.take (j + 1) = kz.take j ++ [kz[j]] := by rw [List.take_add_one, hkj]; simp
    have ep : (kA.push v).toList = kA.toList ++ [v] := by simp
    refine wpAny_pure ⟨rfl, _, _, kA.push v, _, rfl, (u1.trans u2).write n1 sb, get?_update_seq k2 (·.push v), (sb.2 a hne.symm).trans a2, ?_⟩
    rw [ep, et]
    exact each_snoc (R := fun (v : Value) (k : PyData) => ∃ as, Reads h₀ v k as) ⟨as, hr⟩ hk
  case all =>
    rintro s' ⟨h', tk, kA, e, rfl, u1, k1, a1, hk⟩
    have et : kz.take (0 + vs.length) = kz := List.take_of_length_le (by omega)
    rw [et] at hk
    have hk' : EachIs (fun v k => ∃ as, Reads h' v k as) kA.toList kz := hk.mono fun v k ⟨as, r⟩ => ⟨as, PyProof.Rows.Reads.keeps u1 r⟩
    have hsz : kA.size = vs.length := by
      have z := hk'.length
      rw [Array.length_toList] at z
      omega
    try dsimp only
    refine wpAny_bind (listItems_at k1 rfl ?_)
    exact keyH_end (κ := dataKind h' kz) (h₁ := h₀) (fun c o _ q => u1 c o q) n1 k1 a1 hne (SortsAt.data (s := { s with heap := h', toks := tk }) hk' hal hsk hu) hsz hZ fun h3 tk3 c k3 n3 =>
      fin h3 tk3 _ c (fun b o q => k3 b o (fun z => by rw [z, n2] at q; cases q) q) n3 ⟨h', kA.toList, hal, rfl, hk'⟩
end
section
variable {prog : Program} {w : World} {A : Around} {E : Value → Shared → Prop} {s : Shared} {β : Type} {vs : List Value} {bs : List β} {R : Value → β → Prop}
/-- sorted(xs, key=f): the items sorted stably by their keys -/
theorem sortedL {l : Addr} {f : Value} {kw : List (Str × Value)} {Q : Value → Shared → Prop} (k : β → PyData) (hl : s.heap.IsList l vs.toArray) (e : EachIs R vs bs) (hal : AllAlike (bs.map k)) (hk : Sortable (bs.map k)) (hL : bs.length ≤ sizeLine)
    (hu : ∀ x, x ∈ bs → A.units + 2 + (k x).depth < cLine) (ha1 : argsOk "sorted" ⟨[.ref l], kw⟩) (ha2 : ∀ x, argsOk "list.sort" ⟨[.ref x], kw⟩) (ht : ∀ x, Builtin.«list.sort» ⟨[.ref x], kw⟩ = ksk_tree x f false)
    (turn : ∀ (v : Value) (x : β), R v x → x ∈ bs → ∀ (h : Heap) (tk : Nat), Up s.heap h → wpAny (model prog w) A.in1.in1 (call f [v]) (KeyGot s.heap (k x) { s with heap := h, toks := tk }) (fun _ _ => False) { s with heap := h, toks := tk })
    (fin : ∀ out c h' tk D, Up s.heap h' → s.heap.objs.size ≤ D → h'.get? D = some (seqObj "list" (List.toArray out) c) → out.length = bs.length → EachIs R out (bs.mergeSort (dataLe false k)) → Q (.ref D) { s with heap := h', toks := tk }) :
    wpAny (model prog w) A (call (.builtin "sorted") [.ref l] kw) Q E s := by
  have hvl : vs.length ≤ sizeLine := by rw [e.length]; exact hL
  refine sorted_of_sort hl hvl ha1 ha2 fun E' => ?_
  rw [ht]
  have hat := copyHeap_at s.heap vs
  have upc : Up s.heap (copyHeap s.heap vs) := fun b o q => copyHeap_old q
  have fresh : s.heap.get? (s.heap.objs.size + 1) = none := Heap.get?_none_of_le (Nat.le_succ _)
  have hlt : s.heap.objs.size + 1 < (copyHeap s.heap vs).objs.size := Heap.lt_size hat
  obtain ⟨e1, ho1⟩ : ∃ e1, ((copyHeap s.heap vs).update (s.heap.objs.size + 1) (Obj.mapSeq fun _ => (#[] : Array Value))).get? (s.heap.objs.size + 1) = some (seqObj "list" #[] e1) := ⟨_, get?_update_seq hat fun _ => #[]⟩
  have hsz : (((copyHeap s.heap vs).update (s.heap.objs.size + 1) (Obj.mapSeq fun _ => (#[] : Array Value))).push (seqObj "tuple" vs.toArray 0)).objs.size = (copyHeap s.heap vs).objs.size + 1 := by rw [size_push', Heap.size_update]
  unfold ksk_tree
  refine wpAny_bind (listItems_at hat rfl ?_)
  refine wpAny_bind (listUpdate_at hat rfl ?_ (by rw [List.size_toArray]; exact hvl) (Nat.zero_le _))
  refine wpAny_bind (seqEpoch_at ho1 rfl ?_)
  refine wpAny_bind (wpAny_newTuple ?_ hvl)
  refine wpAny_bind (wpAny_newList ?_ (Nat.zero_le _))
  refine wpAny_holding ?_
  have up2 : Up s.heap (sortingHeap (copyHeap s.heap vs) (s.heap.objs.size + 1) vs) := fun b o q => sorting_copy_old q
  refine keyL_rest (kz := bs.map k) (h₀ := s.heap) (s := { s with heap := (((copyHeap s.heap vs).update (s.heap.objs.size + 1) (Obj.mapSeq fun _ => (#[] : Array Value))).push (seqObj "tuple" vs.toArray 0)).push (seqObj "list" #[] 0) }) (kS := (((copyHeap s.heap vs).update (s.heap.objs.size + 1) (Obj.mapSeq fun _ => (#[] : Array Value))).push (seqObj "tuple" vs.toArray 0)).objs.size)
    up2 (Heap.get?_none_of_le (by rw [hsz]; omega)) fresh (Heap.get?_push_size _ rfl) (Heap.get?_push_of_some _ (Heap.get?_push_of_some _ ho1)) (by rw [hsz]; exact Nat.ne_of_gt (Nat.lt_succ_of_lt hlt)) (by rw [List.length_map]; exact e.length.symm) hvl hal hk (bound_map (A := A.in1.in1) hu) ?_ ?_
  · intro i v d hv hd h tk u
    rw [List.getElem?_map] at hd
    cases q : bs[i]? with
    | none => rw [q] at hd; cases hd
    | some x =>
      rw [q] at hd
      rw [← Option.some.inj hd]
      have hz : (v, x) ∈ vs.zip bs := List.mem_of_getElem? (i := i) (by rw [List.getElem?_zip_eq_some]; exact ⟨hv, q⟩)
      exact turn v x (e.zip _ hz) (List.mem_of_getElem? q) h tk u
  · intro h' tk out c u hD ko
    exact ⟨rfl, fin out c h' tk _ u (Nat.le_succ _) hD ((ko.length (by rw [List.length_map]; exact e.length.symm)).trans e.length) (keyedOut_each k ko e)⟩
end
end Tk

/-! k27: sorted(e, key=lambda x: x[0]). -/
namespace Tk
open PySem PySem.Spec PySem.Calls PyProof.Rows L2
open PySem.W (kla_obj kla_fn kla_callFunE kla_codeExpr EachIs dataLe AllAlike Sortable)
open LamX (Tabs TabB ExtN CodeO lam_make2)
section
variable {prog : Program} {w : World} {A : Around} {s : Shared}
/-- (lambda x: x[0])(t) -/
theorem lam_first {fa t : Addr} {qual x : Str} {lp : Arguments} {lsc : Scope} {j : Nat} {p1 p2 p3 : Pos} {pm ctv : Value} {c' : Addr} {items : Array Value} {u : Value} (hroom : A.depth < recursionLimit) (lim : s.heap.NoLimit)
    (ho : s.heap.get? fa = some (kla_obj "<lambda>" qual lp (.Subscript (.Name x p1) (.Constant (.int 0) j p2) p3) lsc [] pm c' ctv)) (hrec : s.heap.CodeRec (.ref c') qual) (ht : IsTup s.heap t items) (hz : items.size ≤ sizeLine) (h0 : items[0]? = some u)
    (hk : lsc.kind = .function) (hco : lsc.isCoroutine = false) (hge : lsc.isGenerator = false) (hn : lsc.names = [(x, .local)])
    (hb : ∀ v : Value, bindArgs (kla_fn "<lambda>" qual lp (.Subscript (.Name x p1) (.Constant (.int 0) j p2) p3) lsc [] pm (.ref c') ctv) ⟨[v], []⟩ = pure [(x, v)]) (hd : (x == ("__debug__" : Str)) = false) :
    wpAny (model prog w) A (call (.ref fa) [.ref t]) (fun v s' => v = u ∧ ∃ h' tk, s' = { s with heap := h', toks := tk } ∧ Up s.heap h') (fun _ _ => False) s := by
  have hl : lsc.names.lookup x = some .local := by
    rw [hn]
    have e : (x == x) = true := beq_self_eq_true x
    simp only [List.lookup, e]
  refine wpAny_call (kla_callFunE hroom ho rfl hco hge rfl hrec ?_)
  rw [hb]
  refine wpAny_pure (wpAny_newFunctionEnv (fun y hy => ?_) (fun y hy => ?_) (fun h₁ hns hsb => ⟨lim.fresh _ hsb, ?_⟩) hk)
  · rw [hn] at hy
    rw [List.mem_singleton.mp hy]
    intro z
    cases z
  · rw [List.mem_singleton.mp hy]
    exact hl
  have kp : Up s.heap h₁ := fun b o e => hsb.extBut b o (Nat.ne_of_lt (Heap.lt_size e)) (Heap.get?_push_of_some _ e)
  refine kla_codeExpr ?_
  have ht1 : IsTup h₁ t items := let ⟨o, e, r⟩ := ht; ⟨o, kp _ _ e, r⟩
  refine Subscript_ (wpAny_Name (wpAny_loadName_local (v := .ref t) (by exact hk) (by exact hl) hns ?_ ?_) hd)
  · show List.lookup x [(x, Value.ref t)].reverse = some (.ref t)
    have e : (x == x) = true := beq_self_eq_true x
    simp only [List.reverse_cons, List.reverse_nil, List.nil_append, List.lookup, e]
  · refine wpAny_Constant_int ?_
    have hn := line63
    have hi : 0 < items.size := (Array.getElem?_eq_some_iff.mp h0).1
    refine subscriptTail_builtinR (x := u) ht1.typeIs slot_tuple_getitem.lookup (getItem_tuple (j := 0) (Q := fun r s' => r = u ∧ _) ht1 (by omega) (by omega) (seqIndex_of (by omega) (by omega)) h0 ⟨rfl, ?_⟩) (by rfl)
    exact ⟨rfl, _, _, rfl, kp⟩
end
/-- what the sort gives -/
def sortP (bs : List (V × List Int)) : List (V × List Int) := bs.mergeSort fun p q => decide (p.2 ≤ q.2)
def kP (b : V × List Int) : PyData := .list (b.2.map .int)
theorem kP_alike (bs : List (V × List Int)) : AllAlike (bs.map kP) := AllAlike.of fun b b' => by
  show PySem.W.alike (.list (b.2.map .int)) (.list (b'.2.map .int)) = true
  rw [PySem.W.alike]
  exact PySem.W.alike_ints _ _
theorem kP_sortable (bs : List (V × List Int)) : Sortable (bs.map kP) := Sortable.others fun b => ⟨(fun z => nomatch z), fun xs z => nomatch z⟩
theorem kP_depth (b : V × List Int) : (kP b).depth ≤ 1 := by
  show PyData.depth (.list (b.2.map .int)) ≤ 1
  rw [PyData.depth, PySem.W.depth_ints]
  exact Nat.le_refl _
theorem each_of_vals : ∀ {bs : List (V × List Int)} {us : List Value}, Vals (bs.map (·.1)) us → EachIs (fun v b => RelV b.1 v) us bs
  | [], us, h => by
    have h' : Vals [] us := h
    cases h'
    exact .nil
  | b :: bs, us, h => by
    have h' : Vals (b.1 :: bs.map (·.1)) us := h
    cases h' with
    | cons r t => exact .cons r (each_of_vals t)
theorem vals_of_each : ∀ {bs : List (V × List Int)} {us : List Value}, EachIs (fun v b => RelV b.1 v) us bs → Vals (bs.map (·.1)) us
  | _, _, .nil => .nil
  | _, _, .cons r t => .cons r (vals_of_each t)
theorem extN_seq {K : PySem.W.Frag} {H H' : Hp} {a : Addr} {xs : List V} (e : ExtN H H') (h : SqL K H a xs) : SqL K H' a xs := by
  rcases h with (h | ⟨o, h⟩) | h
  · exact .inl (.inl (e _ _ h fun ps z => by cases z))
  · exact .inl (.inr ⟨o, e _ _ h fun ps z => by cases z⟩)
  · exact .inr h
theorem dpAll_ints {K : PySem.W.Frag} {H : Hp} : ∀ l : List Int, DpAll K H (l.map V.int) (l.map PyData.int)
  | [] => .nil
  | i :: l => .cons (.int i) (dpAll_ints l)
def tSortLam (K : PySem.W.Frag) (T : List (Addr × Str)) (te : TE) : TE := fun σ H Q => te σ H fun v H1 => ∃ (a : Addr) (bs : List (V × List Int)), [v] = [V.ref a] ∧ SqL K H1 a (bs.map (·.1)) ∧ bs.length ≤ 1000 ∧ Tabs T H1 ∧
  (∀ b ∈ bs, ∃ t u r, b.1 = .ref t ∧ H1 t = some (.tup (.ref u :: r)) ∧ H1 u = some (.lst (b.2.map V.int))) ∧
  ∀ H2 D, ExtN H1 H2 → Tabs T H2 → H2 D = none → Q (.ref D) (upd H2 D (.lst ((sortP bs).map (·.1))))
theorem pe_sortLam {X : Cx} {T : List (Addr × Str)} {c P : Addr} {e : Expr} {te : TE} {x : Str} {lp : Arguments} {lsc : Scope} {j k : Nat} {p p1 p2 p3 p4 p5 pos : Pos} (hg : Gl X "sorted") (hm : X.mg "sorted" = none) (ha : PA X [e] (tCons te tNil)) (hr : Room k X.A)
    (TB : TabB X.base X.mg c P) (hcode : X.env.code = .ref c) (hmT : (P, X.env.qual ++ "<lambda>") ∈ T) (hu : ∀ p ∈ T, p.1 = P → p.2 = X.env.qual ++ "<lambda>") (hdef : defaultsOf lp X.env = ([], []))
    (hk : lsc.kind = .function) (hco : lsc.isCoroutine = false) (hge : lsc.isGenerator = false) (hn : lsc.names = [(x, .local)])
    (hb : ∀ (q : Str) (pm cv ctv v : Value), bindArgs (kla_fn "<lambda>" q lp (.Subscript (.Name x p1) (.Constant (.int 0) j p2) p3) lsc [] pm cv ctv) ⟨[v], []⟩ = pure [(x, v)]) (hd : (x == ("__debug__" : Str)) = false)
    (hst : backTo pos (starEach [e] X.env) = (false, eval e X.env) :: backTo pos (starEach [] X.env) := by rfl) (hpl : (backTo pos (starEach [e] X.env)).any (·.1) = false := by rfl)
    (hall : (backToKw pos (keywordEach [⟨some "key", .Lambda lp (.Subscript (.Name x p1) (.Constant (.int 0) j p2) p3) lsc p4, p5⟩] X.env)).all (·.1.isSome) = true := by rfl)
    (hnone : (backToKw pos (keywordEach [⟨some "key", .Lambda lp (.Subscript (.Name x p1) (.Constant (.int 0) j p2) p3) lsc p4, p5⟩] X.env)).any (·.1.isNone) = false := by rfl) :
    PE X (.Call (.Name "sorted" p) [e] [⟨some "key", .Lambda lp (.Subscript (.Name x p1) (.Constant (.int 0) j p2) p3) lsc p4, p5⟩] pos) (tSortLam X.K T te) := by
  refine ⟨fun pins s σ H Q I h => ?_⟩
  refine wpAny_Call_Name_kw (ld_blt I hg hm (u := .builtin "sorted") (by decide +kernel) ?_ (by decide) (by decide))
  refine PyProof.Rows.callWith_kw (thn (ha.run pos pins s σ H _ I (show tCons te tNil σ H (fun vs H1 => ∃ (a : Addr) (bs : List (V × List Int)), vs = [V.ref a] ∧ SqL X.K H1 a (bs.map (·.1)) ∧ bs.length ≤ 1000 ∧ Tabs T H1 ∧
    (∀ b ∈ bs, ∃ t u r, b.1 = .ref t ∧ H1 t = some (.tup (.ref u :: r)) ∧ H1 u = some (.lst (b.2.map V.int))) ∧
    ∀ H2 D, ExtN H1 H2 → Tabs T H2 → H2 D = none → Q (.ref D) (upd H2 D (.lst ((sortP bs).map (·.1))))) from h)) fun us s1 hh => ?_) hst hpl hall hnone
  · obtain ⟨vs, H1, I1, r1, a, bs, rfl, hS, hz, hT, hb1, q⟩ := hh
    obtain rfl := Vals.ref1 r1
    show wpAny _ _ (evalAll [do let v ← eval (.Lambda lp (.Subscript (.Name x p1) (.Constant (.int 0) j p2) p3) lsc p4) X.env; standAt pos; pure v]) _ _ s1
    refine wpAny_evalAll_cons (wpAny_bind (lam_make2 I1 TB hcode hmT hu hT hdef (fun y hy e => ?_) fun f c' pm ctv H2 s2 I2 eN T2 hf hfn hfr hcode' => wpAny_bind (wpAny_standAt (wpAny_pure (wpAny_evalAll_nil ?_)))))
    · rw [hn] at hy
      rw [List.mem_singleton.mp hy] at e
      cases e
    have ecl : cloFrom X.env.cells lsc.names [] = [] := by rw [hn]; rfl
    rw [ecl] at hf
    show wpAny _ _ (call (.builtin "sorted") [.ref a] [(Str.ofString "key", .ref f)]) _ _ s2
    obtain ⟨its, rv, pl, hz2⟩ := I2.list (extN_seq eN hS)
    have hzL : bs.length ≤ sizeLine := small16 hz
    refine sortedL (R := fun v (b : V × List Int) => RelV b.1 v) kP pl.isList (each_of_vals rv) (kP_alike bs) (kP_sortable bs) hzL (fun b _ => ?_) (PyProof.Rows.ksk_s1 _ _) (fun _ => PyProof.Rows.ksk_l1 _ _) (fun y => PyProof.Rows.ksk_t1 f y) ?_ ?_
    · have z1 := hr.units
      have z2 := kP_depth b
      omega
    · intro v b hR hb2 h tk up
      obtain ⟨t, u, r, e1, h1, h2⟩ := hb1 b hb2
      rw [e1] at hR
      obtain rfl : v = Value.ref t := hR
      have h1' := eN _ _ h1 fun ps z => by cases z
      have h2' := eN _ _ h2 fun ps z => by cases z
      obtain ⟨hzt, its2, rv2, o, ho, htail⟩ := (show ObjOk X.prog X.w H2 s2.heap t (.tup (.ref u :: r)) from I2.hok t _ h1')
      obtain ⟨⟨oc, cvs, ct, hoc, hcd, hcv⟩, _, _⟩ := (show ObjOk X.prog X.w H2 s2.heap c' (CodeO c' (X.env.qual ++ "<lambda>")) from I2.hok c' _ hcode')
      cases rv2 with
      | cons ru rr =>
        rename_i u' us'
        obtain rfl : u' = Value.ref u := ru
        obtain ⟨as, hread⟩ := Dp.reads I2 (kP b) (.ref u) (.ref u) (.lst (SqL.of h2') (dpAll_ints b.2)) rfl
        have hlen := rr.length
        refine wpAny_mono (lam_first (s := { s2 with heap := h, toks := tk }) hr.depth (I2.nolimit.keeps up) (up _ _ hf) ⟨c', oc, cvs, ct, rfl, up _ _ hoc, hcd, hcv⟩ ⟨o, up _ _ ho, htail⟩ (by rw [List.size_toArray, List.length_cons, ← hlen]; exact hzt) rfl hk hco hge hn (fun v => hb _ _ _ _ v) hd) (fun v s' hh => ?_) fun _ _ z => z
        obtain ⟨rfl, h', tk', rfl, up'⟩ := hh
        exact ⟨h', tk', rfl, up', as, hread⟩
    · intro out cc h' tk D up hge2 hD hlen hE
      have eo : bs.mergeSort (dataLe false kP) = sortP bs := by
        have q2 : dataLe false kP = fun p q => decide (p.2 ≤ q.2) := PySem.W.dataLe_rows (fun b : V × List Int => b.2)
        rw [q2]
        rfl
      rw [eo] at hE
      have hls : (sortP bs).length = bs.length := List.length_mergeSort _
      exact ⟨.ref D, upd H2 D (.lst ((sortP bs).map (·.1))), I2.laid (t' := tk) up hge2 (show ObjOk X.prog X.w _ _ _ (.lst ((sortP bs).map (·.1))) from ⟨by rw [List.length_map, hls]; exact hzL, out, cc, vals_of_each hE, hD⟩), rfl, q H2 D eN T2 (I2.hok.fresh hge2)⟩
end Tk

/-! k27: the sorted nodes; the class Rows, parts_of, same_rows. -/
namespace Tk
open PySem PySem.Spec PyProof.Rows L2
open Tp (Tree Nd Srt)
/-! ### the sorted nodes -/
def leN (a b : Nd Str) : Bool := decide (a.path ≤ b.path)
theorem leN_total : PySem.W.TotalLe leN where
  trans := fun a b c h1 h2 => decide_eq_true (List.le_trans (of_decide_eq_true h1) (of_decide_eq_true h2))
  total := fun a b => (List.le_total a.path b.path).imp decide_eq_true decide_eq_true
theorem srt_sort (l : List (Nd Str)) : Srt (l.mergeSort leN) l where
  up := (PySem.W.sort_pairwise leN_total l).imp fun h => of_decide_eq_true h
  row := fun k => by
    by_cases hk : ∃ d ∈ l, d.path = k
    · obtain ⟨d, _, rfl⟩ := hk
      have q := PySem.W.sort_stable leN_total l d
      have e : PySem.W.sameRank leN d = Tp.atP d.path := by
        funext x
        unfold PySem.W.sameRank leN Tp.atP
        rw [Bool.eq_iff_iff, Bool.and_eq_true, decide_eq_true_iff, decide_eq_true_iff, decide_eq_true_iff]
        exact ⟨fun h => (Tp.le_anti _ _ h.1 h.2).symm, fun h => by rw [h]; exact ⟨List.le_refl _, List.le_refl _⟩⟩
      rw [e] at q
      exact q
    · have none : ∀ m : List (Nd Str), (∀ d ∈ m, d ∈ l) → m.filter (Tp.atP k) = [] := by
        intro m hm
        rw [List.filter_eq_nil_iff]
        intro d hd z
        exact hk ⟨d, hm d hd, by unfold Tp.atP at z; simpa using z⟩
      rw [none l fun d h => h, none _ fun d h => (List.mergeSort_perm l leN).mem_iff.mp h]
theorem NodesAt.zip {ns : List Str} {q : Addr} {H : Hp} : ∀ {ds : List (Nd Str)} {zs : List V}, NodesAt ns q H ds zs → ∀ p ∈ zs.zip ds, NodeAt ns q H p.2 p.1
  | [], zs, h, p, hp => by rw [List.zip_nil_right] at hp; exact absurd hp (by simp)
  | d :: r, zs, h, p, hp => by
    rw [NodesAt] at h
    obtain ⟨y, ys, rfl, h1, h2⟩ := h
    rcases List.mem_cons.mp (show p ∈ (y, d) :: ys.zip r from hp) with e | e
    · rw [e]; exact h1
    · exact NodesAt.zip h2 p e
theorem NodesAt.ofPairs {ns : List Str} {q : Addr} {H : Hp} : ∀ {ps : List (V × Nd Str)}, (∀ p ∈ ps, NodeAt ns q H p.2 p.1) → NodesAt ns q H (ps.map (·.2)) (ps.map (·.1))
  | [], _ => by rw [List.map_nil, List.map_nil, NodesAt]
  | p :: r, h => by
    rw [List.map_cons, List.map_cons, NodesAt]
    exact ⟨p.1, r.map (·.1), rfl, h p List.mem_cons_self, NodesAt.ofPairs fun x hx => h x (List.mem_cons_of_mem _ hx)⟩
theorem zip_snd {α β : Type} : ∀ {a : List α} {b : List β}, a.length = b.length → (a.zip b).map (·.2) = b
  | [], [], _ => rfl
  | [], _ :: _, h => by simp at h
  | _ :: _, [], h => by simp at h
  | x :: a, y :: b, h => by
    show y :: (a.zip b).map (·.2) = y :: b
    rw [zip_snd (by simpa using h)]
def bsOf (ds : List (Nd Str)) (zs : List V) : List (V × List Int) := (zs.zip ds).map fun p => (p.1, p.2.path)
theorem bsOf_fst : ∀ {ds : List (Nd Str)} {zs : List V}, zs.length = ds.length → (bsOf ds zs).map (·.1) = zs
  | [], [], _ => rfl
  | [], _ :: _, h => by simp at h
  | _ :: _, [], h => by simp at h
  | d :: ds, z :: zs, h => by
    show z :: ((zs.zip ds).map fun p => (p.1, p.2.path)).map (·.1) = z :: zs
    have ih := bsOf_fst (ds := ds) (zs := zs) (by simpa using h)
    unfold bsOf at ih
    rw [ih]
theorem nodes_sort {ns : List Str} {q : Addr} {H : Hp} {ds : List (Nd Str)} {zs : List V} (h : NodesAt ns q H ds zs) : NodesAt ns q H (ds.mergeSort leN) ((sortP (bsOf ds zs)).map (·.1)) := by
  have hl := h.len
  have e1 : sortP (bsOf ds zs) = ((zs.zip ds).mergeSort fun a b => leN a.2 b.2).map fun p => (p.1, p.2.path) :=
    (PySem.W.sort_maps (l := zs.zip ds) (r := fun a b : V × Nd Str => leN a.2 b.2) (s := fun p q : V × List Int => decide (p.2 ≤ q.2)) (fun p : V × Nd Str => (p.1, p.2.path)) fun a _ b _ => rfl).symm
  have e2 : ((zs.zip ds).mergeSort fun a b => leN a.2 b.2).map (·.2) = ds.mergeSort leN := by
    have z := PySem.W.sort_maps (r := fun a b : V × Nd Str => leN a.2 b.2) (s := leN) (l := zs.zip ds) (fun p : V × Nd Str => p.2) fun a _ b _ => rfl
    rw [zip_snd hl] at z
    exact z
  rw [e1, List.map_map, ← e2]
  exact NodesAt.ofPairs fun p hp => h.zip p ((List.mergeSort_perm _ _).mem_iff.mp hp)
theorem NodesAt.get {ns : List Str} {q : Addr} {H : Hp} : ∀ {ds : List (Nd Str)} {zs : List V} {i : Nat} {y : V}, NodesAt ns q H ds zs → zs[i]? = some y → ∃ d, ds[i]? = some d ∧ NodeAt ns q H d y
  | [], zs, i, y, h, e => by rw [NodesAt] at h; rw [h] at e; simp at e
  | d :: r, zs, i, y, h, e => by
    rw [NodesAt] at h
    obtain ⟨y', ys, rfl, h1, h2⟩ := h
    cases i with
    | zero =>
      simp at e
      subst e
      exact ⟨d, rfl, h1⟩
    | succ i =>
      obtain ⟨d', e1, h3⟩ := NodesAt.get h2 (show ys[i]? = some y by simpa using e)
      exact ⟨d', by simpa using e1, h3⟩
/-! ### the class Rows -/
def rF (a b c d e : Addr) : List (Str × V) := [("names", .ref a), ("labels", .ref b), ("lasts", .ref c), ("fulls", .ref d), ("texts", .ref e)]
theorem rF_names (a b c d e : Addr) : (rF a b c d e).lookup ("names" : Str) = some (.ref a) := lk_here
theorem rF_labels (a b c d e : Addr) : (rF a b c d e).lookup ("labels" : Str) = some (.ref b) := (lk_past (by decide +kernel)).trans lk_here
theorem rF_lasts (a b c d e : Addr) : (rF a b c d e).lookup ("lasts" : Str) = some (.ref c) := (lk_past (by decide +kernel)).trans ((lk_past (by decide +kernel)).trans lk_here)
theorem rF_fulls (a b c d e : Addr) : (rF a b c d e).lookup ("fulls" : Str) = some (.ref d) := (lk_past (by decide +kernel)).trans ((lk_past (by decide +kernel)).trans ((lk_past (by decide +kernel)).trans lk_here))
theorem rF_texts (a b c d e : Addr) : (rF a b c d e).lookup ("texts" : Str) = some (.ref e) := (lk_past (by decide +kernel)).trans ((lk_past (by decide +kernel)).trans ((lk_past (by decide +kernel)).trans ((lk_past (by decide +kernel)).trans lk_here)))
def r1 (a : Addr) : List (Str × V) := [("names", .ref a)]
def r2 (a b : Addr) : List (Str × V) := [("names", .ref a), ("labels", .ref b)]
def r3 (a b c : Addr) : List (Str × V) := [("names", .ref a), ("labels", .ref b), ("lasts", .ref c)]
def r4 (a b c d : Addr) : List (Str × V) := [("names", .ref a), ("labels", .ref b), ("lasts", .ref c), ("fulls", .ref d)]
theorem rF_put0 (a : Addr) : putF "names" (V.ref a) [] = r1 a := rfl
theorem rF_put1 (a b : Addr) : putF "labels" (V.ref b) (r1 a) = r2 a b := (put_past (by decide +kernel)).trans rfl
theorem rF_put2 (a b c : Addr) : putF "lasts" (V.ref c) (r2 a b) = r3 a b c := (put_past (by decide +kernel)).trans (congrArg _ ((put_past (by decide +kernel)).trans rfl))
theorem rF_put3 (a b c d : Addr) : putF "fulls" (V.ref d) (r3 a b c) = r4 a b c d :=
  (put_past (by decide +kernel)).trans (congrArg _ ((put_past (by decide +kernel)).trans (congrArg _ ((put_past (by decide +kernel)).trans rfl))))
theorem rF_put4 (a b c d e : Addr) : putF "texts" (V.ref e) (r4 a b c d) = rF a b c d e :=
  (put_past (by decide +kernel)).trans (congrArg _ ((put_past (by decide +kernel)).trans (congrArg _ ((put_past (by decide +kernel)).trans (congrArg _ ((put_past (by decide +kernel)).trans rfl))))))
structure Rt (K : PySem.W.Frag) (mg : Str → Option Value) (C fI : Addr) : Prop where
  cl : Cls K C
  n1 : NoAttr K C "names"
  n2 : NoAttr K C "labels"
  n3 : NoAttr K C "lasts"
  n4 : NoAttr K C "fulls"
  n5 : NoAttr K C "texts"
  mgC : mg "Rows" = some (.ref C)
  mI : Mk K C fI
/-- rows: the instance and its five lists -/
def RowsAt (C : Addr) (H : Hp) (r : Addr) (x1 x2 x3 x4 x5 : List V) : Prop := ∃ dx a b c d e, H r = some (.ins C dx (rF a b c d e)) ∧ H a = some (.lst x1) ∧ H b = some (.lst x2) ∧ H c = some (.lst x3) ∧ H d = some (.lst x4) ∧ H e = some (.lst x5)
def spRI (C : Addr) : Sp := fun vs H Q _ => ∃ (g dx a b c d e : Addr) (x1 x2 x3 x4 x5 : List V), vs = [.ref g, .ref a, .ref b, .ref c, .ref d, .ref e] ∧ H g = some (.ins C dx []) ∧ H a = some (.lst x1) ∧ H b = some (.lst x2) ∧ H c = some (.lst x3) ∧ H d = some (.lst x4) ∧ H e = some (.lst x5) ∧
  ∀ H', But g H H' → RowsAt C H' g x1 x2 x3 x4 x5 → Q .non H'
section
variable {P : Program} {w : World} {K : PySem.W.Frag} {mg : Str → Option Value} {base : Heap} {C fI : Addr}
theorem scRI : FnScope ["self", "names", "labels", "lasts", "fulls", "texts"] ["self", "names", "labels", "lasts", "fulls", "texts"] (defScope sRowsInit) := ⟨rfl, rfl, rfl, by decide +kernel, rfl, by decide +kernel, by decide +kernel⟩
theorem ok_RI {f : Addr} {fd : FuncData} (F : Fun K "__init__" "Rows.__init__" sRowsInit f fd) (X : Txt mg) (T : Rt K mg C fI) : FnOk P w K mg base CX0 1 f fd ["self", "names", "labels", "lasts", "fulls", "texts"] (spRI C) := by
  refine F.ok scRI (fun vs H Q E h => ?_) (fun cdv A outer s H vs Q E hr h => ?_)
  · obtain ⟨g, dx, a, b, c, d, e, x1, x2, x3, x4, x5, rfl, _⟩ := h
    rfl
  · obtain ⟨g, dx, a, b, c, d, e, x1, x2, x3, x4, x5, rfl, hg, ha, hb, hc, hd, he, q⟩ := h
    refine ⟨_, pss_cons (ps_fld (pv 0) (pe_callTy call_list_of rfl X.list boot_list (pa_cons (pv 1) pa_nil)) rfl)
      (pss_cons (ps_fld (pv 0) (pe_callTy call_list_of rfl X.list boot_list (pa_cons (pv 2) pa_nil)) rfl)
      (pss_cons (ps_fld (pv 0) (pe_callTy call_list_of rfl X.list boot_list (pa_cons (pv 3) pa_nil)) rfl)
      (pss_cons (ps_fld (pv 0) (pe_callTy call_list_of rfl X.list boot_list (pa_cons (pv 4) pa_nil)) rfl)
      (pss_one (ps_fld (pv 0) (pe_callTy call_list_of rfl X.list boot_list (pa_cons (pv 5) pa_nil)) rfl))))), ?_⟩
    have ng : ∀ {p : Addr} {xs : List V} {H' : Hp}, H' p = some (.lst xs) → H' g = some (.ins C dx []) → p ≠ g := fun h1 h2 => ne_of h1 h2 (by intro z; cases z)
    have ag : a ≠ g := ng ha hg
    have bg : b ≠ g := ng hb hg
    have cg : c ≠ g := ng hc hg
    have dg : d ≠ g := ng hd hg
    have eg : e ≠ g := ng he hg
    refine ⟨_, rfl, a, x1, rfl, .inl (SqL.of ha), fun p1 hp1 => ?_⟩
    have g1 : g ≠ p1 := ne_of_none hg hp1
    refine ⟨_, rfl, g, C, dx, [], rfl, by rw [upd_ne g1]; exact hg, T.cl, T.n1, (by show 0 < 1000; decide), ?_⟩
    rw [rF_put0]
    have k1 : But g H (upd (upd H p1 (.lst x1)) g (.ins C dx (r1 p1))) := ((But.refl H).new hp1 _).put _
    have h11 : (upd (upd H p1 (.lst x1)) g (.ins C dx (r1 p1))) p1 = some (.lst x1) := by rw [upd_ne g1.symm]; exact upd_same
    refine ⟨_, rfl, b, x2, rfl, .inl (SqL.of (k1 _ _ bg hb)), fun p2 hp2 => ?_⟩
    have g2 : g ≠ p2 := ne_of_none upd_same hp2
    refine ⟨_, rfl, g, C, dx, (r1 p1), rfl, by rw [upd_ne g2]; exact upd_same, T.cl, T.n2, (by show 1 < 1000; decide), ?_⟩
    rw [rF_put1]
    have k2 : But g _ (upd (upd _ p2 (.lst x2)) g (.ins C dx (r2 p1 p2))) := ((But.refl (upd (upd H p1 (.lst x1)) g (.ins C dx (r1 p1)))).new hp2 _).put _
    have h12 := k2 _ _ g1.symm h11
    have h22 : (upd (upd (upd (upd H p1 (.lst x1)) g (.ins C dx (r1 p1))) p2 (.lst x2)) g (.ins C dx (r2 p1 p2))) p2 = some (.lst x2) := by rw [upd_ne g2.symm]; exact upd_same
    have K2 := k1.trans k2
    have hg2 : (upd (upd (upd (upd H p1 (.lst x1)) g (.ins C dx (r1 p1))) p2 (.lst x2)) g (.ins C dx (r2 p1 p2))) g = some (.ins C dx (r2 p1 p2)) := upd_same
    revert hg2 K2 h12 h22
    generalize (upd (upd (upd (upd H p1 (.lst x1)) g (.ins C dx (r1 p1))) p2 (.lst x2)) g (.ins C dx (r2 p1 p2))) = H2
    intro h12 h22 K2 hg2
    refine ⟨_, rfl, c, x3, rfl, .inl (SqL.of (K2 _ _ cg hc)), fun p3 hp3 => ?_⟩
    have g3 : g ≠ p3 := ne_of_none hg2 hp3
    refine ⟨_, rfl, g, C, dx, (r2 p1 p2), rfl, by rw [upd_ne g3]; exact hg2, T.cl, T.n3, (by show 2 < 1000; decide), ?_⟩
    rw [rF_put2]
    have k3 : But g H2 (upd (upd H2 p3 (.lst x3)) g (.ins C dx (r3 p1 p2 p3))) := ((But.refl H2).new hp3 _).put _
    have h13 := k3 _ _ g1.symm h12
    have h23 := k3 _ _ g2.symm h22
    have h33 : (upd (upd H2 p3 (.lst x3)) g (.ins C dx (r3 p1 p2 p3))) p3 = some (.lst x3) := by rw [upd_ne g3.symm]; exact upd_same
    have K3 := K2.trans k3
    have hg3 : (upd (upd H2 p3 (.lst x3)) g (.ins C dx (r3 p1 p2 p3))) g = some (.ins C dx (r3 p1 p2 p3)) := upd_same
    clear k3
    revert hg3 K3 h13 h23 h33
    generalize (upd (upd H2 p3 (.lst x3)) g (.ins C dx (r3 p1 p2 p3))) = H3
    intro h13 h23 h33 K3 hg3
    refine ⟨_, rfl, d, x4, rfl, .inl (SqL.of (K3 _ _ dg hd)), fun p4 hp4 => ?_⟩
    have g4 : g ≠ p4 := ne_of_none hg3 hp4
    refine ⟨_, rfl, g, C, dx, (r3 p1 p2 p3), rfl, by rw [upd_ne g4]; exact hg3, T.cl, T.n4, (by show 3 < 1000; decide), ?_⟩
    rw [rF_put3]
    have k4 : But g H3 (upd (upd H3 p4 (.lst x4)) g (.ins C dx (r4 p1 p2 p3 p4))) := ((But.refl H3).new hp4 _).put _
    have h14 := k4 _ _ g1.symm h13
    have h24 := k4 _ _ g2.symm h23
    have h34 := k4 _ _ g3.symm h33
    have h44 : (upd (upd H3 p4 (.lst x4)) g (.ins C dx (r4 p1 p2 p3 p4))) p4 = some (.lst x4) := by rw [upd_ne g4.symm]; exact upd_same
    have K4 := K3.trans k4
    have hg4 : (upd (upd H3 p4 (.lst x4)) g (.ins C dx (r4 p1 p2 p3 p4))) g = some (.ins C dx (r4 p1 p2 p3 p4)) := upd_same
    clear k4
    revert hg4 K4 h14 h24 h34 h44
    generalize (upd (upd H3 p4 (.lst x4)) g (.ins C dx (r4 p1 p2 p3 p4))) = H4
    intro h14 h24 h34 h44 K4 hg4
    refine ⟨_, rfl, e, x5, rfl, .inl (SqL.of (K4 _ _ eg he)), fun p5 hp5 => ?_⟩
    have g5 : g ≠ p5 := ne_of_none hg4 hp5
    refine ⟨_, rfl, g, C, dx, (r4 p1 p2 p3 p4), rfl, by rw [upd_ne g5]; exact hg4, T.cl, T.n5, (by show 4 < 1000; decide), ?_⟩
    rw [rF_put4]
    have k5 : But g H4 (upd (upd H4 p5 (.lst x5)) g (.ins C dx (rF p1 p2 p3 p4 p5))) := ((But.refl H4).new hp5 _).put _
    exact q _ (K4.trans k5) ⟨dx, p1, p2, p3, p4, p5, upd_same, k5 _ _ g1.symm h14, k5 _ _ g2.symm h24, k5 _ _ g3.symm h34, k5 _ _ g4.symm h44, by rw [upd_ne g5.symm]; exact upd_same⟩
end
end Tk

/-! k27: rows_of. -/
namespace Tk
open PySem PySem.Spec PyProof.Rows L2
open Tp (Tree Nd Srt)
open LamX (Tabs TabB ExtN TabS)
/-- X(), X an own exception class without own __init__ -/
theorem pmk_own0 {X : Cx} {C : Addr} {bmB : List Value} {B newId initId : String} {x : Str} {p pos : Pos} (F : ExcBaseFacts B newId initId bmB) (q : PySem.W.excIn X.K C bmB newId = true) (gC : X.mg x = some (.ref C)) (kC : PySem.W.keepIn X.K (.ref C) = true)
    (r : Raises X (.ref C)) (hg : Gl X x) (hdb : (x == ("__debug__" : Str)) = false := by decide) : PMk X (.Call (.Name x p) [] [] pos) (fun _ H Q => Q (.ref C) none H) := by
  intro pins s σ H Q I h
  refine wpAny_Call_Name_kw (ld_glob I hg gC ?_ hdb)
  refine PySem.W.callWith_K0 I.kIn kC ?_
  obtain ⟨bm, N, nm, qn, bs, hdct, sn, sub, ab, col, dd, k0, k1, k2, k3, k5, mN, hC, hN, hni, T⟩ := exc_obj I.kIn q
  refine wpAny_call_exc_subT F T hC hN hni (fun h' e hm => ?_) (Nat.zero_le _)
  exact mk_of I hm r h (I.hok.gone hm.new)
/-! ### nodes under a growing heap -/
/-- lists, tuples, instances stand -/
def Stands (H H' : Hp) : Prop := ∀ b o, H b = some o → (∀ ps, o ≠ .tbl ps) → H' b = some o
theorem NodeAt.ext {ns : List Str} {q : Addr} {H H' : Hp} (k : ExtN H H') {d : Nd Str} {y : V} (h : NodeAt ns q H d y) : NodeAt ns q H' d y := by
  obtain ⟨a, u, e, h1, n, h2⟩ := h
  exact ⟨a, u, e, k a _ h1 (fun ps z => by cases z), n, k u _ h2 fun ps z => by cases z⟩
theorem NodesAt.ext {ns : List Str} {q : Addr} {H H' : Hp} (k : ExtN H H') : ∀ {ds : List (Nd Str)} {ys : List V}, NodesAt ns q H ds ys → NodesAt ns q H' ds ys
  | [], _, h => by rw [NodesAt] at h ⊢; exact h
  | d :: r, ys, h => by
    rw [NodesAt] at h ⊢
    obtain ⟨y, ys', e, h1, h2⟩ := h
    exact ⟨y, ys', e, h1.ext k, NodesAt.ext k h2⟩
theorem range_get {α β : Type} (l : List α) (g : α → β) (z : β) : (List.range l.length).map (fun i => ((l.map g)[i]?).getD z) = l.map g := by
  apply List.ext_getElem?
  intro j
  by_cases hj : j < l.length
  · simp [hj]
  · rw [List.getElem?_eq_none (by simp; omega), List.getElem?_eq_none (by simp; omega)]
/-! ### the rows of a tree, as lists -/
def xNames (ns : List Str) : List V := ns.map V.str
def xLabs (ns : List Str) (S : List (Nd Str)) : List V := S.map fun d => V.int (Tp.lab (lb ns) d.t)
def xLasts (S : List (Nd Str)) : List V := S.map fun d => V.int (b2 d.last)
def xFulls (S : List (Nd Str)) : List V := S.map fun d => V.int (b2 (Tp.full d.t))
def xTexts (ns : List Str) (S : List (Nd Str)) : List V := (S.filter fun d => decide (Tp.lab (lb ns) d.t = 0)).map fun d => txV d.t
def tabT (Pt : Addr) : List (Addr × Str) := [(Pt, ("rows_of" : Str) ++ ".<locals>." ++ "<lambda>")]
def spRows (Pt CI CR : Addr) : Sp := fun vs H Q E => ∃ (t : T) (v : V), vs = [v] ∧ At H t v ∧ lenOk t ∧ Tp.size t ≤ 900 ∧ Tp.dep t < 10 ∧ (names t).length < 64 ∧ Tabs (tabT Pt) H ∧
  (isDoc t = true → ∀ (r : Addr) H' (ns : List Str) (S : List (Nd Str)), ExtN H H' → Tabs (tabT Pt) H' → ns.Perm (names t) → sortedS ns = true → Srt S (Tp.preT (lb ns) [] true t) → RowsAt CR H' r (xNames ns) (xLabs ns S) (xLasts S) (xFulls S) (xTexts ns S) → Q (.ref r) H') ∧
  (isDoc t = false → ∀ H', ExtN H H' → Tabs (tabT Pt) H' → E (.ref CI) none H')
structure Xt (K : PySem.W.Frag) (mg : Str → Option Value) (CI : Addr) : Prop where
  gC : mg "InvalidDocument" = some (.ref CI)
  xC : PySem.W.excIn K CI [.type "ValueError", .type "Exception", .type "BaseException", .type "object"] "ValueError.__new__" = true
  kC : PySem.W.keepIn K (.ref CI) = true
  bC : PySem.W.subIn K (.ref CI) (.type "BaseException") = some true
  tC : PySem.W.typeIn K (.ref CI) = some (.type "type")
  eC : PySem.W.exmOne K (.ref CI) (.ref CI) = some true
/-- an instance made and changed: all else stands -/
theorem made_same {H H' : Hp} {x dx : Addr} {o1 o2 : HO} (nx : H x = none) (nd : H dx = none) (k : But x (upd (upd H dx o1) x o2) H') : Same H H' := fun b o e => by
  have n1 : b ≠ x := ne_of_none e nx
  have n2 : b ≠ dx := ne_of_none e nd
  exact k b o n1 (by rw [upd_ne n1, upd_ne n2]; exact e)
theorem TreeIn.avoid {F : Addr → Prop} {H : Hp} {q : Addr} (n : H q = none) {t : T} {v : V} (h : TreeIn F H t v) : TreeIn (fun x => x ≠ q) H t v := h.mono (fun _ _ _ e _ => e) fun _ _ _ e => ne_of_none e n
theorem extN_trans {H H1 H2 : Hp} (a : ExtN H H1) (b : ExtN H1 H2) : ExtN H H2 := a.trans b
section
variable {P : Program} {w : World} {K : PySem.W.Frag} {mg : Str → Option Value} {base : Heap} {C fI fG CI CR fR c Pt : Addr}
abbrev nRows : List Str := ["tree", "gatherer", "nodes", "labels", "lasts", "fulls", "node"]
theorem scRows : FnScope nRows ["tree"] (defScope sRowsOf) := ⟨rfl, rfl, rfl, by decide +kernel, rfl, by decide +kernel, by decide +kernel⟩
theorem ok_rows {f : Addr} {fd fdI fdG fdR : FuncData} (F : Fun K "rows_of" "rows_of" sRowsOf f fd) (hcode : fd.code = .ref c) (TB : TabB base mg c Pt) (X : Txt mg) (Xe : Xt K mg CI) (Tg : Gt K mg C fI fG) (Tr : Rt K mg CR fR)
    (Dc : Has P w K mg base CX0 4 "is_document" ["tree"] spDoc) (Ni : Has P w K mg base CX0 10 "names_in" ["tree"] (spNI 10))
    (GI : FnOk P w K mg base CX0 1 fI fdI ["self", "names"] (spGI C)) (bI : Binds K fdI ["self", "names"] [])
    (GG : FnOk P w K mg base CX0 10 fG fdG ["self", "tree", "upward", "is_last"] (spG C 10)) (bG : Binds K fdG ["self", "tree", "upward", "is_last"] [])
    (GR : FnOk P w K mg base CX0 1 fR fdR ["self", "names", "labels", "lasts", "fulls", "texts"] (spRI CR)) (bR : Binds K fdR ["self", "names", "labels", "lasts", "fulls", "texts"] []) :
    FnOk P w K mg base (L2.CX P w) 11 f fd ["tree"] (spRows Pt CI CR) := by
  obtain ⟨fD, fdD, GD, bD, kD, mD⟩ := Dc
  obtain ⟨fN, fdN, GN, bN, kN, mN⟩ := Ni
  obtain ⟨oc, od, kV, doc, pm, an, cdv, ct, osl, rfl, lk, hcd⟩ := F.ex
  have hcdv : cdv = .ref c := hcode
  refine fn_of lk hcd scRows (fun vs H Q E h => ?_) (fun A outer s H vs Q E hr h => ?_)
  · obtain ⟨t, v, rfl, _⟩ := h
    rfl
  · obtain ⟨t, v, rfl, hT, hlen, hsz, hd, hnm, hTab, hyes, hno⟩ := h
    have hr4 : Room 4 _ := hr.mono (by decide)
    have hr2 : Room 2 _ := hr.mono (by decide)
    refine ⟨_, pss_cons (ps_if (pt_not (pt_val (pe_call GD hr4 rfl mD kD bD .nil pass0 (pa_cons (pv 0) pa_nil)))) (pss_one (ps_raise rfl (takes_of rfl rfl rfl rfl) (pmk_own0 PySem.F.excBase_ValueError Xe.xC Xe.gC Xe.kC (raises_own Xe.bC Xe.tC) rfl))) pss_nil)
      (PSs.nox (pss_cons (ps_set (i := 1) scRows.nd rfl (Or.inl rfl) (pe_make Tg.mI GI hr2 rfl Tg.mgC bI .nil pass0 (pa_cons (pe_callB (call_sortedD rfl) rfl X.sorted (by decide +kernel) (pa_cons (pe_call GN hr rfl mN kN bN .nil pass0 (pa_cons (pv 0) pa_nil)) pa_nil)) pa_nil)))
      (pss_cons (ps_expr (pe_meth (pv 1) Tg.cl Tg.mG GG hr bG .nil pass0 (pa_cons (pv 0) (pa_cons (pe_lst pa_nil) (pa_cons pe_bl pa_nil)))))
      (pss_cons (ps_set (i := 2) scRows.nd rfl (Or.inl rfl) (pe_sortLam (T := tabT Pt) (c := c) (P := Pt) rfl X.sorted (pa_cons (pe_fld (pv 1) rfl) pa_nil) hr TB hcdv (List.mem_singleton.mpr rfl) (fun p hp _ => by rw [List.mem_singleton.mp hp]; rfl) rfl rfl rfl rfl rfl (fun _ _ _ _ _ => rfl) (by decide)))
      (pss_cons (ps_setLc (i := 3) (own := [("node", 6)]) (g := gName 6) (tt := tYes) rfl scRows.nd rfl rfl (sw_true rfl rfl rfl (by decide +kernel)) (pi_list (pv 2)) (blkOk_by (N := nRows) (sc := defScope sRowsOf) (by decide +kernel))
          (fun _ _ _ _ _ => pg_name (i := 6) scRows.nd rfl (Or.inl rfl)) (fun _ _ _ _ _ => pts_nil) (fun _ _ _ _ _ => pe_ix (show IxR _ (rIxT K) from ix_tup) (pv 6) pe_int (fun _ _ => rfl)))
      (pss_cons (ps_setLc (i := 4) (own := [("node", 6)]) (g := gName 6) (tt := tYes) rfl scRows.nd rfl rfl (sw_true rfl rfl rfl (by decide +kernel)) (pi_list (pv 2)) (blkOk_by (N := nRows) (sc := defScope sRowsOf) (by decide +kernel))
          (fun _ _ _ _ _ => pg_name (i := 6) scRows.nd rfl (Or.inl rfl)) (fun _ _ _ _ _ => pts_nil) (fun _ _ _ _ _ => pe_ix (show IxR _ (rIxT K) from ix_tup) (pv 6) pe_int (fun _ _ => rfl)))
      (pss_cons (ps_setLc (i := 5) (own := [("node", 6)]) (g := gName 6) (tt := tYes) rfl scRows.nd rfl rfl (sw_true rfl rfl rfl (by decide +kernel)) (pi_list (pv 2)) (blkOk_by (N := nRows) (sc := defScope sRowsOf) (by decide +kernel))
          (fun _ _ _ _ _ => pg_name (i := 6) scRows.nd rfl (Or.inl rfl)) (fun _ _ _ _ _ => pts_nil) (fun _ _ _ _ _ => pe_ix (show IxR _ (rIxT K) from ix_tup) (pv 6) pe_int (fun _ _ => rfl)))
      (pss_one (ps_ret (pe_make Tr.mI GR hr2 rfl Tr.mgC bR .nil pass0 (pa_cons (pe_fld (pv 1) rfl) (pa_cons (pv 3) (pa_cons (pv 4) (pa_cons (pv 5) (pa_cons
          (pe_lc (own := [("node", 6)]) (g := gName 6) (tt := tTest (tOp rEq (tOp (rIxT K) (tVar 6) (tC (.int 1))) (tC (.int 0)))) rfl scRows.nd (pi_list (pv 2)) (blkOk_by (N := nRows) (sc := defScope sRowsOf) (by decide +kernel))
            (fun _ _ _ _ _ => pg_name (i := 6) scRows.nd rfl (Or.inl rfl)) (fun _ _ _ _ _ => pts_one (pt_cmpR op_eq (pe_ix (show IxR _ (rIxT K) from ix_tup) (pv 6) pe_int (fun _ _ => rfl)) pe_int (nomark _))) (fun _ _ _ _ _ => pe_ix (show IxR _ (rIxT K) from ix_tup) (pv 6) pe_int (fun _ _ => rfl))) pa_nil))))))))))))))), ?_⟩
    refine ⟨_, rfl, t, v, rfl, hT, hlen, by omega, by omega, fun H1 s1 => ⟨_, rfl, ?_⟩⟩
    have x1 : ExtN H H1 := ExtN.of s1
    have T1 : Tabs (tabT Pt) H1 := hTab.ext s1
    by_cases cd : isDoc t = true
    · refine ite2 (fun y => by rw [cd] at y; cases y) (fun _ => ?_)
      refine ⟨_, rfl, t, v, rfl, hT.same s1, hd, by omega, fun p H2 s2 hp hP => ?_⟩
      refine ⟨p, mkN (names t), names t, rfl, Rd.of hP, (by unfold mkN; rw [List.map_map]; rfl), hnm, fun ns a hperm hsorted ha => ?_⟩
      intro x dx nx ndx nex
      have sH2 := s1.trans s2
      have sA0 : Same H (upd H2 a (.lst (ns.map V.str))) := Same.new sH2 ha _
      refine ⟨x, dx, a, rfl, upd_same, fun q HA hq kA hgA hqA => ⟨rfl, ?_⟩⟩
      have sA1 : Same (upd H2 a (.lst (ns.map V.str))) HA := made_same nx ndx kA
      have sA := sA0.trans sA1
      have haA : HA a = some (.lst (ns.map V.str)) := sA1 _ _ upd_same
      have hqH : H q = none := by
        have z : (upd H2 a (.lst (ns.map V.str))) q = none := by
          cases e : (upd H2 a (.lst (ns.map V.str))) q with
          | none => rfl
          | some o =>
            have n1 : q ≠ x := ne_of_none e nx
            have n2 : q ≠ dx := ne_of_none e ndx
            rw [upd_ne n1, upd_ne n2, e] at hq
            cases hq
        exact sA0.free z
      have haq : a ≠ q := by
        have z : (upd (upd (upd H2 a (.lst (ns.map V.str))) dx (.own x)) x (.ins C dx [])) a = some (.lst (ns.map V.str)) := by
          rw [upd_ne (ne_of_none upd_same nx), upd_ne (ne_of_none upd_same ndx)]
          exact upd_same
        exact ne_of_none z hq
      have TA : Tabs (tabT Pt) HA := hTab.ext sA
      -- gatherer.gather(tree, [], True)
      refine ⟨_, rfl, x, dx, _, rfl, hgA, gF_no a q, _, rfl, (by show 0 ≤ sizeLine; decide), fun u hu => ?_⟩
      have sU := same_new hu (HO.lst [])
      have huq : u ≠ q := fun e => by rw [e, hqA] at hu; cases hu
      have hTq : TreeIn (fun y => y ≠ q) (upd HA u (.lst [])) t v := ((hT.avoid hqH).same sA).same sU
      refine ⟨x, dx, a, q, u, t, v, true, ns, [], [], rfl, sU _ _ hgA, sU _ _ haA, haq, sU _ _ hqA, upd_same, huq, hTq, hd, (by show 0 + Tp.size t ≤ 1000; omega), (by decide), fun m hm => hperm.mem_iff.mpr hm, fun HB zs kB hqB hN => ?_⟩
      rw [List.nil_append] at hqB
      have hl := hN.len
      rw [Tp.preT_size] at hl
      have kHB : Same H HB := fun b o e => kB b o (ne_of_none e hqH) (sU _ _ (sA _ _ e))
      have hgB := kB _ _ (ne_of hgA hqA (by intro z; cases z)) (sU _ _ hgA)
      have haB := kB _ _ haq (sU _ _ haA)
      have TB1 : Tabs (tabT Pt) HB := hTab.ext kHB
      -- nodes = sorted(..)
      refine ⟨_, rfl, x, C, dx, _, _, rfl, hgB, Tg.cl, Tg.nO, gF_nodes a q, q, bsOf (Tp.preT (lb ns) [] true t) zs, rfl, ?_, ?_, TB1, ?_, ?_⟩
      · rw [bsOf_fst hN.len]
        exact SqL.of hqB
      · unfold bsOf
        rw [List.length_map, List.length_zip]
        omega
      · intro b hb
        unfold bsOf at hb
        obtain ⟨p2, hp2, rfl⟩ := List.mem_map.mp hb
        obtain ⟨a2, u2, e1, h1, _, h2⟩ := hN.zip p2 hp2
        exact ⟨a2, u2, _, e1, h1, h2⟩
      intro HC D xC TC hD
      have hNS := (nodes_sort hN).ext xC
      have hSrt := srt_sort (Tp.preT (lb ns) [] true t)
      revert hNS hSrt
      generalize hS : (Tp.preT (lb ns) [] true t).mergeSort leN = S
      generalize hY : (sortP (bsOf (Tp.preT (lb ns) [] true t) zs)).map (·.1) = ys
      intro hNS hSrt
      have hly : ys.length = S.length := hNS.len
      have hlS : S.length ≤ 1000 := by
        rw [← hS, List.length_mergeSort, Tp.preT_size]
        omega
      have sD := same_new hD (HO.lst ys)
      have hN5 : NodesAt ns q (upd HC D (.lst ys)) S ys := hNS.ext (ExtN.of sD)
      have T5 : Tabs (tabT Pt) (upd HC D (.lst ys)) := TC.ext sD
      have x5 : ExtN H (upd HC D (.lst ys)) := ((ExtN.of kHB).trans xC).trans (ExtN.of sD)
      have hg5 : (upd HC D (.lst ys)) x = some (.ins C dx (gF a q)) := sD _ _ (xC _ _ hgB fun ps z => by cases z)
      have ha5 : (upd HC D (.lst ys)) a = some (.lst (ns.map V.str)) := sD _ _ (xC _ _ haB fun ps z => by cases z)
      have hD5 : (upd HC D (.lst ys)) D = some (.lst ys) := upd_same
      revert hN5 T5 x5 hg5 ha5 hD5
      generalize upd HC D (.lst ys) = H5
      intro hN5 T5 x5 hg5 ha5 hD5
      -- list 1
      refine ⟨_, rfl, D, rfl, ⟨_, SqL.of hD5⟩, fun L1 hEL1 => ?_⟩
      refine lc_fn walk_list (H1 := H5) hEL1 (by rw [hly]; exact small16 hlS) (fun i => ((S.map fun d => V.int (Tp.lab (lb ns) d.t))[i]?).getD .non) (fun H' s' => SqL.of (s' _ _ hD5)) ?_ ?_
      · rintro i y Ha Hb R hi sa ⟨rfl, hy⟩ hR
        obtain ⟨d, hdd, a2, u2, rfl, h1, _, _⟩ := hN5.get hy
        refine ⟨rfl, _, rfl, a2, _, _, _, rfl, rfl, SqT.of (sa _ _ h1), (atI_nat (j := 1) rfl), ?_⟩
        have e := hR _ (Same.refl _)
        rw [List.getElem?_map, hdd] at e
        exact e
      intro H6 sH6 hYL1
      rw [hly, range_get] at hYL1
      have hN6 := hN5.ext (ExtN.of sH6)
      have T6 := T5.ext sH6
      have x6 := x5.trans (ExtN.of sH6)
      have hg6 := sH6 _ _ hg5
      have ha6 := sH6 _ _ ha5
      have hD6 := sH6 _ _ hD5
      -- list 2
      refine ⟨_, rfl, D, rfl, ⟨_, SqL.of hD6⟩, fun L2 hEL2 => ?_⟩
      refine lc_fn walk_list (H1 := H6) hEL2 (by rw [hly]; exact small16 hlS) (fun i => ((S.map fun d => V.int (b2 d.last))[i]?).getD .non) (fun H' s' => SqL.of (s' _ _ hD6)) ?_ ?_
      · rintro i y Ha Hb R hi sa ⟨rfl, hy⟩ hR
        obtain ⟨d, hdd, a2, u2, rfl, h1, _, _⟩ := hN6.get hy
        refine ⟨rfl, _, rfl, a2, _, _, _, rfl, rfl, SqT.of (sa _ _ h1), (atI_nat (j := 2) rfl), ?_⟩
        have e := hR _ (Same.refl _)
        rw [List.getElem?_map, hdd] at e
        exact e
      intro H7 sH7 hYL2
      rw [hly, range_get] at hYL2
      have hN7 := hN6.ext (ExtN.of sH7)
      have T7 := T6.ext sH7
      have x7 := x6.trans (ExtN.of sH7)
      have hg7 := sH7 _ _ hg6
      have ha7 := sH7 _ _ ha6
      have hD7 := sH7 _ _ hD6
      have hYL1b := sH7 _ _ hYL1
      -- list 3
      refine ⟨_, rfl, D, rfl, ⟨_, SqL.of hD7⟩, fun L3 hEL3 => ?_⟩
      refine lc_fn walk_list (H1 := H7) hEL3 (by rw [hly]; exact small16 hlS) (fun i => ((S.map fun d => V.int (b2 (Tp.full d.t)))[i]?).getD .non) (fun H' s' => SqL.of (s' _ _ hD7)) ?_ ?_
      · rintro i y Ha Hb R hi sa ⟨rfl, hy⟩ hR
        obtain ⟨d, hdd, a2, u2, rfl, h1, _, _⟩ := hN7.get hy
        refine ⟨rfl, _, rfl, a2, _, _, _, rfl, rfl, SqT.of (sa _ _ h1), (atI_nat (j := 3) rfl), ?_⟩
        have e := hR _ (Same.refl _)
        rw [List.getElem?_map, hdd] at e
        exact e
      intro H8 sH8 hYL3
      rw [hly, range_get] at hYL3
      have hN8 := hN7.ext (ExtN.of sH8)
      have T8 := T7.ext sH8
      have x8 := x7.trans (ExtN.of sH8)
      have hg8 := sH8 _ _ hg7
      have ha8 := sH8 _ _ ha7
      have hD8 := sH8 _ _ hD7
      have hYL1c := sH8 _ _ hYL1b
      have hYL2c := sH8 _ _ hYL2
      -- Rows(..)
      refine ⟨_, rfl, x, C, dx, _, _, rfl, hg8, Tg.cl, Tg.nN, gF_names a q, _, rfl, _, rfl, _, rfl, _, rfl, D, rfl, ⟨_, SqL.of hD8⟩, fun L4 hL4 => ?_⟩
      refine lc_it walk_list (fun i H' => Same H8 H' ∧ H' L4 = some (.lst (((S.take i).filter fun d => decide (Tp.lab (lb ns) d.t = 0)).map fun d => txV d.t))) ⟨same_new hL4 _, by rw [List.take_zero]; exact upd_same⟩ (fun i H' _ h' => SqL.of (h'.1 _ _ hD8)) ?_ ?_
      · rintro i y Ha Hb hi ⟨sa, hYa⟩ ⟨rfl, hy⟩
        obtain ⟨d, hdd, a2, u2, rfl, h1, _, _⟩ := hN8.get hy
        refine ⟨rfl, _, rfl, a2, _, _, _, rfl, rfl, SqT.of (sa _ _ h1), (atI_nat (j := 1) rfl), rfl, _, rfl, ?_⟩
        have et : S.take (i + 1) = S.take i ++ [d] := take_one hdd
        by_cases c0 : Tp.lab (lb ns) d.t = 0
        · refine ite2 (fun _ => ?_) (fun n => absurd (decide_eq_true (by rw [c0])) n)
          have hfl : ((S.take i).filter fun d => decide (Tp.lab (lb ns) d.t = 0)).length ≤ 1000 := Nat.le_trans (List.length_filter_le _ _) (Nat.le_trans (by rw [List.length_take]; exact Nat.min_le_right _ _) hlS)
          refine ⟨_, rfl, a2, _, _, _, rfl, rfl, SqT.of (sa _ _ h1), (atI_nat (j := 4) rfl), _, hYa, by rw [List.length_map]; exact small1000 hfl, Same.at sa hL4 _, ?_⟩
          rw [upd_same, et, List.filter_append, List.map_append, List.filter_cons_of_pos (by simpa using c0)]
          rfl
        · refine ite2 (fun y => absurd (by have z := of_decide_eq_true y; injection z) c0) (fun _ => ?_)
          refine ⟨sa, ?_⟩
          rw [et, List.filter_append, List.filter_cons_of_neg (by simpa using c0)]
          simpa using hYa
      rintro H9 ⟨s9, hY4⟩
      rw [List.take_of_length_le (by rw [hly]; exact Nat.le_refl _)] at hY4
      intro g2 dx2 ng2 ndx2 nex2
      have nn : ∀ {b : Addr} {xs : List V}, H9 b = some (.lst xs) → (upd (upd H9 dx2 (.own g2)) g2 (.ins CR dx2 [])) b = some (.lst xs) := fun h => by
        rw [upd_ne (ne_of_none h ng2), upd_ne (ne_of_none h ndx2)]
        exact h
      refine ⟨g2, dx2, a, L1, L2, L3, L4, _, _, _, _, _, rfl, upd_same, nn (s9 _ _ ha8), nn (s9 _ _ hYL1c), nn (s9 _ _ hYL2c), nn (s9 _ _ hYL3), nn hY4, fun HZ kZ hR => ⟨rfl, ?_⟩⟩
      have sZ : Same H9 HZ := made_same ng2 ndx2 kZ
      exact hyes cd g2 HZ ns S ((x8.trans (ExtN.of s9)).trans (ExtN.of sZ)) ((T8.ext s9).ext sZ) hperm hsorted hSrt hR
    · refine ite2 (fun _ => ?_) (fun n => by rw [Bool.eq_false_iff.mpr cd] at n; exact absurd rfl n)
      exact hno (Bool.eq_false_iff.mpr cd) H1 x1 T1
end
end Tk

/-! k27: parts_of, same_rows. -/
namespace Tk
open PySem PySem.Spec PyProof.Rows L2
open Tp (Tree Nd Srt)
abbrev RD : Type := List Str × List Int × List Int × List Int × List Str
def RowsD (C : Addr) (H : Hp) (r : Addr) (a : RD) : Prop := RowsAt C H r (a.1.map V.str) (a.2.1.map V.int) (a.2.2.1.map V.int) (a.2.2.2.1.map V.int) (a.2.2.2.2.map V.str)
def okRD (a : RD) : Prop := (∀ s ∈ a.1, PyData.strOk s = true) ∧ ∀ s ∈ a.2.2.2.2, PyData.strOk s = true
def dRD (a : RD) : PyData := .list [.list (a.1.map .str), .list (a.2.1.map .int), .list (a.2.2.1.map .int), .list (a.2.2.2.1.map .int), .list (a.2.2.2.2.map .str)]
theorem eqv_strs : ∀ a b : List Str, PyData.eqvAll (a.map .str) (b.map .str) = decide (a = b)
  | [], [] => rfl
  | [], _ :: _ => rfl
  | _ :: _, [] => rfl
  | x :: a, y :: b => by
    show (PyData.eqv (.str x) (.str y) && PyData.eqvAll (a.map .str) (b.map .str)) = _
    rw [eqv_strs a b]
    show ((x == y) && decide (a = b)) = _
    rw [Bool.eq_iff_iff, Bool.and_eq_true, beq_iff_eq, decide_eq_true_iff, decide_eq_true_iff, List.cons.injEq]
theorem eqv_ints : ∀ a b : List Int, PyData.eqvAll (a.map .int) (b.map .int) = decide (a = b)
  | [], [] => rfl
  | [], _ :: _ => rfl
  | _ :: _, [] => rfl
  | x :: a, y :: b => by
    show (PyData.eqv (.int x) (.int y) && PyData.eqvAll (a.map .int) (b.map .int)) = _
    rw [eqv_ints a b]
    show ((x == y) && decide (a = b)) = _
    rw [Bool.eq_iff_iff, Bool.and_eq_true, beq_iff_eq, decide_eq_true_iff, decide_eq_true_iff, List.cons.injEq]
theorem eqv_RD (a b : RD) : PyData.eqv (dRD a) (dRD b) = decide (a = b) := by
  obtain ⟨a1, a2, a3, a4, a5⟩ := a
  obtain ⟨b1, b2, b3, b4, b5⟩ := b
  show (PyData.eqvAll (a1.map .str) (b1.map .str) && (PyData.eqvAll (a2.map .int) (b2.map .int) && (PyData.eqvAll (a3.map .int) (b3.map .int) && (PyData.eqvAll (a4.map .int) (b4.map .int) && (PyData.eqvAll (a5.map .str) (b5.map .str) && true))))) = _
  rw [eqv_strs, eqv_strs, eqv_ints, eqv_ints, eqv_ints, Bool.and_true]
  rw [Bool.eq_iff_iff, Bool.and_eq_true, Bool.and_eq_true, Bool.and_eq_true, Bool.and_eq_true]
  simp only [decide_eq_true_iff, Prod.mk.injEq]
theorem lay_strs : ∀ {a : List Str}, (∀ s ∈ a, PyData.strOk s = true) → PyData.canLayAll0 (a.map .str) = true
  | [], _ => rfl
  | x :: a, h => by
    show (PyData.strOk x && PyData.canLayAll0 (a.map .str)) = true
    rw [h x List.mem_cons_self, lay_strs fun s hs => h s (List.mem_cons_of_mem _ hs)]
    rfl
theorem lay_ints : ∀ a : List Int, PyData.canLayAll0 (a.map .int) = true
  | [] => rfl
  | x :: a => by
    show (true && PyData.canLayAll0 (a.map .int)) = true
    rw [lay_ints a]
    rfl
theorem dep_strs : ∀ a : List Str, PyData.depthAll (a.map .str) = 0
  | [] => rfl
  | x :: a => by
    show max 0 (PyData.depthAll (a.map .str)) = 0
    rw [dep_strs a]
    rfl
theorem shaped_RD {a : RD} (h : okRD a) : SeqAt.shaped (dRD a) = true := by
  unfold SeqAt.shaped
  rw [Bool.and_eq_true]
  constructor
  · show (PyData.canLayAll0 (a.1.map .str) && (PyData.canLayAll0 (a.2.1.map .int) && (PyData.canLayAll0 (a.2.2.1.map .int) && (PyData.canLayAll0 (a.2.2.2.1.map .int) && (PyData.canLayAll0 (a.2.2.2.2.map .str) && true))))) = true
    rw [lay_strs h.1, lay_strs h.2, lay_ints, lay_ints, lay_ints]
    rfl
  · refine decide_eq_true ?_
    show max (PyData.depthAll (a.1.map .str) + 1) (max (PyData.depthAll (a.2.1.map .int) + 1) (max (PyData.depthAll (a.2.2.1.map .int) + 1) (max (PyData.depthAll (a.2.2.2.1.map .int) + 1) (max (PyData.depthAll (a.2.2.2.2.map .str) + 1) 0)))) + 1 ≤ 64
    rw [dep_strs, dep_strs, PySem.W.depth_ints, PySem.W.depth_ints, PySem.W.depth_ints]
    decide
theorem dpAll_strs {K : PySem.W.Frag} {H : Hp} : ∀ l : List Str, DpAll K H (l.map V.str) (l.map PyData.str)
  | [] => .nil
  | i :: l => .cons (.str i) (dpAll_strs l)
/-- the list of the five lists -/
def PartsAt (H : Hp) (p : Addr) (x1 x2 x3 x4 x5 : List V) : Prop := ∃ a b c d e : Addr, H p = some (.lst [.ref a, .ref b, .ref c, .ref d, .ref e]) ∧ H a = some (.lst x1) ∧ H b = some (.lst x2) ∧ H c = some (.lst x3) ∧ H d = some (.lst x4) ∧ H e = some (.lst x5)
theorem PartsAt.same {H H' : Hp} {p : Addr} {x1 x2 x3 x4 x5 : List V} (h : PartsAt H p x1 x2 x3 x4 x5) (s : Same H H') : PartsAt H' p x1 x2 x3 x4 x5 := by
  obtain ⟨a, b, c, d, e, h0, h1, h2, h3, h4, h5⟩ := h
  exact ⟨a, b, c, d, e, s _ _ h0, s _ _ h1, s _ _ h2, s _ _ h3, s _ _ h4, s _ _ h5⟩
theorem RowsAt.same {C : Addr} {H H' : Hp} {p : Addr} {x1 x2 x3 x4 x5 : List V} (h : RowsAt C H p x1 x2 x3 x4 x5) (s : LamX.ExtN H H') : RowsAt C H' p x1 x2 x3 x4 x5 := by
  obtain ⟨dx, a, b, c, d, e, h0, h1, h2, h3, h4, h5⟩ := h
  exact ⟨dx, a, b, c, d, e, s _ _ h0 (fun ps z => by cases z), s _ _ h1 (fun ps z => by cases z), s _ _ h2 (fun ps z => by cases z), s _ _ h3 (fun ps z => by cases z), s _ _ h4 (fun ps z => by cases z), s _ _ h5 (fun ps z => by cases z)⟩
theorem PartsAt.dp {K : PySem.W.Frag} {H : Hp} {p : Addr} {a : RD} (h : PartsAt H p (a.1.map V.str) (a.2.1.map V.int) (a.2.2.1.map V.int) (a.2.2.2.1.map V.int) (a.2.2.2.2.map V.str)) : Dp K H (.ref p) (dRD a) := by
  obtain ⟨p1, p2, p3, p4, p5, h0, h1, h2, h3, h4, h5⟩ := h
  exact .lst (SqL.of h0) (.cons (.lst (SqL.of h1) (dpAll_strs _)) (.cons (.lst (SqL.of h2) (dpAll_ints _)) (.cons (.lst (SqL.of h3) (dpAll_ints _)) (.cons (.lst (SqL.of h4) (dpAll_ints _)) (.cons (.lst (SqL.of h5) (dpAll_strs _)) .nil)))))
def spParts (C : Addr) : Sp := fun vs H Q _ => ∃ (r : Addr) (x1 x2 x3 x4 x5 : List V), vs = [.ref r] ∧ RowsAt C H r x1 x2 x3 x4 x5 ∧ ∀ (p : Addr) H', Same H H' → PartsAt H' p x1 x2 x3 x4 x5 → Q (.ref p) H'
def spSR (C : Addr) : Sp := fun vs H Q _ => ∃ (r r2 : Addr) (a b : RD), vs = [.ref r, .ref r2] ∧ RowsD C H r a ∧ RowsD C H r2 b ∧ okRD a ∧ okRD b ∧ ∀ H', Same H H' → Q (.bl (decide (a = b))) H'
section
variable {P : Program} {w : World} {K : PySem.W.Frag} {mg : Str → Option Value} {base : Heap} {C fI : Addr}
theorem scParts : FnScope ["rows"] ["rows"] (defScope sParts) := ⟨rfl, rfl, rfl, by decide +kernel, rfl, by decide +kernel, by decide +kernel⟩
theorem ok_parts {f : Addr} {fd : FuncData} (F : Fun K "parts_of" "parts_of" sParts f fd) (T : Rt K mg C fI) : FnOk P w K mg base CX0 1 f fd ["rows"] (spParts C) := by
  refine F.ok scParts (fun vs H Q E h => ?_) (fun cdv A outer s H vs Q E hr h => ?_)
  · obtain ⟨r, x1, x2, x3, x4, x5, rfl, _⟩ := h
    rfl
  · obtain ⟨r, x1, x2, x3, x4, x5, rfl, ⟨dx, a, b, c, d, e, h0, h1, h2, h3, h4, h5⟩, q⟩ := h
    refine ⟨_, pss_one (ps_ret (pe_lst (pa_cons (pe_fld (pv 0) rfl) (pa_cons (pe_fld (pv 0) rfl) (pa_cons (pe_fld (pv 0) rfl) (pa_cons (pe_fld (pv 0) rfl) (pa_cons (pe_fld (pv 0) rfl) pa_nil))))))), ?_⟩
    refine ⟨_, rfl, r, C, dx, _, _, rfl, h0, T.cl, T.n1, rF_names .., _, rfl, r, C, dx, _, _, rfl, h0, T.cl, T.n2, rF_labels .., _, rfl, r, C, dx, _, _, rfl, h0, T.cl, T.n3, rF_lasts .., _, rfl, r, C, dx, _, _, rfl, h0, T.cl, T.n4, rF_fulls .., _, rfl, r, C, dx, _, _, rfl, h0, T.cl, T.n5, rF_texts .., (by show 5 ≤ sizeLine; decide), fun p hp => ?_⟩
    have s1 := same_new hp (HO.lst [.ref a, .ref b, .ref c, .ref d, .ref e])
    exact q p _ s1 ⟨a, b, c, d, e, upd_same, s1 _ _ h1, s1 _ _ h2, s1 _ _ h3, s1 _ _ h4, s1 _ _ h5⟩
theorem scSR : FnScope ["rows", "other"] ["rows", "other"] (defScope sSameRows) := ⟨rfl, rfl, rfl, by decide +kernel, rfl, by decide +kernel, by decide +kernel⟩
theorem ok_SR {f : Addr} {fd : FuncData} (F : Fun K "same_rows" "same_rows" sSameRows f fd) (Pa : Has P w K mg base CX0 1 "parts_of" ["rows"] (spParts C)) : FnOk P w K mg base CX0 2 f fd ["rows", "other"] (spSR C) := by
  obtain ⟨fP, fdP, GP, bP, kP, mP⟩ := Pa
  refine F.ok scSR (fun vs H Q E h => ?_) (fun cdv A outer s H vs Q E hr h => ?_)
  · obtain ⟨r, r2, a, b, rfl, _⟩ := h
    rfl
  · obtain ⟨r, r2, a, b, rfl, h1, h2, o1, o2, q⟩ := h
    refine ⟨_, pss_one (ps_ret (pe_cmpR (op_eqD hr.units) (pe_call GP hr rfl mP kP bP .nil pass0 (pa_cons (pv 0) pa_nil)) (pe_call GP hr rfl mP kP bP .nil pass0 (pa_cons (pv 1) pa_nil)) (nomark _))), ?_⟩
    refine ⟨_, rfl, r, _, _, _, _, _, rfl, h1, fun p H1 s1 hp => ?_⟩
    refine ⟨_, rfl, r2, _, _, _, _, _, rfl, RowsAt.same h2 (LamX.ExtN.of s1), fun p2 H2 s2 hp2 => ?_⟩
    refine ⟨dRD a, dRD b, (hp.same s2).dp, hp2.dp, shaped_RD o1, shaped_RD o2, ?_⟩
    rw [eqv_RD]
    exact q H2 (s1.trans s2)
end
end Tk

/-! k27: the law's deck. -/
namespace Tk
open PySem PySem.Spec PyProof.Rows L2
open Tp (Tree)
def dkL (s : Addr) (i : Nat) (r st : Int) : List V := [.ref s, .int (i : Nat), .int r, .int st]
def DeckAt (H : Hp) (s d : Addr) : Prop := ∃ (xs : List Int) (i : Nat) (r st : Int), H d = some (.lst (dkL s i r st)) ∧ H s = some (.lst (xs.map V.int)) ∧ s ≠ d
theorem DeckAt.same {H H' : Hp} {s d : Addr} (h : DeckAt H s d) (k : ∀ b o, H b = some o → (∃ xs, o = .lst xs) → H' b = some o) : DeckAt H' s d := by
  obtain ⟨xs, i, r, st, h1, h2, n⟩ := h
  exact ⟨xs, i, r, st, k _ _ h1 ⟨_, rfl⟩, k _ _ h2 ⟨_, rfl⟩, n⟩
theorem DeckAt.same' {H H' : Hp} {s d : Addr} (h : DeckAt H s d) (k : Same H H') : DeckAt H' s d := h.same fun b o e _ => k b o e
def spDraw : Sp := fun vs H Q _ => ∃ (s d : Addr) (m : Int), vs = [.ref d, .int m] ∧ DeckAt H s d ∧ 0 < m ∧ m < 1073741824 ∧ ∀ (k : Nat) H', (k : Int) < m → But d H H' → DeckAt H' s d → Q (.int (k : Nat)) H'
def spDeck (K : PySem.W.Frag) : Sp := fun vs H Q _ => ∃ (a : Addr) (xs : List Int), vs = [.ref a] ∧ SqL K H a (xs.map V.int) ∧ ∀ (s d : Addr) H', Same H H' → DeckAt H' s d → Q (.ref d) H'
theorem fmod_nat {i m : Int} (h : 0 < m) : ∃ k : Nat, (k : Int) < m ∧ i.fmod m = (k : Nat) := by
  have h1 : 0 ≤ i.fmod m := Int.fmod_nonneg_of_pos i h
  have h2 : i.fmod m < m := Int.fmod_lt_of_pos i h
  exact ⟨(i.fmod m).toNat, by omega, by omega⟩
section
variable {P : Program} {w : World} {K : PySem.W.Frag} {mg : Str → Option Value} {base : Heap}
theorem scDeck : FnScope ["_law_script"] ["_law_script"] (defScope sDeck) := ⟨rfl, rfl, rfl, by decide +kernel, rfl, by decide +kernel, by decide +kernel⟩
theorem scDraw : FnScope ["_law_deck_here", "_law_most", "_law_value", "_law_cell"] ["_law_deck_here", "_law_most"] (defScope sDraw) := ⟨rfl, rfl, rfl, by decide +kernel, rfl, by decide +kernel, by decide +kernel⟩
abbrev dIx {X : Cx} (k : Int) : TE := tOp (rIxL X.K) (tVar 0) (tC (.int k))
theorem ok_draw {f : Addr} {fd : FuncData} (F : Fun K "_law_draw" "_law_draw" sDraw f fd) (X : Txt mg) : FnOk P w K mg base CX0 1 f fd ["_law_deck_here", "_law_most"] spDraw := by
  refine F.ok scDraw (fun vs H Q E h => ?_) (fun cdv A outer s H vs Q E hr h => ?_)
  · obtain ⟨sx, d, m, rfl, _⟩ := h
    rfl
  · obtain ⟨sx, d, m, rfl, ⟨xs, i, r, st, hd, hs, nsd⟩, m0, m1, q⟩ := h
    refine ⟨_, pss_cons (ps_if (pt_cmpR op_ge (pe_ix (show IxR _ (rIxL K) from ix_list) (pv 0) pe_int (fun _ _ => rfl)) (pv 1) (nomark _))
        (pss_cons (ps_set (i := 2) scDraw.nd rfl (Or.inl rfl) (pe_op op_modN (pe_callTy call_int1 rfl X.int boot_int (pa_cons (pe_ix (show IxR _ (rIxL K) from ix_list) (pv 0) pe_int (fun _ _ => rfl)) pa_nil)) (pv 1)))
        (pss_cons (ps_asg (pe_op op_fdivN (pe_ix (show IxR _ (rIxL K) from ix_list) (pv 0) pe_int (fun _ _ => rfl)) (pv 1)) (pg_sub (pv 0) pe_int set_list))
        (pss_one (ps_ret (pv 2))))) pss_nil)
      (pss_cons (ps_set (i := 3) scDraw.nd rfl (Or.inl rfl) pe_int)
      (pss_cons (ps_if (pt_cmpR op_lt (pe_ix (show IxR _ (rIxL K) from ix_list) (pv 0) pe_int (fun _ _ => rfl)) (pe_callB call_len_seq rfl X.len (by decide +kernel) (pa_cons (pe_ix (show IxR _ (rIxL K) from ix_list) (pv 0) pe_int (fun _ _ => rfl)) pa_nil)) (nomark _))
        (pss_one (ps_set (i := 3) scDraw.nd rfl (Or.inl rfl) (pe_ix (show IxR _ (rIxL K) from ix_list) (pe_ix (show IxR _ (rIxL K) from ix_list) (pv 0) pe_int (fun _ _ => rfl)) (pe_ix (show IxR _ (rIxL K) from ix_list) (pv 0) pe_int (fun _ _ => rfl)) (fun _ _ => rfl)))) pss_nil)
      (pss_cons (ps_asg (pe_op op_add (pe_ix (show IxR _ (rIxL K) from ix_list) (pv 0) pe_int (fun _ _ => rfl)) pe_int) (pg_sub (pv 0) pe_int set_list))
      (pss_cons (ps_asg pe_int (pg_sub (pv 0) pe_int set_list))
      (pss_cons (ps_if (pt_cmpR op_ge (pv 3) (pe_op op_pow pe_int pe_int) (nomark _))
        (pss_cons (ps_asg (pe_op op_fdivN (pv 3) (pv 1)) (pg_sub (pv 0) pe_int set_list))
        (pss_one (ps_ret (pe_op op_modN (pe_callTy call_int1 rfl X.int boot_int (pa_cons (pv 3) pa_nil)) (pv 1))))) pss_nil)
      (pss_cons (ps_asg (pe_op op_modN (pe_callTy call_int1 rfl X.int boot_int (pa_cons (pe_op op_add (pe_op op_add (pe_op op_mul (pe_ix (show IxR _ (rIxL K) from ix_list) (pv 0) pe_int (fun _ _ => rfl)) pe_int) (pe_op op_mul (pv 3) pe_int)) (pe_op op_mul (pe_ix (show IxR _ (rIxL K) from ix_list) (pv 0) pe_int (fun _ _ => rfl)) pe_int)) pa_nil)) pe_int) (pg_sub (pv 0) pe_int set_list))
      (pss_cons (ps_asg (pe_op op_modN (pe_callTy call_int1 rfl X.int boot_int (pa_cons (pe_op op_add (pe_op op_mul (pe_ix (show IxR _ (rIxL K) from ix_list) (pv 0) pe_int (fun _ _ => rfl)) pe_int) pe_int) pa_nil)) pe_int) (pg_sub (pv 0) pe_int set_list))
      (pss_one (ps_ret (pe_op op_modN (pe_callTy call_int1 rfl X.int boot_int (pa_cons (pe_op op_fdivN (pe_ix (show IxR _ (rIxL K) from ix_list) (pv 0) pe_int (fun _ _ => rfl)) pe_int) pa_nil)) (pv 1))))))))))), ?_⟩
    have mN : m ≠ 0 := by omega
    have mC : ∀ r : Int, CDivN r m := fun _ => ⟨mN, by omega⟩
    have hB : ∀ H1 : Hp, But d H H1 → H1 sx = some (.lst (xs.map V.int)) := fun H1 b => b _ _ nsd hs
    have fin : ∀ (z : Int) (j : Nat) (r' st' : Int) H', But d H H' → H' d = some (.lst (dkL sx j r' st')) → Q (.int (z.fmod m)) H' := by
      intro z j r' st' H' b e
      obtain ⟨k, hk, ek⟩ := fmod_nat (i := z) m0
      rw [ek]
      exact q k H' hk b ⟨xs, j, r', st', e, hB _ b, nsd⟩
    refine ⟨_, rfl, d, _, _, _, rfl, rfl, SqL.of hd, rfl, _, rfl, _, _, rfl, rfl, _, rfl, ?_⟩
    refine ite2 (fun _ => ?_) (fun _ => ?_)
    · refine ⟨_, rfl, d, _, _, _, rfl, rfl, SqL.of hd, rfl, .inl ⟨_, rfl, _, rfl, _, _, rfl, rfl, mN, ?_⟩⟩
      refine ⟨_, rfl, d, _, _, _, rfl, rfl, SqL.of hd, rfl, _, rfl, _, _, rfl, rfl, mC _, _, rfl, d, _, _, _, rfl, rfl, hd, rfl, _, rfl, ?_⟩
      exact fin r i (r.fdiv m) st _ ((But.refl H).put _) upd_same
    refine ⟨_, rfl, d, _, _, _, rfl, rfl, SqL.of hd, rfl, _, rfl, d, _, _, _, rfl, rfl, SqL.of hd, rfl, sx, xs.map V.int, rfl, .inl (SqL.of hs), _, _, rfl, rfl, _, rfl, ?_⟩
    refine ite2 (fun c => ?_) (fun _ => ?_)
    · have ci := of_decide_eq_true c
      rw [List.length_map] at ci
      have hi : i < xs.length := by omega
      have e : atI (xs.map V.int) (i : Nat) = some (.int xs[i]) := atI_nat (by rw [List.getElem?_map, List.getElem?_eq_getElem hi]; rfl)
      refine ⟨_, rfl, d, _, _, _, rfl, rfl, SqL.of hd, rfl, _, rfl, d, _, _, _, rfl, rfl, SqL.of hd, rfl, sx, _, _, _, rfl, rfl, SqL.of hs, e, ?_⟩
      -- deck[1] = deck[1] + 1
      refine ⟨_, rfl, d, _, _, _, rfl, rfl, SqL.of hd, rfl, _, _, rfl, rfl, _, rfl, d, _, _, _, rfl, rfl, hd, rfl, ?_⟩
      refine ⟨_, rfl, d, _, _, _, rfl, rfl, upd_same, rfl, ?_⟩
      refine ⟨_, rfl, _, _, rfl, rfl, ⟨by decide, by decide, by decide⟩, _, _, rfl, rfl, _, rfl, ?_⟩
      refine ite2 (fun _ => ?_) (fun _ => ?_)
      · refine ⟨_, rfl, _, rfl, _, _, rfl, rfl, mC _, _, rfl, d, _, _, _, rfl, rfl, upd_same, rfl, ?_⟩
        refine ⟨_, rfl, .inl ⟨_, rfl, _, rfl, _, _, rfl, rfl, mN, ?_⟩⟩
        exact fin _ (i + 1) _ st _ ((((But.refl H).put _).put _).put _) upd_same
      · refine ⟨_, rfl, d, _, _, _, rfl, rfl, SqL.of upd_same, rfl, _, _, rfl, rfl, .inr (by decide), _, rfl, _, _, rfl, rfl, .inr (by decide), _, _, rfl, rfl, _, rfl, d, _, _, _, rfl, rfl, SqL.of upd_same, rfl, _, _, rfl, rfl, .inr (by decide), _, _, rfl, rfl, .inl ⟨_, rfl, _, _, rfl, rfl, (show (2147483647 : Int) ≠ 0 by decide), _, rfl, d, _, _, _, rfl, rfl, upd_same, rfl, ?_⟩⟩
        refine ⟨_, rfl, d, _, _, _, rfl, rfl, SqL.of upd_same, rfl, _, _, rfl, rfl, .inr (by decide), _, _, rfl, rfl, .inl ⟨_, rfl, _, _, rfl, rfl, (show (2147483647 : Int) ≠ 0 by decide), _, rfl, d, _, _, _, rfl, rfl, upd_same, rfl, ?_⟩⟩
        refine ⟨_, rfl, d, _, _, _, rfl, rfl, SqL.of upd_same, rfl, _, _, rfl, rfl, ⟨by decide, by decide⟩, .inl ⟨_, rfl, _, rfl, _, _, rfl, rfl, mN, ?_⟩⟩
        exact fin _ (i + 1) _ _ _ (((((But.refl H).put _).put _).put _).put _) upd_same
    · -- deck[1] = deck[1] + 1
      refine ⟨_, rfl, d, _, _, _, rfl, rfl, SqL.of hd, rfl, _, _, rfl, rfl, _, rfl, d, _, _, _, rfl, rfl, hd, rfl, ?_⟩
      refine ⟨_, rfl, d, _, _, _, rfl, rfl, upd_same, rfl, ?_⟩
      refine ⟨_, rfl, _, _, rfl, rfl, ⟨by decide, by decide, by decide⟩, _, _, rfl, rfl, _, rfl, ?_⟩
      refine ite2 (fun _ => ?_) (fun _ => ?_)
      · refine ⟨_, rfl, _, rfl, _, _, rfl, rfl, mC _, _, rfl, d, _, _, _, rfl, rfl, upd_same, rfl, ?_⟩
        refine ⟨_, rfl, .inl ⟨_, rfl, _, rfl, _, _, rfl, rfl, mN, ?_⟩⟩
        exact fin _ (i + 1) _ st _ ((((But.refl H).put _).put _).put _) upd_same
      · refine ⟨_, rfl, d, _, _, _, rfl, rfl, SqL.of upd_same, rfl, _, _, rfl, rfl, .inr (by decide), _, rfl, _, _, rfl, rfl, .inr (by decide), _, _, rfl, rfl, _, rfl, d, _, _, _, rfl, rfl, SqL.of upd_same, rfl, _, _, rfl, rfl, .inr (by decide), _, _, rfl, rfl, .inl ⟨_, rfl, _, _, rfl, rfl, (show (2147483647 : Int) ≠ 0 by decide), _, rfl, d, _, _, _, rfl, rfl, upd_same, rfl, ?_⟩⟩
        refine ⟨_, rfl, d, _, _, _, rfl, rfl, SqL.of upd_same, rfl, _, _, rfl, rfl, .inr (by decide), _, _, rfl, rfl, .inl ⟨_, rfl, _, _, rfl, rfl, (show (2147483647 : Int) ≠ 0 by decide), _, rfl, d, _, _, _, rfl, rfl, upd_same, rfl, ?_⟩⟩
        refine ⟨_, rfl, d, _, _, _, rfl, rfl, SqL.of upd_same, rfl, _, _, rfl, rfl, ⟨by decide, by decide⟩, .inl ⟨_, rfl, _, rfl, _, _, rfl, rfl, mN, ?_⟩⟩
        exact fin _ (i + 1) _ _ _ (((((But.refl H).put _).put _).put _).put _) upd_same
theorem ok_deck {f : Addr} {fd : FuncData} (F : Fun K "_law_deck" "_law_deck" sDeck f fd) (X : Txt mg) : FnOk P w K mg base CX0 1 f fd ["_law_script"] (spDeck K) := by
  refine F.ok scDeck (fun vs H Q E h => ?_) (fun cdv A outer s H vs Q E hr h => ?_)
  · obtain ⟨a, xs, rfl, _⟩ := h
    rfl
  · obtain ⟨a, xs, rfl, ha, q⟩ := h
    refine ⟨_, pss_one (ps_ret (pe_lst (pa_cons (pe_callTy call_list_of rfl X.list boot_list (pa_cons (pv 0) pa_nil)) (pa_cons pe_int (pa_cons pe_int (pa_cons pe_int pa_nil)))))), ?_⟩
    refine ⟨_, rfl, a, _, rfl, .inl ha, fun l hl => ⟨by show 4 ≤ sizeLine; decide, fun d hd => ?_⟩⟩
    have n : l ≠ d := ne_of_none upd_same hd
    exact q l d _ (Same.new (same_new hl _) hd _) ⟨xs, 0, 0, 7, upd_same, by rw [upd_ne n]; exact upd_same, n⟩
end
end Tk

/-! k27: the trees that the law makes: names, texts, sizes. -/
namespace Tk
open PySem PySem.Spec PyProof.Rows L2
open Tp (Tree)
def five : List Str := ["a", "b", "cd", "e", "zz"]
def okCh (c : Nat) : Bool := decide (c ∈ ([97, 98, 32, 60, 38, 122, 10, 126, 120] : List Nat))
def okTx (n : Nat) (s : Str) : Prop := 1 ≤ s.length ∧ s.length ≤ n ∧ s.cps.toList.all okCh = true
/-! ### right by their kinds -/
def apB : List Bool → Bool
  | a :: b :: r => !(b && a) && apB (b :: r)
  | _ => true
theorem apart_kinds : ∀ cs : List T, apart cs = apB (cs.map isStr)
  | [] => rfl
  | [a] => rfl
  | a :: b :: r => by
    rw [apart, apart_kinds (b :: r)]
    rfl
theorem apB_left : ∀ {a b : List Bool}, apB (a ++ b) = true → apB a = true
  | [], _, _ => rfl
  | [x], _, _ => rfl
  | x :: y :: r, b, h => by
    rw [List.cons_append, List.cons_append, apB, Bool.and_eq_true] at h
    rw [apB, Bool.and_eq_true]
    exact ⟨h.1, apB_left (a := y :: r) h.2⟩
theorem apB_tail : ∀ {x : Bool} {b : List Bool}, apB (x :: b) = true → apB b = true
  | x, [], _ => rfl
  | x, y :: r, h => by
    rw [apB, Bool.and_eq_true] at h
    exact h.2
theorem apB_right : ∀ {a b : List Bool}, apB (a ++ b) = true → apB b = true
  | [], _, h => h
  | x :: a, b, h => apB_right (apB_tail h)
/-- an element between -/
theorem apB_mid : ∀ {a b : List Bool}, apB a = true → apB b = true → apB (a ++ false :: b) = true
  | [], [], _, _ => rfl
  | [], y :: b, _, h => by
    rw [List.nil_append, apB, Bool.and_false, Bool.not_false, Bool.true_and]
    exact h
  | [x], b, _, h => by
    show (!(false && x) && apB (false :: b)) = true
    rw [Bool.false_and, Bool.not_false, Bool.true_and]
    exact apB_mid (a := []) rfl h
  | x :: y :: r, b, h1, h2 => by
    rw [apB, Bool.and_eq_true] at h1
    rw [List.cons_append, List.cons_append, apB, Bool.and_eq_true]
    exact ⟨h1.1, apB_mid (a := y :: r) h1.2 h2⟩
def endsB (a : List Bool) : Bool := a.getLast?.getD false
theorem apB_snoc : ∀ {a : List Bool} {x : Bool}, apB a = true → (x && endsB a) = false → apB (a ++ [x]) = true
  | [], x, _, _ => rfl
  | [y], x, _, h => by
    show (!(x && y) && apB [x]) = true
    have e : endsB [y] = y := rfl
    rw [e] at h
    rw [h]
    rfl
  | y :: z :: r, x, h1, h2 => by
    rw [apB, Bool.and_eq_true] at h1
    rw [List.cons_append, List.cons_append, apB, Bool.and_eq_true]
    refine ⟨h1.1, apB_snoc (a := z :: r) h1.2 ?_⟩
    have e : endsB (y :: z :: r) = endsB (z :: r) := by
      unfold endsB
      rw [List.getLast?_cons_cons]
    rw [← e]
    exact h2
theorem endsB_snoc (a : List Bool) (x : Bool) : endsB (a ++ [x]) = x := by
  unfold endsB
  rw [List.getLast?_concat]
  rfl
/-! ### right trees -/
mutual
def okT (k : Nat) : T → Prop
  | .text s => okTx k s
  | .elem n cs => n ∈ five ∧ apart cs = true ∧ okL k cs
def okL (k : Nat) : List T → Prop
  | [] => True
  | c :: r => okT k c ∧ okL k r
end
theorem okL_app {k : Nat} : ∀ {a b : List T}, okL k (a ++ b) ↔ okL k a ∧ okL k b
  | [], b => by rw [List.nil_append, okL, true_and]
  | c :: r, b => by rw [List.cons_append, okL, okL, okL_app, and_assoc]
theorem okL_mem {k : Nat} : ∀ {cs : List T}, okL k cs ↔ ∀ c ∈ cs, okT k c
  | [] => by rw [okL]; exact ⟨fun _ c h => absurd h (by simp), fun _ => True.intro⟩
  | c :: r => by
    rw [okL, okL_mem (cs := r)]
    exact ⟨fun h d hd => by
      rcases List.mem_cons.mp hd with e | e
      · rw [e]; exact h.1
      · exact h.2 d e, fun h => ⟨h c List.mem_cons_self, fun d hd => h d (List.mem_cons_of_mem _ hd)⟩⟩
mutual
theorem okT_mono {k m : Nat} (h : k ≤ m) : ∀ {t : T}, okT k t → okT m t
  | .text s, q => by rw [okT] at q ⊢; exact ⟨q.1, by have := q.2.1; omega, q.2.2⟩
  | .elem n cs, q => by rw [okT] at q ⊢; exact ⟨q.1, q.2.1, okL_mono h q.2.2⟩
theorem okL_mono {k m : Nat} (h : k ≤ m) : ∀ {ts : List T}, okL k ts → okL m ts
  | [], _ => by rw [okL]; exact True.intro
  | c :: r, q => by rw [okL] at q ⊢; exact ⟨okT_mono h q.1, okL_mono h q.2⟩
end
theorem five_ok {n : Str} (h : n ∈ five) : isName n = true ∧ n.length ≤ 12 ∧ PyData.strOk n = true := by
  have k : ∀ n ∈ five, (isName n && decide (n.length ≤ 12) && PyData.strOk n) = true := by decide +kernel
  have q := k n h
  rw [Bool.and_eq_true, Bool.and_eq_true] at q
  exact ⟨q.1.1, of_decide_eq_true q.1.2, q.2⟩
theorem okCh_ok {c : Nat} (h : okCh c = true) : chOk c = true ∧ c < 0x110000 := by
  have k : ∀ c ∈ ([97, 98, 32, 60, 38, 122, 10, 126, 120] : List Nat), (chOk c && decide (c < 0x110000)) = true := by decide +kernel
  have q := k c (of_decide_eq_true h)
  rw [Bool.and_eq_true] at q
  exact ⟨q.1, of_decide_eq_true q.2⟩
theorem okTx_ok {n : Nat} {s : Str} (hn : n ≤ 200) (h : okTx n s) : isText s = true ∧ PyData.strOk s = true := by
  obtain ⟨h1, h2, h3⟩ := h
  rw [List.all_eq_true] at h3
  constructor
  · unfold isText
    rw [if_pos ⟨by omega, by omega⟩, List.all_eq_true]
    exact fun c hc => (okCh_ok (h3 c hc)).1
  · unfold PyData.strOk
    rw [← Array.all_toList, List.all_eq_true]
    exact fun c hc => decide_eq_true (okCh_ok (h3 c hc)).2
mutual
theorem ok_good : ∀ {t : T}, okT 6 t → good t = true ∧ lenOk t
  | .text s, h => by
    rw [okT] at h
    rw [good, lenOk]
    exact ⟨(okTx_ok (by decide) h).1, by have := h.2.1; omega⟩
  | .elem n cs, h => by
    rw [okT] at h
    obtain ⟨h1, h2, h3⟩ := h
    obtain ⟨k1, k2, _⟩ := five_ok h1
    obtain ⟨k4, k5⟩ := ok_goodL h3
    rw [good, lenOk, k1, h2, k4]
    exact ⟨rfl, by omega, k5⟩
theorem ok_goodL : ∀ {ts : List T}, okL 6 ts → goodL ts = true ∧ lenOkL ts
  | [], _ => by rw [goodL, lenOkL]; exact ⟨rfl, True.intro⟩
  | c :: r, h => by
    rw [okL] at h
    obtain ⟨k1, k2⟩ := ok_good h.1
    obtain ⟨k3, k4⟩ := ok_goodL h.2
    rw [goodL, lenOkL, k1, k3]
    exact ⟨rfl, k2, k4⟩
end
theorem ok_names : ∀ {t : T}, okT 6 t → ∀ m ∈ names t, m ∈ five
  | .text s, _, m, h => by rw [names] at h; cases h
  | .elem n cs, h, m, hm => by
    rw [okT] at h
    rcases mem_names.mp hm with e | ⟨c, hc, hm⟩
    · rw [e]; exact h.1
    · exact ok_names (okL_mem.mp h.2.2 c hc) m hm
theorem nodup_len {α : Type} [DecidableEq α] : ∀ {a b : List α}, a.Nodup → (∀ x ∈ a, x ∈ b) → a.length ≤ b.length
  | [], _, _, _ => Nat.zero_le _
  | x :: a, b, hn, h => by
    obtain ⟨h1, h2⟩ := List.nodup_cons.mp hn
    have hx : x ∈ b := h x List.mem_cons_self
    have q := nodup_len (a := a) (b := b.erase x) h2 fun y hy => (List.mem_erase_of_ne (fun e => h1 (by rw [← e]; exact hy))).mpr (h y (List.mem_cons_of_mem _ hy))
    have e := List.length_erase_of_mem hx
    have p := List.length_pos_of_mem hx
    rw [List.length_cons]
    omega
theorem ok_few {t : T} (h : okT 6 t) : (names t).length ≤ 5 := nodup_len (nd_names t) (ok_names h)
/-! ### how many, how deep -/
def most : Nat → Nat
  | 5 => 4
  | 4 => 3
  | 3 => 2
  | 2 => 2
  | _ => 1
def szB : Nat → Nat
  | 0 => 1
  | n + 1 => 1 + most (n + 1) * szB n
theorem szB_pos : ∀ n, 1 ≤ szB n
  | 0 => Nat.le_refl _
  | n + 1 => by rw [szB]; omega
end Tk

/-! k27: the law's trees. -/
namespace Tk
open PySem PySem.Spec PyProof.Rows L2
open Tp (Tree)
theorem But.at {d p : Addr} {H H' : Hp} (a : But d H H') (h : H p = none) (o : HO) : But d H (upd H' p o) := fun b u n q => by
  rw [upd_ne (ne_of_none q h)]
  exact a b u n q
/-- fresh for H and not l -/
abbrev Fr (H : Hp) (l : Addr) : Addr → Prop := fun b => H b = none ∧ b ≠ l
def eight : List Str := ["a", "b", " ", "<", "&", "z", "\n", "~"]
theorem eight_at {k : Nat} (h : k < 8) : ∃ c : Nat, atI (eight.map V.str) (k : Nat) = some (.str ⟨#[c]⟩) ∧ okCh c = true := by
  rcases (by omega : k = 0 ∨ k = 1 ∨ k = 2 ∨ k = 3 ∨ k = 4 ∨ k = 5 ∨ k = 6 ∨ k = 7) with e | e | e | e | e | e | e | e <;> subst e
  · exact ⟨97, rfl, by decide⟩
  · exact ⟨98, rfl, by decide⟩
  · exact ⟨32, rfl, by decide⟩
  · exact ⟨60, rfl, by decide⟩
  · exact ⟨38, rfl, by decide⟩
  · exact ⟨122, rfl, by decide⟩
  · exact ⟨10, rfl, by decide⟩
  · exact ⟨126, rfl, by decide⟩
def mosts : List V := [.int 5, .int 4, .int 3, .int 3, .int 2]
theorem most_at {L n : Nat} (h : L + n = 5) (hn : 1 ≤ n) : atI mosts (if (L : Int) < 4 then (L : Int) else 4) = some (.int ((most n : Nat) + 1)) := by
  rcases (by omega : L = 0 ∨ L = 1 ∨ L = 2 ∨ L = 3 ∨ L = 4) with e | e | e | e | e <;> subst e
  · have e : n = 5 := by omega
    subst e; rfl
  · have e : n = 4 := by omega
    subst e; rfl
  · have e : n = 3 := by omega
    subst e; rfl
  · have e : n = 2 := by omega
    subst e; rfl
  · have e : n = 1 := by omega
    subst e; rfl
theorem most_le (n : Nat) : most n ≤ 4 := by
  unfold most
  split <;> decide
def spLT (n : Nat) : Sp := fun vs H Q _ => ∃ (sx d a : Addr) (ns : List Str) (L m : Nat), vs = [.ref d, .ref a, .int (L : Nat)] ∧ DeckAt H sx d ∧ H a = some (.lst (ns.map V.str)) ∧ a ≠ d ∧ ns ≠ [] ∧ (∀ x ∈ ns, x ∈ five) ∧ ns.length ≤ 5 ∧ L + m = 5 ∧ 1 ≤ m ∧ n = m + 1 ∧
  ∀ t v H', But d H H' → DeckAt H' sx d → TreeIn (fun b => H b = none) H' t v → okT 5 t → isStr t = false → Tp.size t ≤ szB m → Tp.dep t ≤ m → Q v H'
theorem TreesIn.fr {H H1 H3 : Hp} {l d : Addr} {od : HO} (hdo : H d = some od) (b : But d H1 H3) {ts : List T} {vs : List V} (h : TreesIn (Fr H l) H1 ts vs) : TreesIn (Fr H l) H3 ts vs :=
  h.mono (fun x o f e _ => b x o (fun z => by have q := f.1; rw [z, hdo] at q; cases q) e) fun _ _ f _ => f
theorem TreesIn.put {H H1 : Hp} {l : Addr} (o : HO) {ts : List T} {vs : List V} (h : TreesIn (Fr H l) H1 ts vs) : TreesIn (Fr H l) (upd H1 l o) ts vs :=
  h.mono (fun x o f e _ => by rw [upd_ne f.2]; exact e) fun _ _ f _ => f
theorem depL_app : ∀ a b : List T, Tp.depL (a ++ b) = max (Tp.depL a) (Tp.depL b)
  | [], b => by rw [List.nil_append, Tp.depL]; omega
  | c :: r, b => by rw [List.cons_append, Tp.depL, Tp.depL, depL_app r b]; omega
/-- what is no deck changes -/
theorem DeckAt.off {H : Hp} {s d l : Addr} (h : DeckAt H s d) (o : HO) (n : l ≠ d) (n' : l ≠ s) : DeckAt (upd H l o) s d := by
  obtain ⟨xs, i, r, st, h1, h2, k⟩ := h
  exact ⟨xs, i, r, st, by rw [upd_ne n.symm]; exact h1, by rw [upd_ne n'.symm]; exact h2, k⟩
theorem all_snoc {z : Str} {c : Nat} (h : z.cps.toList.all okCh = true) (hc : okCh c = true) : (z ++ ⟨#[c]⟩ : Str).cps.toList.all okCh = true := by
  rw [PySem.Str.cps_append, Array.toList_append, List.all_append, h, Bool.true_and]
  show (okCh c && true) = true
  rw [hc]
  rfl
/-- what the loop keeps -/
def LTs (H : Hp) (sx d a l : Addr) (L m : Nat) (i : Nat) (σ : L2.St) (H1 : Hp) : Prop := ∃ (cs : List T) (vs : List V) (last : Bool) (c5 c6 c7 : Option V), σ = [some (.ref d), some (.ref a), some (.int (L : Nat)), some (.ref l), some (.int (b2 last)), c5, c6, c7] ∧
  But d H H1 ∧ DeckAt H1 sx d ∧ H1 l = some (.lst vs) ∧ TreesIn (Fr H l) H1 cs vs ∧ cs.length ≤ i ∧ okL 5 cs ∧ apB (cs.map isStr) = true ∧ (last = false → endsB (cs.map isStr) = false) ∧ Tp.sizeL cs ≤ i * szB (m - 1) ∧ Tp.depL cs ≤ m - 1
section
variable {P : Program} {w : World} {K : PySem.W.Frag} {mg : Str → Option Value} {base : Heap}
theorem scLT : FnScope ["_law_deck_here", "_law_names", "_law_level", "_law_children", "_law_last", "_law_k", "_law_string", "_law_j"] ["_law_deck_here", "_law_names", "_law_level"] (defScope sTree) := ⟨rfl, rfl, rfl, by decide +kernel, rfl, by decide +kernel, by decide +kernel⟩
theorem ok_LT1 {n : Nat} {f : Addr} {fd : FuncData} (F : Fun K "_law_tree" "_law_tree" sTree f fd) (X : Txt mg) (Dr : Has P w K mg base CX0 1 "_law_draw" ["_law_deck_here", "_law_most"] spDraw) (mf : mg "_law_tree" = some (.ref f)) (bf : Binds K fd ["_law_deck_here", "_law_names", "_law_level"] [])
    (G : FnOk P w K mg base CX0 n f fd ["_law_deck_here", "_law_names", "_law_level"] (spLT n)) : FnOk P w K mg base CX0 (n + 1) f fd ["_law_deck_here", "_law_names", "_law_level"] (spLT (n + 1)) := by
  obtain ⟨fD, fdD, GD, bD, kD, mD⟩ := Dr
  refine F.ok scLT (fun vs H Q E h => ?_) (fun cdv A outer s H vs Q E hr h => ?_)
  · obtain ⟨sx, d, a, ns, L, m, rfl, _⟩ := h
    rfl
  · obtain ⟨sx, d, a, ns, L, m, rfl, hd, ha, had, hne, h5, hnl, hL, hm, hnm, q⟩ := h
    have hn : n = m := by omega
    subst hn
    have hr1 : Room 1 _ := hr.mono hm
    refine ⟨_, pss_cons (ps_set (i := 3) scLT.nd rfl (Or.inl rfl) (pe_lst pa_nil))
      (pss_cons (ps_set (i := 4) scLT.nd rfl (Or.inl rfl) pe_int)
      (pss_cons (ps_for PassesOwn.never rfl (pi_range1 rfl X.range (pa_cons (pe_call GD hr1 rfl mD kD bD .nil pass0 (pa_cons (pv 0) (pa_cons (pe_ix (show IxR _ (rIxL K) from ix_list) (pe_lst (pa_cons pe_int (pa_cons pe_int (pa_cons pe_int (pa_cons pe_int (pa_cons pe_int pa_nil)))))) (pe_callB (call_min2 rfl) rfl X.min (by decide +kernel) (pa_cons pe_int (pa_cons (pv 2) pa_nil))) (fun _ _ => rfl)) pa_nil))) pa_nil)) (pg_name (i := 5) scLT.nd rfl (Or.inl rfl))
        (pss_one (ps_if (PW.pt (pw_and (pt_cmpR op_eq (pv 4) pe_int (nomark _)) (pw_and1 (pt_cmpR op_eq (pe_call GD hr1 rfl mD kD bD .nil pass0 (pa_cons (pv 0) (pa_cons pe_int pa_nil))) pe_int (nomark _)))))
          (pss_cons (ps_set (i := 6) scLT.nd rfl (Or.inl rfl) pe_str)
          (pss_cons (ps_for PassesOwn.never rfl (pi_range1 rfl X.range (pa_cons (pe_op op_add pe_int (pe_call GD hr1 rfl mD kD bD .nil pass0 (pa_cons (pv 0) (pa_cons pe_int pa_nil)))) pa_nil)) (pg_name (i := 7) scLT.nd rfl (Or.inl rfl))
            (pss_one (ps_set (i := 6) scLT.nd rfl (Or.inl rfl) (pe_op op_add_str (pv 6) (pe_ix (show IxR _ (rIxL K) from ix_list) (pe_lst (pa_cons pe_str (pa_cons pe_str (pa_cons pe_str (pa_cons pe_str (pa_cons pe_str (pa_cons pe_str (pa_cons pe_str (pa_cons pe_str pa_nil))))))))) (pe_call GD hr1 rfl mD kD bD .nil pass0 (pa_cons (pv 0) (pa_cons pe_int pa_nil))) (fun _ _ => rfl))))))
          (pss_cons (ps_expr (pe_bm PySem.F.plainAttrs_list PySem.F.slot_list_append PySem.F.type_list_append mt_append (pv 3) (pa_cons (pv 6) pa_nil)))
          (pss_one (ps_set (i := 4) scLT.nd rfl (Or.inl rfl) pe_int)))))
          (pss_one (ps_if (pt_cmpR op_lt (pv 2) pe_int (nomark _))
            (pss_cons (ps_expr (pe_bm PySem.F.plainAttrs_list PySem.F.slot_list_append PySem.F.type_list_append mt_append (pv 3) (pa_cons (pe_call G hr rfl mf F.kp bf .nil pass0 (pa_cons (pv 0) (pa_cons (pv 1) (pa_cons (pe_op op_add (pv 2) pe_int) pa_nil)))) pa_nil)))
            (pss_one (ps_set (i := 4) scLT.nd rfl (Or.inl rfl) pe_int)))
            pss_nil)))))
      (pss_one (ps_ret (pe_tup (pa_cons (pe_ix (show IxR _ (rIxL K) from ix_list) (pv 1) (pe_call GD hr1 rfl mD kD bD .nil pass0 (pa_cons (pv 0) (pa_cons (pe_callB call_len_seq rfl X.len PySem.boot_len (pa_cons (pv 1) pa_nil)) pa_nil))) (fun _ _ => rfl)) (pa_cons (pv 3) pa_nil))))))), ?_⟩
    have dd : ∀ {H1 : Hp}, DeckAt H1 sx d → ∃ o, H1 d = some o := fun ⟨xs, i, r, st, h, _, _⟩ => ⟨_, h⟩
    obtain ⟨od, hdo⟩ := dd hd
    refine ⟨by show 0 ≤ sizeLine; decide, fun l hl => ?_⟩
    have hls : l ≠ sx := fun e => by
      obtain ⟨xs, i, r, st, _, h2, _⟩ := hd
      rw [e, h2] at hl; cases hl
    have hld : l ≠ d := fun e => by rw [e, hdo] at hl; cases hl
    have hal : a ≠ l := fun e => by rw [← e, ha] at hl; cases hl
    have s1 := same_new hl (HO.lst [])
    refine ⟨_, rfl, by show 5 ≤ sizeLine; decide, fun p hp => ?_⟩
    have s2 := Same.new s1 hp (HO.lst mosts)
    have hlm := most_le n
    refine ⟨_, rfl, _, _, rfl, p, mosts, _, _, rfl, rfl, SqL.of upd_same, most_at hL hm, sx, d, _, rfl, hd.same' s2, by omega, by omega, fun k H2 hk b2 dk2 => ?_⟩
    have b02 : But d H H2 := (But.of s2).trans b2
    have hl2 : H2 l = some (.lst []) := b2 _ _ hld ((same_new hp _) _ _ upd_same)
    refine ⟨_, rfl, by omega, by omega, for_range (LTs H sx d a l L n) ⟨[], [], false, none, none, none, rfl, b02, dk2, hl2, TreesIn.nil, Nat.zero_le _, by rw [okL]; exact True.intro, rfl, fun _ => rfl, by rw [Tp.sizeL]; omega, by rw [Tp.depL]; omega⟩ ?_ ?_⟩
    · rintro i σ H1 hi ⟨cs, vs, last, c5, c6, c7, rfl, b1, dk1, hl1, hT, hlen, hok, hap, hend, hsz, hdp⟩
      have hi4 : i < 4 := by omega
      refine ⟨_, rfl, rfl, _, rfl, ?_⟩
      cases last with
      | true =>
        refine ite2 (fun y => absurd (of_decide_eq_true y) (by intro z; injection z with z; cases z)) (fun _ => ?_)
        refine ite2 (fun y => by cases y) (fun _ => ?_)
        refine ⟨_, rfl, _, _, rfl, rfl, _, rfl, ite2 (fun c => ?_) (fun _ => ?_)⟩
        · have c' := of_decide_eq_true c
          have hL4 : L < 4 := by omega
          obtain ⟨m, rfl⟩ : ∃ m, n = m + 1 := ⟨n - 1, by omega⟩
          refine ⟨_, rfl, .inl ⟨rfl, _, SqL.of (hl1)⟩, _, rfl, _, rfl, _, rfl, _, _, rfl, rfl, sx, d, a, ns, L + 1, m, rfl, dk1, (b1.trans (But.refl _ : But d H1 H1)) _ _ had ha, had, hne, h5, hnl, by omega, by omega, rfl, fun t v H4 b4 dk4 ht kt k2 k3 k4 => ?_⟩
          have hl4 := b4 _ _ hld (hl1)
          have hT4 := TreesIn.fr hdo ((But.refl _ : But d H1 H1).trans b4) hT
          have lv := hT.len
          refine ⟨l, vs, v, rfl, rfl, hl4, Nat.lt_of_lt_of_le (show vs.length < 1000 by omega) (by decide), ?_⟩
          refine ⟨cs ++ [t], vs ++ [v], false, _, _, _, rfl, ((b1.trans (But.refl _ : But d H1 H1)).trans b4).at hl _, dk4.off _ hld hls, upd_same, ?_, by rw [List.length_append]; exact Nat.succ_le_succ hlen, okL_app.mpr ⟨hok, by rw [okL, okL]; exact ⟨kt, True.intro⟩⟩, ?_, fun _ => ?_, ?_, ?_⟩
          · refine TreesIn.put _ (TreesIn.append hT4 (TreesIn.one ?_))
            refine ht.mono (fun _ _ _ e _ => e) fun b o f e => ⟨But.free (b1.trans (But.refl _ : But d H1 H1)) (fun z => ?_) f, fun z => ?_⟩
            · obtain ⟨o', e'⟩ := dd dk1
              rw [z, e'] at f; cases f
            · rw [z, hl1] at f; cases f
          · rw [List.map_append, List.map_cons, List.map_nil, k2]
            exact apB_snoc hap (by rw [Bool.false_and])
          · rw [List.map_append, List.map_cons, List.map_nil, k2]
            exact endsB_snoc _ _
          · rw [sizeL_app, Tp.sizeL, Tp.sizeL, Nat.succ_mul]
            rw [Nat.add_sub_cancel] at hsz ⊢
            omega
          · rw [depL_app, Tp.depL, Tp.depL]
            omega
        · exact ⟨cs, vs, true, _, _, _, rfl, b1.trans (But.refl _ : But d H1 H1), dk1, hl1, TreesIn.fr hdo (But.refl _ : But d H1 H1) hT, Nat.le_succ_of_le hlen, hok, hap, hend, by rw [Nat.succ_mul]; omega, hdp⟩
      | false =>
        refine ite2 (fun _ => ?_) (fun n => absurd (decide_eq_true rfl) n)
        refine ⟨_, rfl, sx, d, 3, rfl, dk1, by decide, by decide, fun k H3 hk3 b3 dk3 => ⟨rfl, _, rfl, ?_⟩⟩
        have hl3 := b3 _ _ hld hl1
        refine ite2 (fun _ => ?_) (fun _ => ?_)
        · refine ⟨_, rfl, sx, d, 5, rfl, dk3, by decide, by decide, fun j H4 hj b4 dk4 => ⟨_, _, rfl, rfl, _, rfl, by omega, by omega, ?_⟩⟩
          have hj5 : ((1 : Int) + (j : Nat)).toNat = j + 1 := by omega
          rw [hj5]
          have b14 := b3.trans b4
          refine for_range (fun i' σ' H' => ∃ (z : Str) (c7 : Option V), σ' = [some (.ref d), some (.ref a), some (.int (L : Nat)), some (.ref l), some (.int 0), some (.int (0 + (i : Nat))), some (.str z), c7] ∧ But d H1 H' ∧ DeckAt H' sx d ∧ z.length = i' ∧ z.cps.toList.all okCh = true) ⟨"", c7, rfl, b14, dk4, rfl, rfl⟩ ?_ ?_
          · rintro i' σ' H5 hi' ⟨z, c7, rfl, b5, dk5, hzl, hzc⟩
            refine ⟨_, rfl, by show 8 ≤ sizeLine; decide, fun p5 hp5 => ?_⟩
            have s5 := same_new hp5 (HO.lst (eight.map V.str))
            refine ⟨_, rfl, sx, d, 8, rfl, dk5.same' s5, by decide, by decide, fun k5 H6 hk5 b6 dk6 => ?_⟩
            obtain ⟨ch, hch, hcc⟩ := eight_at (k := k5) (by omega)
            have hpd : p5 ≠ d := fun z => by
              obtain ⟨o', e'⟩ := dd dk5
              rw [← z, hp5] at e'; cases e'
            refine ⟨p5, _, _, _, rfl, rfl, SqL.of (b6 _ _ hpd upd_same), hch, z, _, rfl, rfl, ?_, ?_⟩
            · have e1 : (⟨#[ch]⟩ : Str).length = 1 := rfl
              rw [e1, hzl]
              have : 100 ≤ sizeLine := by decide
              omega
            · refine ⟨z ++ ⟨#[ch]⟩, _, rfl, (b5.trans (But.of s5)).trans b6, dk6, ?_, ?_⟩
              · exact (PySem.Str.length_append z ⟨#[ch]⟩).trans (by rw [hzl]; rfl)
              · exact all_snoc hzc hcc
          · rintro σ' H5 ⟨z, c7, rfl, b5, dk5, hzl, hzc⟩
            have hl5 := b5 _ _ hld hl1
            have hT5 := TreesIn.fr hdo b5 hT
            have lv := hT.len
            refine ⟨_, rfl, .inl ⟨rfl, _, SqL.of hl5⟩, _, rfl, l, vs, _, rfl, rfl, hl5, Nat.lt_of_lt_of_le (show vs.length < 1000 by omega) (by decide), ?_⟩
            refine ⟨cs ++ [.text z], vs ++ [.str z], true, _, _, _, rfl, (b1.trans b5).at hl _, dk5.off _ hld hls, upd_same, ?_, by rw [List.length_append]; exact Nat.succ_le_succ hlen, okL_app.mpr ⟨hok, by rw [okL, okL, okT]; exact ⟨⟨by omega, by omega, hzc⟩, True.intro⟩⟩, ?_, fun z => (by cases z), ?_, ?_⟩
            · refine TreesIn.put _ (TreesIn.append hT5 (TreesIn.one ?_))
              rw [TreeIn]
            · rw [List.map_append, List.map_cons, List.map_nil]
              refine apB_snoc hap ?_
              rw [hend rfl, Bool.and_false]
            · have := szB_pos (n - 1)
              rw [sizeL_app, Tp.sizeL, Tp.sizeL, Tp.size, Nat.succ_mul]
              omega
            · rw [depL_app, Tp.depL, Tp.depL, Tp.dep]
              omega
        · refine ⟨_, rfl, _, _, rfl, rfl, _, rfl, ite2 (fun c => ?_) (fun _ => ?_)⟩
          · have c' := of_decide_eq_true c
            have hL4 : L < 4 := by omega
            obtain ⟨m, rfl⟩ : ∃ m, n = m + 1 := ⟨n - 1, by omega⟩
            refine ⟨_, rfl, .inl ⟨rfl, _, SqL.of (hl3)⟩, _, rfl, _, rfl, _, rfl, _, _, rfl, rfl, sx, d, a, ns, L + 1, m, rfl, dk3, (b1.trans b3) _ _ had ha, had, hne, h5, hnl, by omega, by omega, rfl, fun t v H4 b4 dk4 ht kt k2 k3 k4 => ?_⟩
            have hl4 := b4 _ _ hld (hl3)
            have hT4 := TreesIn.fr hdo (b3.trans b4) hT
            have lv := hT.len
            refine ⟨l, vs, v, rfl, rfl, hl4, Nat.lt_of_lt_of_le (show vs.length < 1000 by omega) (by decide), ?_⟩
            refine ⟨cs ++ [t], vs ++ [v], false, _, _, _, rfl, ((b1.trans b3).trans b4).at hl _, dk4.off _ hld hls, upd_same, ?_, by rw [List.length_append]; exact Nat.succ_le_succ hlen, okL_app.mpr ⟨hok, by rw [okL, okL]; exact ⟨kt, True.intro⟩⟩, ?_, fun _ => ?_, ?_, ?_⟩
            · refine TreesIn.put _ (TreesIn.append hT4 (TreesIn.one ?_))
              refine ht.mono (fun _ _ _ e _ => e) fun b o f e => ⟨But.free (b1.trans b3) (fun z => ?_) f, fun z => ?_⟩
              · obtain ⟨o', e'⟩ := dd dk3
                rw [z, e'] at f; cases f
              · rw [z, hl3] at f; cases f
            · rw [List.map_append, List.map_cons, List.map_nil, k2]
              exact apB_snoc hap (by rw [Bool.false_and])
            · rw [List.map_append, List.map_cons, List.map_nil, k2]
              exact endsB_snoc _ _
            · rw [sizeL_app, Tp.sizeL, Tp.sizeL, Nat.succ_mul]
              rw [Nat.add_sub_cancel] at hsz ⊢
              omega
            · rw [depL_app, Tp.depL, Tp.depL]
              omega
          · exact ⟨cs, vs, false, _, _, _, rfl, b1.trans b3, dk3, hl3, TreesIn.fr hdo b3 hT, Nat.le_succ_of_le hlen, hok, hap, hend, by rw [Nat.succ_mul]; omega, hdp⟩
    · rintro σ H1 ⟨cs, vs, last, c5, c6, c7, rfl, b1, dk1, hl1, hT, hlen, hok, hap, hend, hsz, hdp⟩
      have ha1 := b1 _ _ had ha
      have hnp : 0 < ns.length := List.length_pos_iff.mpr hne
      refine ⟨_, rfl, _, rfl, _, rfl, a, _, rfl,   .inl (SqL.of ha1), sx, d, _, rfl, dk1, by rw [List.length_map]; omega, by rw [List.length_map]; omega, fun j H3 hj b3 dk3 => ?_⟩
      rw [List.length_map] at hj
      have hjl : j < ns.length := by omega
      have ha3 := b3 _ _ had ha1
      have hl3 := b3 _ _ hld hl1
      refine ⟨a, _, _, _, rfl, rfl, SqL.of ha3, atI_nat (by rw [List.getElem?_map, List.getElem?_eq_getElem hjl]; rfl), _, rfl, by show 2 ≤ sizeLine; decide, fun p2 hp2 => ?_⟩
      have hd2 : p2 ≠ d := fun z => by
        obtain ⟨o', e'⟩ := dd dk3
        rw [← z, hp2] at e'; cases e'
      have hlp : l ≠ p2 := fun z => by rw [← z, hl3] at hp2; cases hp2
      obtain ⟨m, rfl⟩ : ∃ m, n = m + 1 := ⟨n - 1, by omega⟩
      refine q (.elem ns[j] cs) _ _ ((b1.trans b3).new hp2 _) (dk3.same' (same_new hp2 _)) ?_ ?_ rfl ?_ ?_
      · rw [TreeIn]
        refine ⟨p2, l, vs, rfl, But.free (b1.trans b3) hd2 hp2, hl, upd_same, by rw [upd_ne hlp]; exact hl3, ?_⟩
        exact ((TreesIn.fr hdo b3 hT).same (same_new hp2 _)).mono (fun _ _ _ e _ => e) fun _ _ f _ => f.1
      · rw [okT, apart_kinds]
        exact ⟨h5 _ (List.getElem_mem hjl), hap, hok⟩
      · rw [Tp.size, szB]
        rw [Nat.add_sub_cancel] at hsz
        have hk' : k ≤ most (m + 1) := by omega
        have e : (k : Int).toNat = k := by omega
        rw [e] at hsz
        have := Nat.mul_le_mul_right (szB m) hk'
        omega
      · rw [Tp.dep]
        omega
theorem ok_LT {f : Addr} {fd : FuncData} (F : Fun K "_law_tree" "_law_tree" sTree f fd) (X : Txt mg) (Dr : Has P w K mg base CX0 1 "_law_draw" ["_law_deck_here", "_law_most"] spDraw) (mf : mg "_law_tree" = some (.ref f)) (bf : Binds K fd ["_law_deck_here", "_law_names", "_law_level"] []) :
    ∀ n : Nat, FnOk P w K mg base CX0 n f fd ["_law_deck_here", "_law_names", "_law_level"] (spLT n)
  | 0 => fn_never fun vs H Q E ⟨sx, d, a, ns, L, m, _, _, _, _, _, _, _, _, _, h, _⟩ => by omega
  | n + 1 => ok_LT1 F X Dr mf bf (ok_LT F X Dr mf bf n)
def spLD : Sp := fun vs H Q _ => ∃ (sx d : Addr), vs = [.ref d] ∧ DeckAt H sx d ∧
  ∀ t v H', But d H H' → DeckAt H' sx d → TreeIn (fun b => H b = none) H' t v → okT 5 t → isStr t = false → Tp.size t ≤ 137 → Tp.dep t ≤ 5 → Q v H'
def four : List Str := ["a", "b", "cd", "e"]
theorem scLD : FnScope ["_law_deck_here", "_law_names"] ["_law_deck_here"] (defScope sDocument) := ⟨rfl, rfl, rfl, by decide +kernel, rfl, by decide +kernel, by decide +kernel⟩
theorem ok_LD {f : Addr} {fd : FuncData} (F : Fun K "_law_document" "_law_document" sDocument f fd) (X : Txt mg) (Dr : Has P w K mg base CX0 1 "_law_draw" ["_law_deck_here", "_law_most"] spDraw) (Lt : Has P w K mg base CX0 6 "_law_tree" ["_law_deck_here", "_law_names", "_law_level"] (spLT 6)) :
    FnOk P w K mg base CX0 7 f fd ["_law_deck_here"] spLD := by
  obtain ⟨fD, fdD, GD, bD, kD, mD⟩ := Dr
  obtain ⟨fT, fdT, GT, bT, kT, mT⟩ := Lt
  refine F.ok scLD (fun vs H Q E h => ?_) (fun cdv A outer s H vs Q E hr h => ?_)
  · obtain ⟨sx, d, rfl, _⟩ := h
    rfl
  · obtain ⟨sx, d, rfl, hd, q⟩ := h
    have hr1 : Room 1 _ := hr.mono (by decide)
    refine ⟨_, pss_cons (ps_set (i := 1) scLD.nd rfl (Or.inl rfl) (pe_slice sl_list (pe_lst (pa_cons pe_str (pa_cons pe_str (pa_cons pe_str (pa_cons pe_str pa_nil))))) po_none (po_some (pe_op op_add pe_int (pe_call GD hr1 rfl mD kD bD .nil pass0 (pa_cons (pv 0) (pa_cons pe_int pa_nil)))))))
      (pss_one (ps_ret (pe_call GT hr rfl mT kT bT .nil pass0 (pa_cons (pv 0) (pa_cons (pv 1) (pa_cons pe_int pa_nil)))))), ?_⟩
    refine ⟨by show 4 ≤ sizeLine; decide, fun p hp => ?_⟩
    have s1 := same_new hp (HO.lst (four.map V.str))
    have dd : ∀ {H1 : Hp}, DeckAt H1 sx d → ∃ o, H1 d = some o := fun ⟨xs, i, r, st, h, _, _⟩ => ⟨_, h⟩
    obtain ⟨od, hdo⟩ := dd hd
    have hpd : p ≠ d := fun z => by rw [z, hdo] at hp; cases hp
    refine ⟨_, rfl, sx, d, 4, rfl, hd.same' s1, by decide, by decide, fun k H2 hk b2 dk2 => ?_⟩
    have hp2 := b2 _ _ hpd upd_same
    refine ⟨_, _, rfl, rfl, _, rfl, p, _, rfl, SqL.of hp2, fun p3 hp3 => ?_⟩
    have e1 : cutV [V.str "a", V.str "b", V.str "cd", V.str "e"] none (some ((1 : Int) + (k : Nat))) = (four.take (k + 1)).map V.str := by
      show cutV (four.map V.str) none (some ((1 : Int) + (k : Nat))) = (four.take (k + 1)).map V.str
      have e0 : ((1 : Int) + (k : Nat)) = ((k + 1 : Nat) : Int) := by omega
      rw [e0, cut_to, List.map_take]
    rw [e1]
    have b3 : But d H (upd H2 p3 (.lst ((four.take (k + 1)).map V.str))) := ((But.of s1).trans b2).new hp3 _
    have dk3 := dk2.same' (same_new hp3 (HO.lst ((four.take (k + 1)).map V.str)))
    have hpd3 : p3 ≠ d := fun z => by
      obtain ⟨o', e'⟩ := dd dk2
      rw [← z, hp3] at e'; cases e'
    refine ⟨_, rfl, _, rfl, sx, d, p3, four.take (k + 1), 0, 5, rfl, dk3, upd_same, hpd3, ?_, ?_, ?_, rfl, by decide, rfl, fun t v H4 b4 dk4 ht kt k2 k3 k4 => ?_⟩
    · intro z
      have q := congrArg List.length z
      rw [List.length_take] at q
      have : four.length = 4 := rfl
      have : ([] : List Str).length = 0 := rfl
      omega
    · intro x hx
      have h4 : x ∈ four := List.mem_of_mem_take hx
      revert x
      have : ∀ x ∈ four, x ∈ five := by decide +kernel
      exact fun x _ h => this x h
    · rw [List.length_take]
      have : four.length = 4 := rfl
      omega
    · refine q t v H4 (b3.trans b4) dk4 (ht.mono (fun _ _ _ e _ => e) fun b o f _ => But.free b3 (fun z => ?_) f) kt k2 k3 k4
      obtain ⟨o', e'⟩ := dd dk3
      rw [z, e'] at f; cases f
end
end Tk

/-! k27: a changed tree, plain. -/
namespace Tk
open PySem PySem.Spec PyProof.Rows L2
open Tp (Tree)
structure Near (t t' : T) : Prop where
  ok : okT 6 t'
  el : isStr t' = false
  sz : Tp.size t' ≤ Tp.size t + 1
  dp : Tp.dep t' ≤ Tp.dep t + 1
theorem cut_at {α : Type} : ∀ {l : List α} {i : Nat} {x : α}, l[i]? = some x → l = l.take i ++ x :: l.drop (i + 1)
  | [], i, x, h => by simp at h
  | y :: l, 0, x, h => by simp at h; subst h; rfl
  | y :: l, i + 1, x, h => by
    have q := cut_at (l := l) (i := i) (x := x) (by simpa using h)
    rw [List.take_succ_cons, List.drop_succ_cons, List.cons_append, ← q]
theorem near_self {t : T} (h : okT 5 t) (e : isStr t = false) : Near t t := ⟨okT_mono (by decide) h, e, Nat.le_succ _, Nat.le_succ _⟩
theorem near_name {n m : Str} {cs : List T} (h : okT 5 (.elem n cs)) (hm : m ∈ five) : Near (.elem n cs) (.elem m cs) := by
  rw [okT] at h
  refine ⟨?_, rfl, ?_, ?_⟩
  · rw [okT]; exact ⟨hm, h.2.1, okL_mono (by decide) h.2.2⟩
  · rw [Tp.size, Tp.size]; omega
  · rw [Tp.dep, Tp.dep]; omega
theorem near_nil {n : Str} {cs : List T} (h : okT 5 (.elem n cs)) : Near (.elem n cs) (.elem n []) := by
  rw [okT] at h
  refine ⟨?_, rfl, ?_, ?_⟩
  · rw [okT, okL]; exact ⟨h.1, rfl, True.intro⟩
  · rw [Tp.size, Tp.size, Tp.sizeL]; omega
  · rw [Tp.dep, Tp.dep, Tp.depL]; omega
theorem near_at {n : Str} {cs : List T} {i : Nat} {c c' : T} (h : okT 5 (.elem n cs)) (hc : cs[i]? = some c) (e : isStr c = false) (k : Near c c') : Near (.elem n cs) (.elem n (cs.take i ++ [c'] ++ cs.drop (i + 1))) := by
  have q := cut_at hc
  rw [okT] at h
  obtain ⟨h1, h2, h3⟩ := h
  rw [apart_kinds] at h2
  have q1 := congrArg Tp.sizeL q
  have q2 := congrArg Tp.depL q
  have q3 := congrArg (List.map isStr) q
  rw [sizeL_app, Tp.sizeL] at q1
  rw [depL_app, Tp.depL] at q2
  have k3 := k.sz
  have k4 := k.dp
  have h4 := h3
  rw [q, okL_app, okL] at h4
  refine ⟨?_, rfl, ?_, ?_⟩
  · rw [okT, apart_kinds, okL_app, okL_app, okL, okL]
    refine ⟨h1, ?_, ⟨okL_mono (by decide) h4.1, k.ok, True.intro⟩, okL_mono (by decide) h4.2.2⟩
    rw [q3, List.map_append, List.map_cons, e] at h2
    rw [List.map_append, List.map_append, List.map_cons, List.map_nil, k.el, List.append_assoc]
    exact h2
  · rw [Tp.size, Tp.size, sizeL_app, sizeL_app, Tp.sizeL, Tp.sizeL]
    omega
  · rw [Tp.dep, Tp.dep, depL_app, depL_app, Tp.depL, Tp.depL]
    omega
theorem near_x {n : Str} {cs : List T} {i : Nat} {z : Str} (h : okT 5 (.elem n cs)) (hc : cs[i]? = some (.text z)) : Near (.elem n cs) (.elem n (cs.take i ++ [.text (z ++ "x")] ++ cs.drop (i + 1))) := by
  have q := cut_at hc
  rw [okT] at h
  obtain ⟨h1, h2, h3⟩ := h
  rw [apart_kinds] at h2
  have q1 := congrArg Tp.sizeL q
  have q2 := congrArg Tp.depL q
  have q3 := congrArg (List.map isStr) q
  rw [sizeL_app, Tp.sizeL, Tp.size] at q1
  rw [depL_app, Tp.depL, Tp.dep] at q2
  have h4 := h3
  rw [q, okL_app, okL, okT] at h4
  refine ⟨?_, rfl, ?_, ?_⟩
  · rw [okT, apart_kinds, okL_app, okL_app, okL, okL, okT]
    refine ⟨h1, ?_, ⟨okL_mono (by decide) h4.1, ⟨?_, ?_, all_snoc (c := 120) h4.2.1.2.2 (by decide)⟩, True.intro⟩, okL_mono (by decide) h4.2.2⟩
    · rw [q3, List.map_append, List.map_cons] at h2
      rw [List.map_append, List.map_append, List.map_cons, List.map_nil, List.append_assoc]
      exact h2
    · rw [PySem.Str.length_append]
      exact Nat.le_trans h4.2.1.1 (Nat.le_add_right _ _)
    · rw [PySem.Str.length_append]
      exact Nat.succ_le_succ h4.2.1.2.1
  · rw [Tp.size, Tp.size, sizeL_app, sizeL_app, Tp.sizeL, Tp.sizeL, Tp.size]
    omega
  · rw [Tp.dep, Tp.dep, depL_app, depL_app, Tp.depL, Tp.depL, Tp.dep]
    omega
theorem near_ins {n : Str} {cs : List T} {i : Nat} (h : okT 5 (.elem n cs)) : Near (.elem n cs) (.elem n (cs.take i ++ [.elem "a" []] ++ cs.drop i)) := by
  have q := (List.take_append_drop i cs).symm
  rw [okT] at h
  obtain ⟨h1, h2, h3⟩ := h
  rw [apart_kinds] at h2
  have q1 := congrArg Tp.sizeL q
  have q2 := congrArg Tp.depL q
  have q3 := congrArg (List.map isStr) q
  rw [sizeL_app] at q1
  rw [depL_app] at q2
  have h4 := h3
  rw [q, okL_app] at h4
  refine ⟨?_, rfl, ?_, ?_⟩
  · rw [okT, apart_kinds, okL_app, okL_app, okL, okL, okT, okL]
    refine ⟨h1, ?_, ⟨okL_mono (by decide) h4.1, ⟨by decide +kernel, rfl, True.intro⟩, True.intro⟩, okL_mono (by decide) h4.2⟩
    rw [q3, List.map_append] at h2
    rw [List.map_append, List.map_append, List.map_cons, List.map_nil, List.append_assoc]
    exact apB_mid (apB_left h2) (apB_right h2)
  · rw [Tp.size, Tp.size, sizeL_app, sizeL_app, Tp.sizeL, Tp.sizeL, Tp.size, Tp.sizeL]
    omega
  · rw [Tp.dep, Tp.dep, depL_app, depL_app, Tp.depL, Tp.depL, Tp.dep, Tp.depL]
    omega
theorem near_swap {n : Str} {c0 c1 : T} {r : List T} (h : okT 5 (.elem n (c0 :: c1 :: r))) (e0 : isStr c0 = false) (e1 : isStr c1 = false) : Near (.elem n (c0 :: c1 :: r)) (.elem n ([c1, c0] ++ r)) := by
  rw [okT, apart_kinds, okL, okL] at h
  obtain ⟨h1, h2, h3, h4, h5⟩ := h
  refine ⟨?_, rfl, ?_, ?_⟩
  · rw [okT, apart_kinds, okL_app, okL, okL, okL]
    refine ⟨h1, ?_, ⟨okT_mono (by decide) h4, okT_mono (by decide) h3, True.intro⟩, okL_mono (by decide) h5⟩
    rw [List.map_cons, List.map_cons, e0, e1] at h2
    rw [List.map_append, List.map_cons, List.map_cons, List.map_nil, e0, e1]
    exact h2
  · rw [Tp.size, Tp.size, sizeL_app, Tp.sizeL, Tp.sizeL, Tp.sizeL, Tp.sizeL, Tp.sizeL]
    omega
  · rw [Tp.dep, Tp.dep, depL_app, Tp.depL, Tp.depL, Tp.depL, Tp.depL, Tp.depL]
    omega
end Tk

/-! k27: _law_changed. -/
namespace Tk
open PySem PySem.Spec PyProof.Rows L2
open Tp (Tree)
/-- a body in two -/
theorem two {X : Cx} {body : List Stmt} (k : Nat) {D : Ends} {σ0 : L2.St} {H0 : Hp} (R : L2.St → Hp → Prop) (hR : ∃ u, PSs X (body.drop k) u ∧ ∀ σ H, R σ H → u D σ H)
    (h1 : ∀ u, PSs X (body.drop k) u → (∀ σ H, R σ H → u D σ H) → ∃ t, PSs X body t ∧ t D σ0 H0) : ∃ t, PSs X body t ∧ t D σ0 H0 := by
  obtain ⟨u, hu, pu⟩ := hR
  exact h1 u hu pu
theorem two' {X : Cx} {body : List Stmt} (k : Nat) {D : Ends} {R0 : L2.St → Hp → Prop} (R : L2.St → Hp → Prop) (hR : ∃ u, PSs X (body.drop k) u ∧ ∀ σ H, R σ H → u D σ H)
    (h1 : ∀ u, PSs X (body.drop k) u → (∀ σ H, R σ H → u D σ H) → ∃ t, PSs X body t ∧ ∀ σ H, R0 σ H → t D σ H) : ∃ t, PSs X body t ∧ ∀ σ H, R0 σ H → t D σ H := by
  obtain ⟨u, hu, pu⟩ := hR
  exact h1 u hu pu
abbrev Off (d : Addr) : Addr → Prop := fun b => b ≠ d
structure Cg (H : Hp) (sx d tt la l : Addr) (n : Str) (cs : List T) (vs : List V) (G : Hp) : Prop where
  bt : But d H G
  dk : DeckAt G sx d
  ht : G tt = some (.tup [.str n, .ref la])
  ha : G la = some (.lst vs)
  hl : G l = some (.lst vs)
  tr : TreesIn (Off d) G cs vs
  nt : tt ≠ d
  na : la ≠ d
  nl : l ≠ d
theorem Cg.but {H : Hp} {sx d tt la l : Addr} {n : Str} {cs : List T} {vs : List V} {G G' : Hp} (h : Cg H sx d tt la l n cs vs G) (b : But d G G') (k : DeckAt G' sx d) : Cg H sx d tt la l n cs vs G' :=
  ⟨h.bt.trans b, k, b _ _ h.nt h.ht, b _ _ h.na h.ha, b _ _ h.nl h.hl, h.tr.mono (fun x o f e _ => b x o f e) (fun _ _ f _ => f), h.nt, h.na, h.nl⟩
theorem Cg.new {H : Hp} {sx d tt la l p : Addr} {n : Str} {cs : List T} {vs : List V} {G : Hp} (h : Cg H sx d tt la l n cs vs G) (hp : G p = none) (o : HO) : Cg H sx d tt la l n cs vs (upd G p o) :=
  h.but ((But.refl G).new hp o) (h.dk.same' (same_new hp o))
theorem Cg.ne {H : Hp} {sx d tt la l p : Addr} {n : Str} {cs : List T} {vs : List V} {G : Hp} (h : Cg H sx d tt la l n cs vs G) (hp : G p = none) : p ≠ d := fun z => by
  obtain ⟨xs, i, r, st, e, _, _⟩ := h.dk
  rw [z, e] at hp; cases hp
theorem Cg.self {H : Hp} {sx d tt la l : Addr} {n : Str} {cs : List T} {vs : List V} {G : Hp} (h : Cg H sx d tt la l n cs vs G) : TreeIn (Off d) G (.elem n cs) (.ref tt) := by
  rw [TreeIn]
  exact ⟨tt, la, vs, rfl, h.nt, h.na, h.ht, h.ha, h.tr⟩
/-- a tree of a new list -/
theorem Cg.make {H : Hp} {sx d tt la l p5 p6 : Addr} {n m : Str} {cs cs' : List T} {vs vs' : List V} {G : Hp} (h : Cg H sx d tt la l n cs vs G) (h5 : G p5 = some (.lst vs')) (n5 : p5 ≠ d) (c : TreesIn (Off d) G cs' vs') (h6 : G p6 = none) :
    TreeIn (Off d) (upd G p6 (.tup [.str m, .ref p5])) (.elem m cs') (.ref p6) := by
  rw [TreeIn]
  have s := same_new h6 (HO.tup [.str m, .ref p5])
  exact ⟨p6, p5, vs', rfl, h.ne h6, n5, upd_same, s _ _ h5, c.same s⟩
theorem TreesIn.put1 {d p : Addr} {G : Hp} (hp : G p = none) (o : HO) {ts : List T} {vs : List V} (h : TreesIn (Off d) G ts vs) : TreesIn (Off d) (upd G p o) ts vs := h.same (same_new hp o)
theorem three_at {k : Nat} (h : k < 3) : ∃ m : Str, atI [V.str "a", V.str "b", V.str "zz"] (k : Nat) = some (.str m) ∧ m ∈ five := by
  rcases (by omega : k = 0 ∨ k = 1 ∨ k = 2) with e | e | e <;> subst e
  · exact ⟨"a", rfl, by decide +kernel⟩
  · exact ⟨"b", rfl, by decide +kernel⟩
  · exact ⟨"zz", rfl, by decide +kernel⟩
def spLC (n : Nat) : Sp := fun vs H Q _ => ∃ (sx d : Addr) (t : T) (v : V), vs = [.ref d, v] ∧ DeckAt H sx d ∧ TreeIn (Off d) H t v ∧ okT 5 t ∧ isStr t = false ∧ Tp.dep t < n ∧ Tp.size t ≤ 500 ∧
  ∀ t' v' H', But d H H' → DeckAt H' sx d → TreeIn (Off d) H' t' v' → Near t t' → Q v' H'
def LCs (H : Hp) (sx d tt la : Addr) (n : Str) (cs : List T) (vs : List V) (σ : L2.St) (G : Hp) : Prop := ∃ (l : Addr) (kind at' : Nat), σ = [some (.ref d), some (.ref tt), some (.int (kind : Nat)), some (.ref l), some (.int (at' : Nat))] ∧ Cg H sx d tt la l n cs vs G ∧ at' ≤ vs.length
section
variable {P : Program} {w : World} {K : PySem.W.Frag} {mg : Str → Option Value} {base : Heap}
theorem scLC : FnScope ["_law_deck_here", "_law_tree_here", "_law_kind", "_law_children", "_law_at"] ["_law_deck_here", "_law_tree_here"] (defScope sChanged) := ⟨rfl, rfl, rfl, by decide +kernel, rfl, by decide +kernel, by decide +kernel⟩
theorem ok_LC1 {n : Nat} {f : Addr} {fd : FuncData} (F : Fun K "_law_changed" "_law_changed" sChanged f fd) (X : Txt mg) (Dr : Has P w K mg base CX0 1 "_law_draw" ["_law_deck_here", "_law_most"] spDraw) (mf : mg "_law_changed" = some (.ref f)) (bf : Binds K fd ["_law_deck_here", "_law_tree_here"] [])
    (G : FnOk P w K mg base CX0 n f fd ["_law_deck_here", "_law_tree_here"] (spLC n)) : FnOk P w K mg base CX0 (n + 1) f fd ["_law_deck_here", "_law_tree_here"] (spLC (n + 1)) := by
  obtain ⟨fD, fdD, GD, bD, kD, mD⟩ := Dr
  refine F.ok scLC (fun vs H Q E h => ?_) (fun cdv A outer s H vs Q E hr h => ?_)
  · obtain ⟨sx, d, t, v, rfl, _⟩ := h
    rfl
  · obtain ⟨sx, d, t, v, rfl, hd, ht, hok, hel, hdp, hsz, q⟩ := h
    cases t with
    | text z => cases hel
    | elem nm cs =>
    obtain ⟨tt, la, vs, rfl, nt, na, h1, h2, h3⟩ := ht.parts
    have hn1 : 1 ≤ n := by
      rw [Tp.dep] at hdp
      omega
    have hr1 : Room 1 _ := hr.mono hn1
    have lv := h3.len
    have hcl := len_size cs
    rw [Tp.size] at hsz
    have big : 2000 ≤ sizeLine := by decide
    have okn : nm ∈ five := by rw [okT] at hok; exact hok.1
    have fin : ∀ {G : Hp} {l p5 p6 : Addr} {m : Str} {cs' : List T} {vs' : List V}, Cg H sx d tt la l nm cs vs G → G p5 = some (.lst vs') → p5 ≠ d → TreesIn (Off d) G cs' vs' → Near (.elem nm cs) (.elem m cs') → G p6 = none → Q (.ref p6) (upd G p6 (.tup [.str m, .ref p5])) :=
      fun C h5 n5 c nr h6 => q _ _ _ (C.bt.new h6 _) (C.dk.same' (same_new h6 _)) (C.make h5 n5 c h6) nr
    refine two 4 (LCs H sx d tt la nm cs vs) ?_ fun u hu pu => ?_
    · refine two' 3 (LCs H sx d tt la nm cs vs) ?_ fun u hu pu => ?_
      · refine two' 1 (LCs H sx d tt la nm cs vs) ?_ fun u hu pu => ?_
        · refine ⟨_, pss_cons (ps_if (PW.pt (pw_and (pt_cmpR op_gt (pe_callB call_len_seq rfl X.len PySem.boot_len (pa_cons (pv 3) pa_nil)) pe_int (nomark _)) (pw_and (pt_not (pt_val (pe_callB call_isi rfl X.isi (by decide +kernel) (pa_cons (pe_ix (show IxR _ (rIxL K) from ix_list) (pv 3) pe_int (fun _ _ => rfl)) (pa_cons (pe_bltn (v := .ty "str") rfl X.str (by decide +kernel) rfl) pa_nil))))) (pw_and1 (pt_not (pt_val (pe_callB call_isi rfl X.isi (by decide +kernel) (pa_cons (pe_ix (show IxR _ (rIxL K) from ix_list) (pv 3) pe_int (fun _ _ => rfl)) (pa_cons (pe_bltn (v := .ty "str") rfl X.str (by decide +kernel) rfl) pa_nil)))))))))
              (pss_one (ps_ret (pe_tup (pa_cons (pe_ix (show IxR _ (rIxT K) from ix_tup) (pv 1) pe_int (fun _ _ => rfl)) (pa_cons (pe_op op_cat (pe_lst (pa_cons (pe_ix (show IxR _ (rIxL K) from ix_list) (pv 3) pe_int (fun _ _ => rfl)) (pa_cons (pe_ix (show IxR _ (rIxL K) from ix_list) (pv 3) pe_int (fun _ _ => rfl)) pa_nil))) (pe_slice sl_list (pv 3) (po_some pe_int) po_none)) pa_nil))))) pss_nil)
            (pss_one (ps_ret (pv 1))), ?_⟩
          rintro σ G ⟨l, kind, at', rfl, C, hat⟩
          have back : Q (.ref tt) G := q _ _ _ C.bt C.dk C.self (near_self hok rfl)
          refine ⟨_, rfl, l, vs, rfl, .inl (SqL.of C.hl), _, _, rfl, rfl, _, rfl, ite2 (fun c => ?_) (fun _ => iteF ⟨_, rfl, back⟩)⟩
          have c' := of_decide_eq_true c
          have hln : 1 < vs.length := by omega
          obtain ⟨c0, c1, r, rfl⟩ : ∃ c0 c1 r, cs = c0 :: c1 :: r := by
            match cs, lv with
            | [], lv => exact absurd lv (by intro z; rw [z] at hln; simp at hln)
            | [_], lv => exact absurd lv (by intro z; rw [z] at hln; simp at hln)
            | c0 :: c1 :: r, _ => exact ⟨c0, c1, r, rfl⟩
          have C0 := C.tr
          rw [TreesIn] at C0
          obtain ⟨v0, vr, rfl, k0, C0⟩ := C0
          rw [TreesIn] at C0
          obtain ⟨v1, vr, rfl, k1, kr⟩ := C0
          refine ⟨_, rfl, l, _, _, _, rfl, rfl, SqL.of C.hl, atI_nat (j := 0) rfl, _, _, _, _, _, rfl, .ty "str", k0.any.ty, kit_str c0, _, rfl, ite2 (fun e0 => ?_) (fun _ => iteF ⟨_, rfl, back⟩)⟩
          refine ⟨_, rfl, l, _, _, _, rfl, rfl, SqL.of C.hl, atI_nat (j := 1) rfl, _, _, _, _, _, rfl, .ty "str", k1.any.ty, kit_str c1, _, rfl, ite2 (fun e1 => ?_) (fun _ => ⟨_, rfl, back⟩)⟩
          refine ⟨_, rfl, tt, _, _, _, rfl, rfl, SqT.of C.ht, (atI_nat (j := 0) rfl), _, rfl, l, _, _, _, rfl, rfl, SqL.of C.hl, atI_nat (j := 1) rfl, _, rfl, l, _, _, _, rfl, rfl, SqL.of C.hl, atI_nat (j := 0) rfl, (by show 2 ≤ sizeLine; omega), fun p1 hp1 => ?_⟩
          have C1 := C.new hp1 (HO.lst [v1, v0])
          refine ⟨_, rfl, _, rfl, l, _, rfl, SqL.of C1.hl, fun p2 hp2 => ?_⟩
          rw [show cutV (v0 :: v1 :: vr) (some 2) none = vr from cut_from (v0 :: v1 :: vr) 2]
          have C2 := C1.new hp2 (HO.lst vr)
          refine ⟨p1, p2, _, _, rfl, rfl, (same_new hp2 _) _ _ upd_same, upd_same, (by have e2 : (v0 :: v1 :: vr).length = vr.length + 2 := rfl; show 2 + vr.length ≤ sizeLine; omega), fun p5 hp5 => ⟨(by show 2 ≤ sizeLine; omega), fun p6 hp6 => ?_⟩⟩
          refine fin (C2.new hp5 _) upd_same (C2.ne hp5) (cs' := [c1, c0] ++ r) ?_ (near_swap hok (by simpa using e0) (by simpa using e1)) hp6
          exact (((TreesIn.one k1).append (TreesIn.one k0)).append kr).same (((same_new hp1 _).trans (same_new hp2 _)).trans (same_new hp5 _))
        · refine ⟨_, pss_cons (ps_if (PW.pt (pw_and (pt_cmpR op_eq (pv 2) pe_int (nomark _)) (pw_and1 (pt_cmpR op_eq (pe_callB call_len_seq rfl X.len PySem.boot_len (pa_cons (pv 3) pa_nil)) pe_int (nomark _)))))
            (pss_one (ps_ret (pe_tup (pa_cons (pe_ix (show IxR _ (rIxT K) from ix_tup) (pv 1) pe_int (fun _ _ => rfl)) (pa_cons (pe_lst pa_nil) pa_nil))))) pss_nil) hu, ?_⟩
          rintro σ G ⟨l, kind, at', rfl, C, hat⟩
          have rest := pu _ _ ⟨l, kind, at', rfl, C, hat⟩
          exact ⟨_, rfl, rfl, _, rfl, ite2 (fun _ => ⟨_, rfl, l, vs, rfl, .inl (SqL.of C.hl), rfl, _, rfl, ite2 (fun _ => ⟨_, rfl, tt, _, _, _, rfl, rfl, SqT.of C.ht, (atI_nat (j := 0) rfl), (by show 0 ≤ sizeLine; omega), fun p5 hp5 => ⟨(by show 2 ≤ sizeLine; omega), fun p6 hp6 => fin (C.new hp5 _) upd_same (C.ne hp5) TreesIn.nil (near_nil hok) hp6⟩⟩) (fun _ => rest)⟩) (fun _ => iteF rest)⟩
      · refine ⟨_, pss_cons (ps_if (pt_cmpR op_eq (pv 2) pe_int (nomark _)) (pss_one (ps_ret (pe_tup (pa_cons (pe_ix (show IxR _ (rIxL K) from ix_list) (pe_lst (pa_cons pe_str (pa_cons pe_str (pa_cons pe_str pa_nil)))) (pe_call GD hr1 rfl mD kD bD .nil pass0 (pa_cons (pv 0) (pa_cons pe_int pa_nil))) (fun _ _ => rfl)) (pa_cons (pv 3) pa_nil))))) pss_nil)
          (pss_cons (ps_if (pt_cmpR op_eq (pv 2) pe_int (nomark _)) (pss_one (ps_ret (pe_tup (pa_cons (pe_ix (show IxR _ (rIxT K) from ix_tup) (pv 1) pe_int (fun _ _ => rfl)) (pa_cons
            (pe_op op_cat (pe_op op_cat (pe_slice sl_list (pv 3) po_none (po_some (pv 4))) (pe_lst (pa_cons (pe_tup (pa_cons pe_str (pa_cons (pe_lst pa_nil) pa_nil))) pa_nil))) (pe_slice sl_list (pv 3) (po_some (pv 4)) po_none)) pa_nil))))) pss_nil)
          (pss_cons (ps_if (PW.pt (pw_and (pt_cmpR op_eq (pv 2) pe_int (nomark _)) (pw_and (pt_cmpR op_lt (pv 4) (pe_callB call_len_seq rfl X.len PySem.boot_len (pa_cons (pv 3) pa_nil)) (nomark _)) (pw_and1 (pt_val (pe_callB call_isi rfl X.isi (by decide +kernel) (pa_cons (pe_ix (show IxR _ (rIxL K) from ix_list) (pv 3) (pv 4) (fun _ _ => rfl)) (pa_cons (pe_bltn (v := .ty "str") rfl X.str (by decide +kernel) rfl) pa_nil)))))))) (pss_one (ps_ret (pe_tup (pa_cons (pe_ix (show IxR _ (rIxT K) from ix_tup) (pv 1) pe_int (fun _ _ => rfl)) (pa_cons
            (pe_op op_cat (pe_op op_cat (pe_slice sl_list (pv 3) po_none (po_some (pv 4))) (pe_lst (pa_cons (pe_op op_add_str (pe_ix (show IxR _ (rIxL K) from ix_list) (pv 3) (pv 4) (fun _ _ => rfl)) pe_str) pa_nil))) (pe_slice sl_list (pv 3) (po_some (pe_op op_add (pv 4) pe_int)) po_none)) pa_nil))))) pss_nil) hu)), ?_⟩
        rintro σ G ⟨l, kind, at', rfl, C, hat⟩
        have rest := pu _ _ ⟨l, kind, at', rfl, C, hat⟩
        refine ⟨_, rfl, rfl, _, rfl, ite2 (fun _ => ?_) (fun _ => ⟨_, rfl, rfl, _, rfl, ite2 (fun _ => ?_) (fun _ => ⟨_, rfl, rfl, _, rfl, ite2 (fun _ => ?_) (fun _ => iteF rest)⟩)⟩)⟩
        · refine ⟨(by show 3 ≤ sizeLine; omega), fun p hp => ?_⟩
          have C1 := C.new hp (HO.lst [.str "a", .str "b", .str "zz"])
          refine ⟨_, rfl, sx, d, 3, rfl, C1.dk, by decide, by decide, fun k H2 hk b2 dk2 => ?_⟩
          have C2 := C1.but b2 dk2
          obtain ⟨m, em, hm⟩ := three_at (k := k) (by omega)
          exact ⟨p, _, _, _, rfl, rfl, SqL.of (b2 _ _ (C.ne hp) upd_same), em, _, rfl, (by show 2 ≤ sizeLine; omega), fun p6 hp6 => fin C2 C2.hl C2.nl C2.tr (near_name hok hm) hp6⟩
        · refine ⟨_, rfl, tt, _, _, _, rfl, rfl, SqT.of C.ht, (atI_nat (j := 0) rfl), _, rfl, _, rfl, _, rfl, l, vs, rfl, SqL.of C.hl, fun p1 hp1 => ?_⟩
          rw [cut_to]
          have n1 := C.ne hp1
          have C5 := C.new hp1 (HO.lst (vs.take at'))
          have g1 : (upd G p1 (HO.lst (vs.take at'))) p1 = some (.lst (vs.take at')) := upd_same
          revert C5 g1
          generalize upd G p1 (HO.lst (vs.take at')) = G5
          intro C5 g1
          refine ⟨(by show 0 ≤ sizeLine; omega), fun pa hpa => ⟨(by show 2 ≤ sizeLine; omega), fun pb hpb => ?_⟩⟩
          have C5a := C5.new hpa (HO.lst [])
          have C6 := C5a.new hpb (HO.tup [.str "a", .ref pa])
          have g6 := (same_new hpb (HO.tup [.str "a", .ref pa])) _ _ ((same_new hpa (HO.lst [])) _ _ g1)
          have hv : TreeIn (Off d) (upd (upd G5 pa (HO.lst [])) pb (HO.tup [.str "a", .ref pa])) (.elem "a" []) (.ref pb) := C5a.make upd_same (C5.ne hpa) TreesIn.nil hpb
          revert C6 g6 hv
          generalize upd (upd G5 pa (HO.lst [])) pb (HO.tup [.str "a", .ref pa]) = G6
          intro C6 g6 hv
          refine ⟨(by show 1 ≤ sizeLine; omega), fun p2 hp2 => ?_⟩
          have n2 := C6.ne hp2
          refine ⟨p1, p2, _, _, rfl, rfl, (same_new hp2 _) _ _ g6, upd_same, (by rw [List.length_take, List.length_singleton]; omega), fun p3 hp3 => ?_⟩
          have C6' := C6.new hp2 (HO.lst [(V.ref pb)])
          have C7 := C6'.new hp3 (HO.lst (vs.take at' ++ [(V.ref pb)]))
          have n3 := C6'.ne hp3
          have g3 : (upd (upd G6 p2 (HO.lst [(V.ref pb)])) p3 (HO.lst (vs.take at' ++ [(V.ref pb)]))) p3 = some (.lst (vs.take at' ++ [(V.ref pb)])) := upd_same
          have hv7 := (hv.same (same_new hp2 (HO.lst [(V.ref pb)]))).same (same_new hp3 (HO.lst (vs.take at' ++ [(V.ref pb)])))
          revert C7 g3 hv7
          generalize upd (upd G6 p2 (HO.lst [(V.ref pb)])) p3 (HO.lst (vs.take at' ++ [(V.ref pb)])) = G7
          intro C7 g3 hv7
          refine ⟨_, rfl, _, rfl, _, rfl, l, vs, rfl, SqL.of C7.hl, fun p4 hp4 => ?_⟩
          rw [cut_from]
          refine ⟨p3, p4, _, _, rfl, rfl, (same_new hp4 _) _ _ g3, upd_same, (by rw [List.length_append, List.length_take, List.length_singleton, List.length_drop]; omega), fun p5 hp5 => ?_⟩
          refine ⟨(by show 2 ≤ sizeLine; omega), fun p6 hp6 => ?_⟩
          have C8 := C7.new hp4 (HO.lst (vs.drop at'))
          exact fin (C8.new hp5 _) upd_same (C8.ne hp5) ((((C7.tr.take at').append (TreesIn.one hv7)).append (C7.tr.drop _)).same ((same_new hp4 _).trans (same_new hp5 _))) (near_ins hok) hp6
        · refine ⟨_, rfl, _, rfl, l, vs, rfl, .inl (SqL.of C.hl), _, _, rfl, rfl, _, rfl, ite2 (fun c => ?_) (fun _ => iteF rest)⟩
          have c' := of_decide_eq_true c
          have hlt : at' < vs.length := by omega
          obtain ⟨x, hx⟩ : ∃ x, vs[at']? = some x := ⟨_, List.getElem?_eq_getElem hlt⟩
          obtain ⟨tc, hc, kc⟩ := C.tr.get hx
          refine ⟨_, rfl, _, rfl, l, vs, _, _, rfl, rfl, SqL.of C.hl, atI_nat hx, _, _, _, _, _, rfl, .ty "str", kc.any.ty, kit_str tc, _, rfl, ite2 (fun c2 => ?_) (fun _ => rest)⟩
          have hmem : tc ∈ cs := List.mem_of_getElem? hc
          have okc : okT 5 tc := by rw [okT] at hok; exact okL_mem.mp hok.2.2 tc hmem
          cases tc with
          | elem m ds => cases c2
          | text z =>
          obtain rfl := At.sign kc.any
          have zl : z.length ≤ 5 := by rw [okT] at okc; exact okc.2.1
          refine ⟨_, rfl, tt, _, _, _, rfl, rfl, SqT.of C.ht, (atI_nat (j := 0) rfl), _, rfl, _, rfl, _, rfl, l, vs, rfl, SqL.of C.hl, fun p1 hp1 => ?_⟩
          rw [cut_to]
          have n1 := C.ne hp1
          have C5 := C.new hp1 (HO.lst (vs.take at'))
          have g1 : (upd G p1 (HO.lst (vs.take at'))) p1 = some (.lst (vs.take at')) := upd_same
          revert C5 g1
          generalize upd G p1 (HO.lst (vs.take at')) = G5
          intro C5 g1
          refine ⟨_, rfl, _, rfl, l, vs, _, _, rfl, rfl, SqL.of C5.hl, atI_nat hx, z, "x", rfl, rfl, ?_, ?_⟩
          · have e1 : ("x" : Str).length = 1 := rfl
            rw [e1]
            have : z.length ≤ 5 := zl
            omega
          have C6 := C5
          have g6 := g1
          have hv : TreeIn (Off d) G5 (.text (z ++ "x")) (.str (z ++ "x")) := by rw [TreeIn]
          revert C6 g6 hv
          generalize G5 = G6
          intro C6 g6 hv
          refine ⟨(by show 1 ≤ sizeLine; omega), fun p2 hp2 => ?_⟩
          have n2 := C6.ne hp2
          refine ⟨p1, p2, _, _, rfl, rfl, (same_new hp2 _) _ _ g6, upd_same, (by rw [List.length_take, List.length_singleton]; omega), fun p3 hp3 => ?_⟩
          have C6' := C6.new hp2 (HO.lst [(V.str (z ++ "x"))])
          have C7 := C6'.new hp3 (HO.lst (vs.take at' ++ [(V.str (z ++ "x"))]))
          have n3 := C6'.ne hp3
          have g3 : (upd (upd G6 p2 (HO.lst [(V.str (z ++ "x"))])) p3 (HO.lst (vs.take at' ++ [(V.str (z ++ "x"))]))) p3 = some (.lst (vs.take at' ++ [(V.str (z ++ "x"))])) := upd_same
          have hv7 := (hv.same (same_new hp2 (HO.lst [(V.str (z ++ "x"))]))).same (same_new hp3 (HO.lst (vs.take at' ++ [(V.str (z ++ "x"))])))
          revert C7 g3 hv7
          generalize upd (upd G6 p2 (HO.lst [(V.str (z ++ "x"))])) p3 (HO.lst (vs.take at' ++ [(V.str (z ++ "x"))])) = G7
          intro C7 g3 hv7
          refine ⟨_, rfl, _, rfl, _, _, rfl, rfl, _, rfl, l, vs, rfl, SqL.of C7.hl, fun p4 hp4 => ?_⟩
          rw [show cutV vs (some ((at' : Int) + 1)) none = vs.drop (at' + 1) from cut_from vs (at' + 1)]
          refine ⟨p3, p4, _, _, rfl, rfl, (same_new hp4 _) _ _ g3, upd_same, (by rw [List.length_append, List.length_take, List.length_singleton, List.length_drop]; omega), fun p5 hp5 => ?_⟩
          refine ⟨(by show 2 ≤ sizeLine; omega), fun p6 hp6 => ?_⟩
          have C8 := C7.new hp4 (HO.lst (vs.drop (at' + 1)))
          exact fin (C8.new hp5 _) upd_same (C8.ne hp5) ((((C7.tr.take at').append (TreesIn.one hv7)).append (C7.tr.drop _)).same ((same_new hp4 _).trans (same_new hp5 _))) (near_x hok hc) hp6
    · refine ⟨_, pss_cons (ps_set (i := 2) scLC.nd rfl (Or.inl rfl) (pe_call GD hr1 rfl mD kD bD .nil pass0 (pa_cons (pv 0) (pa_cons pe_int pa_nil))))
        (pss_cons (ps_set (i := 3) scLC.nd rfl (Or.inl rfl) (pe_callTy call_list_of rfl X.list boot_list (pa_cons (pe_ix (show IxR _ (rIxT K) from ix_tup) (pv 1) pe_int (fun _ _ => rfl)) pa_nil)))
        (pss_cons (ps_set (i := 4) scLC.nd rfl (Or.inl rfl) (pe_call GD hr1 rfl mD kD bD .nil pass0 (pa_cons (pv 0) (pa_cons (pe_op op_add (pe_callB call_len_seq rfl X.len PySem.boot_len (pa_cons (pv 3) pa_nil)) pe_int) pa_nil))))
        (pss_cons (ps_if (PW.pt (pw_and (pt_cmpR op_lt (pv 4) (pe_callB call_len_seq rfl X.len PySem.boot_len (pa_cons (pv 3) pa_nil)) (nomark _))
            (pw_and (pt_not (pt_val (pe_callB call_isi rfl X.isi (by decide +kernel) (pa_cons (pe_ix (show IxR _ (rIxL K) from ix_list) (pv 3) (pv 4) (fun _ _ => rfl)) (pa_cons (pe_bltn (v := .ty "str") rfl X.str (by decide +kernel) rfl) pa_nil)))))
            (pw_and1 (pt_cmpR op_eq (pe_call GD hr1 rfl mD kD bD .nil pass0 (pa_cons (pv 0) (pa_cons pe_int pa_nil))) pe_int (nomark _))))))
          (pss_one (ps_ret (pe_tup (pa_cons (pe_ix (show IxR _ (rIxT K) from ix_tup) (pv 1) pe_int (fun _ _ => rfl)) (pa_cons
            (pe_op op_cat (pe_op op_cat (pe_slice sl_list (pv 3) po_none (po_some (pv 4))) (pe_lst (pa_cons (pe_call G hr rfl mf F.kp bf .nil pass0 (pa_cons (pv 0) (pa_cons (pe_ix (show IxR _ (rIxL K) from ix_list) (pv 3) (pv 4) (fun _ _ => rfl)) pa_nil))) pa_nil))) (pe_slice sl_list (pv 3) (po_some (pe_op op_add (pv 4) pe_int)) po_none)) pa_nil)))))
          pss_nil) hu))), ?_⟩
      refine ⟨_, rfl, sx, d, 5, rfl, hd, by decide, by decide, fun kind H1 hk1 b1 dk1 => ?_⟩
      have t1 := b1 _ _ nt h1
      have a1 := b1 _ _ na h2
      have c1 : TreesIn (Off d) H1 cs vs := h3.mono (fun x o f e _ => b1 x o f e) fun _ _ f _ => f
      refine ⟨_, rfl, tt, _, _, _, rfl, rfl, SqT.of t1, (atI_nat (j := 1) rfl), la, vs, rfl, .inl (SqL.of a1), fun l hl => ?_⟩
      have hld : l ≠ d := fun z => by
        obtain ⟨xs, i, r, st, e, _, _⟩ := dk1
        rw [z, e] at hl; cases hl
      have s2 := same_new hl (HO.lst vs)
      have C2 : Cg H sx d tt la l nm cs vs (upd H1 l (.lst vs)) := ⟨b1.new hl _, dk1.same' s2, s2 _ _ t1, s2 _ _ a1, upd_same, c1.same s2, nt, na, hld⟩
      revert C2
      generalize upd H1 l (.lst vs) = H2
      intro C2
      refine ⟨_, rfl, _, rfl, l, vs, rfl, .inl (SqL.of C2.hl), _, _, rfl, rfl, sx, d, _, rfl, C2.dk, by omega, by omega, fun at' H3 hk3 b3 dk3 => ?_⟩
      have C3 := C2.but b3 dk3
      have hat : at' ≤ vs.length := by omega
      have rest : ∀ {G : Hp}, Cg H sx d tt la l nm cs vs G → LCs H sx d tt la nm cs vs [some (.ref d), some (.ref tt), some (.int (kind : Nat)), some (.ref l), some (.int (at' : Nat))] G := fun C => ⟨l, kind, at', rfl, C, hat⟩
      refine ⟨_, rfl, _, rfl, l, vs, rfl, .inl (SqL.of C3.hl), _, _, rfl, rfl, _, rfl, ite2 (fun c => ?_) (fun _ => iteF (pu _ _ (rest C3)))⟩
      have c' := of_decide_eq_true c
      have hlt : at' < vs.length := by omega
      obtain ⟨x, hx⟩ : ∃ x, vs[at']? = some x := ⟨_, List.getElem?_eq_getElem hlt⟩
      obtain ⟨tc, hc, kc⟩ := C3.tr.get hx
      refine ⟨_, rfl, _, rfl, l, vs, _, _, rfl, rfl, SqL.of C3.hl, atI_nat hx, _, _, _, _, _, rfl, .ty "str", kc.any.ty, kit_str tc, _, rfl, ite2 (fun c2 => ?_) (fun _ => iteF (pu _ _ (rest C3)))⟩
      refine ⟨_, rfl, sx, d, 2, rfl, C3.dk, by decide, by decide, fun k4 H4 hk4 b4 dk4 => ⟨rfl, _, rfl, ite2 (fun _ => ?_) (fun _ => pu _ _ (rest (C3.but b4 dk4)))⟩⟩
      have C4 := C3.but b4 dk4
      have c2' : isStr tc = false := by simpa using c2
      have hmem : tc ∈ cs := List.mem_of_getElem? hc
      have okc : okT 5 tc := by rw [okT] at hok; exact okL_mem.mp hok.2.2 tc hmem
      have dpc : Tp.dep tc < n := by
        have := dep_mem hmem
        rw [Tp.dep] at hdp
        omega
      have szc : Tp.size tc ≤ 500 := by
        have := size_mem hmem
        omega
      have kc5 : ∀ {G : Hp}, Cg H sx d tt la l nm cs vs G → TreeIn (Off d) G tc x := fun C => by
        obtain ⟨t2, e2, k2⟩ := C.tr.get hx
        rw [hc] at e2
        cases e2
        exact k2
      refine ⟨_, rfl, tt, _, _, _, rfl, rfl, SqT.of C4.ht, (atI_nat (j := 0) rfl), _, rfl, _, rfl, _, rfl, l, vs, rfl, SqL.of C4.hl, fun p1 hp1 => ?_⟩
      rw [cut_to]
      have n1 := C4.ne hp1
      have C5 := C4.new hp1 (HO.lst (vs.take at'))
      have g1 : (upd H4 p1 (HO.lst (vs.take at'))) p1 = some (.lst (vs.take at')) := upd_same
      revert C5 g1
      generalize upd H4 p1 (HO.lst (vs.take at')) = G5
      intro C5 g1
      refine ⟨_, rfl, _, rfl, _, rfl, l, vs, _, _, rfl, rfl, SqL.of C5.hl, atI_nat hx, sx, d, tc, x, rfl, C5.dk, kc5 C5, okc, c2', dpc, szc, fun t' v' G6 b6 dk6 hv nr => ?_⟩
      have C6 := C5.but b6 dk6
      have g6 := b6 _ _ n1 g1
      refine ⟨(by show 1 ≤ sizeLine; omega), fun p2 hp2 => ?_⟩
      have n2 := C6.ne hp2
      refine ⟨p1, p2, _, _, rfl, rfl, (same_new hp2 _) _ _ g6, upd_same, (by rw [List.length_take, List.length_singleton]; omega), fun p3 hp3 => ?_⟩
      have C6' := C6.new hp2 (HO.lst [v'])
      have C7 := C6'.new hp3 (HO.lst (vs.take at' ++ [v']))
      have n3 := C6'.ne hp3
      have g3 : (upd (upd G6 p2 (HO.lst [v'])) p3 (HO.lst (vs.take at' ++ [v']))) p3 = some (.lst (vs.take at' ++ [v'])) := upd_same
      have hv7 := (hv.same (same_new hp2 (HO.lst [v']))).same (same_new hp3 (HO.lst (vs.take at' ++ [v'])))
      revert C7 g3 hv7
      generalize upd (upd G6 p2 (HO.lst [v'])) p3 (HO.lst (vs.take at' ++ [v'])) = G7
      intro C7 g3 hv7
      refine ⟨_, rfl, _, rfl, _, _, rfl, rfl, _, rfl, l, vs, rfl, SqL.of C7.hl, fun p4 hp4 => ?_⟩
      rw [show cutV vs (some ((at' : Int) + 1)) none = vs.drop (at' + 1) from cut_from vs (at' + 1)]
      refine ⟨p3, p4, _, _, rfl, rfl, (same_new hp4 _) _ _ g3, upd_same, (by rw [List.length_append, List.length_take, List.length_singleton, List.length_drop]; omega), fun p5 hp5 => ?_⟩
      refine ⟨(by show 2 ≤ sizeLine; omega), fun p6 hp6 => ?_⟩
      have C8 := C7.new hp4 (HO.lst (vs.drop (at' + 1)))
      exact fin (C8.new hp5 _) upd_same (C8.ne hp5) ((((C7.tr.take at').append (TreesIn.one hv7)).append (C7.tr.drop _)).same ((same_new hp4 _).trans (same_new hp5 _))) (near_at hok hc c2' nr) hp6
theorem ok_LC {f : Addr} {fd : FuncData} (F : Fun K "_law_changed" "_law_changed" sChanged f fd) (X : Txt mg) (Dr : Has P w K mg base CX0 1 "_law_draw" ["_law_deck_here", "_law_most"] spDraw) (mf : mg "_law_changed" = some (.ref f)) (bf : Binds K fd ["_law_deck_here", "_law_tree_here"] []) :
    ∀ n : Nat, FnOk P w K mg base CX0 n f fd ["_law_deck_here", "_law_tree_here"] (spLC n)
  | 0 => fn_never fun vs H Q E ⟨sx, d, t, v, _, _, _, _, _, h, _⟩ => absurd h (Nat.not_lt_zero _)
  | n + 1 => ok_LC1 F X Dr mf bf (ok_LC F X Dr mf bf n)
end
end Tk

/-! k27: _law_same of bools, _law_size, _law_refused. -/
namespace Tk
open PySem PySem.Spec PyProof.Rows L2
open Tp (Tree)
open LamX (Tabs TabB ExtN TabS)
/-- statements that are never reached -/
theorem pss_never {X : Cx} {b : List Stmt} : PSs X b (fun _ _ _ => False) := ⟨fun _ _ _ _ _ _ h => h.elim⟩
def spSame : Sp := fun vs H Q _ => ∃ a b : Bool, vs = [.bl a, .bl b] ∧ Q (.bl (decide (a = b))) H
def spLS (n : Nat) : Sp := fun vs H Q _ => ∃ (t : T) (v : V), vs = [v] ∧ At H t v ∧ Tp.dep t < n ∧ Tp.size t ≤ 1000 ∧ ∀ H', Same H H' → Q (.int (Tp.size t : Nat)) H'
def spRefused (Pt : Addr) : Sp := fun vs H Q _ => ∃ (t : T) (v : V), vs = [v] ∧ At H t v ∧ lenOk t ∧ Tp.size t ≤ 900 ∧ Tp.dep t < 10 ∧ (names t).length < 64 ∧ isDoc t = false ∧ Tabs (tabT Pt) H ∧ ∀ H', ExtN H H' → Tabs (tabT Pt) H' → Q (.bl true) H'
theorem sum_sizes : ∀ cs : List T, ((List.range cs.length).map (fun i => (((cs[i]?.map Tp.size).getD 0 : Nat) : Int))).sum = (Tp.sizeL cs : Nat)
  | [] => rfl
  | c :: r => by
    rw [List.length_cons, List.range_succ_eq_map, List.map_cons, List.map_map, List.sum_cons, Tp.sizeL]
    have ih := sum_sizes r
    have e : ((List.range r.length).map ((fun i => ((((c :: r)[i]?.map Tp.size).getD 0 : Nat) : Int)) ∘ Nat.succ)) = (List.range r.length).map (fun i => (((r[i]?.map Tp.size).getD 0 : Nat) : Int)) := by
      refine List.map_congr_left fun i _ => ?_
      show ((((c :: r)[i + 1]?.map Tp.size).getD 0 : Nat) : Int) = _
      rw [List.getElem?_cons_succ]
    rw [e, ih]
    show ((Tp.size c : Nat) : Int) + _ = _
    omega
section
variable {P : Program} {w : World} {K : PySem.W.Frag} {mg : Str → Option Value} {base : Heap} {CI CR Pt : Addr}
theorem scSame : FnScope ["_law_actual", "_law_due", "_law_k"] ["_law_actual", "_law_due"] (defScope sSame) := ⟨rfl, rfl, rfl, by decide +kernel, rfl, by decide +kernel, by decide +kernel⟩
theorem ok_same {f : Addr} {fd : FuncData} (F : Fun K "_law_same" "_law_same" sSame f fd) (X : Txt mg) : FnOk P w K mg base CX0 1 f fd ["_law_actual", "_law_due"] spSame := by
  refine F.ok scSame (fun vs H Q E h => ?_) (fun cdv A outer s H vs Q E hr h => ?_)
  · obtain ⟨a, b, rfl, _⟩ := h
    rfl
  · obtain ⟨a, b, rfl, q⟩ := h
    refine ⟨_, pss_cons (ps_if (PW.pt (pw_or (pt_val (pe_callB call_isi rfl X.isi (by decide +kernel) (pa_cons (pv 1) (pa_cons (pe_bltn (v := .ty "tuple") rfl X.tuple (by decide +kernel) rfl) pa_nil)))) (pw_or1 (pt_val (pe_callB call_isi rfl X.isi (by decide +kernel) (pa_cons (pv 1) (pa_cons (pe_bltn (v := .ty "list") rfl X.list (by decide +kernel) rfl) pa_nil))))))) pss_never pss_nil)
      (pss_cons (ps_if (PW.pt (pw_or (pt_val (pe_callB call_isi rfl X.isi (by decide +kernel) (pa_cons (pv 1) (pa_cons (pe_bltn (v := .ty "bool") rfl X.bool (by decide +kernel) rfl) pa_nil)))) (pw_or1 (pt_val (pe_callB call_isi rfl X.isi (by decide +kernel) (pa_cons (pv 0) (pa_cons (pe_bltn (v := .ty "bool") rfl X.bool (by decide +kernel) rfl) pa_nil)))))))
        (pss_one (ps_ret (pe_and (pe_callB call_isi rfl X.isi (by decide +kernel) (pa_cons (pv 1) (pa_cons (pe_bltn (v := .ty "bool") rfl X.bool (by decide +kernel) rfl) pa_nil))) (pe_and (pe_callB call_isi rfl X.isi (by decide +kernel) (pa_cons (pv 0) (pa_cons (pe_bltn (v := .ty "bool") rfl X.bool (by decide +kernel) rfl) pa_nil))) (pe_one (pe_cmpR op_eq (pv 1) (pv 0) (nomark _))))))) pss_nil) pss_never), ?_⟩
    refine ⟨_, rfl, _, _, _, _, _, rfl, .ty "tuple", .base (.bl b), kit_ty (show kitB "bool" "tuple" = some false by decide +kernel), _, rfl, iteF ?_⟩
    refine ⟨_, rfl, _, _, _, _, _, rfl, .ty "list", .base (.bl b), kit_ty (show kitB "bool" "list" = some false by decide +kernel), _, rfl, iteF ?_⟩
    refine ⟨_, rfl, _, _, _, _, _, rfl, .ty "bool", .base (.bl b), kit_ty (show kitB "bool" "bool" = some true by decide +kernel), _, rfl, iteT ?_⟩
    refine ⟨_, rfl, _, _, _, _, _, rfl, .ty "bool", .base (.bl b), kit_ty (show kitB "bool" "bool" = some true by decide +kernel), _, rfl, iteT ?_⟩
    refine ⟨_, rfl, _, _, _, _, _, rfl, .ty "bool", .base (.bl a), kit_ty (show kitB "bool" "bool" = some true by decide +kernel), _, rfl, iteT ?_⟩
    refine ⟨_, rfl, _, rfl, rfl, ?_⟩
    have e : decide (V.bl b = V.bl a) = decide (a = b) := by cases a <;> cases b <;> decide
    rw [e]
    exact q
theorem scLS : FnScope ["_law_tree_here", "_law_child"] ["_law_tree_here"] (defScope sSize) := ⟨rfl, rfl, rfl, by decide +kernel, rfl, by decide +kernel, by decide +kernel⟩
theorem ok_LS1 {n : Nat} {f : Addr} {fd : FuncData} (F : Fun K "_law_size" "_law_size" sSize f fd) (X : Txt mg) (mf : mg "_law_size" = some (.ref f)) (bf : Binds K fd ["_law_tree_here"] []) (G : FnOk P w K mg base CX0 n f fd ["_law_tree_here"] (spLS n)) :
    FnOk P w K mg base CX0 (n + 1) f fd ["_law_tree_here"] (spLS (n + 1)) := by
  refine F.ok scLS (fun vs H Q E h => ?_) (fun cdv A outer s H vs Q E hr h => ?_)
  · obtain ⟨t, v, rfl, _⟩ := h
    rfl
  · obtain ⟨t, v, rfl, hT, hd, hz, q⟩ := h
    refine ⟨_, pss_cons (ps_if (pt_val (pe_callB call_isi rfl X.isi (by decide +kernel) (pa_cons (pv 0) (pa_cons (pe_bltn (v := .ty "str") rfl X.str (by decide +kernel) rfl) pa_nil)))) (pss_one (ps_ret pe_int)) pss_nil)
      (pss_one (ps_ret (pe_op op_add pe_int (pe_callB (cr_sum rfl) rfl X.sum (by decide +kernel) (pa_cons
        (pe_lc (own := [("_law_child", 1)]) (g := gName 1) (tt := tYes) rfl scLS.nd (pi_list (pe_ix (show IxR _ (rIxT K) from ix_tup) (pv 0) pe_int (fun _ _ => rfl))) (blkOk_by (N := ["_law_tree_here", "_law_child"]) (sc := defScope sSize) (by decide +kernel))
          (fun _ _ _ _ _ => pg_name (i := 1) scLS.nd rfl (Or.inl rfl)) (fun _ _ _ _ _ => pts_nil) (fun _ _ _ _ _ => pe_call G hr rfl mf F.kp bf .nil pass0 (pa_cons (pv 1) pa_nil))) pa_nil))))), ?_⟩
    refine ⟨_, rfl, _, _, _, _, _, rfl, .ty "str", hT.ty, kit_str t, _, rfl, ?_⟩
    cases t with
    | text z =>
      refine iteT ?_
      have e := q H (Same.refl _)
      rw [Tp.size] at e
      exact e
    | elem nm cs =>
      refine iteF ?_
      obtain ⟨tt, la, ws, rfl, h1, h2, h3⟩ := At.parts hT
      have hcl := len_size cs
      have lv := h3.len
      rw [Tp.size] at hz
      rw [Tp.dep] at hd
      refine ⟨_, rfl, tt, _, _, _, rfl, rfl, SqT.of h1, (atI_nat (j := 1) rfl), la, rfl, ⟨_, SqL.of h2⟩, fun D hD => ?_⟩
      refine lc_fn walk_list (H1 := H) hD (by rw [lv]; exact small16 (by omega)) (fun i => V.int ((cs[i]?.map Tp.size).getD 0 : Nat)) (fun H' s' => SqL.of (s' _ _ h2)) ?_ ?_
      · rintro i x H1 H2 R hi s1 ⟨rfl, hx⟩ hR
        obtain ⟨tc, hc, kc⟩ := h3.get hx
        have hmem : tc ∈ cs := List.mem_of_getElem? hc
        have hdc := dep_mem hmem
        have hsc := size_mem hmem
        refine ⟨rfl, _, rfl, tc, x, rfl, kc.any.same s1, by omega, by omega, fun H3 s3 => ?_⟩
        have e := hR H3 s3
        rw [hc] at e
        exact e
      · intro H1 s1 hY
        refine ⟨D, (List.range ws.length).map (fun i => (((cs[i]?.map Tp.size).getD 0 : Nat) : Int)), rfl, SqL.of (by rw [hY, List.map_map]; rfl), _, _, rfl, rfl, ?_⟩
        have e := q H1 s1
        rw [Tp.size] at e
        have z : (1 : Int) + ((List.range ws.length).map (fun i => (((cs[i]?.map Tp.size).getD 0 : Nat) : Int))).sum = ((1 + Tp.sizeL cs : Nat) : Int) := by
          rw [lv, sum_sizes cs]
          omega
        rw [← z] at e
        exact e
theorem ok_LS {f : Addr} {fd : FuncData} (F : Fun K "_law_size" "_law_size" sSize f fd) (X : Txt mg) (mf : mg "_law_size" = some (.ref f)) (bf : Binds K fd ["_law_tree_here"] []) : ∀ n : Nat, FnOk P w K mg base CX0 n f fd ["_law_tree_here"] (spLS n)
  | 0 => fn_never fun vs H Q E ⟨t, v, _, _, h, _⟩ => absurd h (Nat.not_lt_zero _)
  | n + 1 => ok_LS1 F X mf bf (ok_LS F X mf bf n)
theorem scRef : FnScope ["_law_tree_here", "e"] ["_law_tree_here"] (defScope sRefused) := ⟨rfl, rfl, rfl, by decide +kernel, rfl, by decide +kernel, by decide +kernel⟩
theorem ok_refused {f fR : Addr} {fd fdR : FuncData} (F : Fun K "_law_refused" "_law_refused" sRefused f fd) (Xe : Xt K mg CI) (GR : FnOk P w K mg base (L2.CX P w) 11 fR fdR ["tree"] (spRows Pt CI CR)) (bR : Binds K fdR ["tree"] []) (kR : PySem.W.keepIn K (.ref fR) = true) (mR : mg "rows_of" = some (.ref fR)) :
    FnOk P w K mg base CX0 12 f fd ["_law_tree_here"] (spRefused Pt) := by
  refine F.ok scRef (fun vs H Q E h => ?_) (fun cdv A outer s H vs Q E hr h => ?_)
  · obtain ⟨t, v, rfl, _⟩ := h
    rfl
  · obtain ⟨t, v, rfl, hT, hlen, hsz, hdp, hnm, hno, hTab, q⟩ := h
    refine ⟨_, pss_cons (ps_try_as (i := 1) (c := .ref CI) (tb := fun W => tDrop (tCallS (spRows Pt CI CR) (WE W) (tCons (tVar 0) tNil))) (ts := fun _ _ _ => tRet (tC (.bl true))) (Wout := fun _ _ _ _ => False) rfl rfl scRef.nd rfl rfl ⟨rfl, by decide, Or.inl Xe.gC⟩ takes0
          (fun W pn xe tk _ => pss_one (ps_expr (by exact (pe_callS GR hr rfl mR kR bR (fun σ => passAt tk σ) (pa_cons (pv 0) pa_nil)))))
          (fun a oe cls d pn hz hf => pss_one (ps_ret pe_bl)))
      (pss_one (ps_ret pe_bl)), ?_⟩
    refine ⟨_, rfl, t, v, rfl, hT, hlen, hsz, hdp, hnm, hTab, fun y => (by rw [hno] at y; cases y), fun _ H' x T' => ?_⟩
    refine ⟨true, Xe.eC, fun _ a ha => q H' x T', fun z => by cases z⟩
end
end Tk

/-! k27: the plain law: equal rows, equal trees. -/
namespace Tk
open PySem PySem.Spec PyProof.Rows L2
open Tp (Tree Nd Srt)
/-! ### sorted names are one -/
def leC (a b : List Nat) : Prop := ltCps b a = false
theorem leC_trans : ∀ {a b c : List Nat}, leC a b → leC b c → leC a c
  | [], _, [], _, _ => rfl
  | [], _, _ :: _, _, _ => rfl
  | _ :: _, [], _, h, _ => by cases h
  | _ :: _, _ :: _, [], _, h => by cases h
  | a :: r, b :: t, c :: u, h1, h2 => by
    unfold leC at *
    rw [ltCps, Bool.or_eq_false_iff, decide_eq_false_iff_not] at *
    refine ⟨by omega, ?_⟩
    by_cases e : c = a
    · have e1 : b = a := by omega
      have e2 : c = b := by omega
      have k1 := h1.2
      have k2 := h2.2
      rw [e1, beq_self_eq_true, Bool.true_and] at k1
      rw [e2, beq_self_eq_true, Bool.true_and] at k2
      rw [e, beq_self_eq_true, Bool.true_and]
      exact leC_trans (a := r) (b := t) (c := u) k1 k2
    · rw [beq_eq_false_iff_ne.mpr e, Bool.false_and]
theorem leC_anti : ∀ {a b : List Nat}, leC a b → leC b a → a = b
  | [], [], _, _ => rfl
  | [], _ :: _, _, h => by cases h
  | _ :: _, [], h, _ => by cases h
  | a :: r, b :: t, h1, h2 => by
    unfold leC at *
    rw [ltCps, Bool.or_eq_false_iff, decide_eq_false_iff_not] at *
    have e : a = b := by omega
    subst e
    have k1 := h1.2
    have k2 := h2.2
    rw [beq_self_eq_true, Bool.true_and] at k1 k2
    rw [leC_anti (a := r) (b := t) k1 k2]
def leS (a b : Str) : Prop := leC a.cps.toList b.cps.toList
theorem leS_anti {a b : Str} (h : leS a b) (k : leS b a) : a = b := by
  have e := leC_anti h k
  cases a with
  | mk x =>
    cases b with
    | mk y =>
      congr 1
      exact Array.toList_inj.mp e
theorem rising_pair : ∀ {p : Str} {l : List Str}, risingS p l = true → (p :: l).Pairwise leS
  | p, [], _ => List.pairwise_singleton _ _
  | p, x :: r, h => by
    rw [risingS, Bool.and_eq_true, Bool.not_eq_true'] at h
    have ih := rising_pair h.2
    refine List.pairwise_cons.mpr ⟨fun y hy => ?_, ih⟩
    rcases List.mem_cons.mp hy with e | hy
    · rw [e]; exact h.1
    · exact leC_trans (show leC p.cps.toList x.cps.toList from h.1) ((List.pairwise_cons.mp ih).1 y hy)
theorem sorted_pair {l : List Str} (h : sortedS l = true) : l.Pairwise leS := by
  cases l with
  | nil => exact .nil
  | cons p r => exact rising_pair h
theorem perm_one {α : Type} {le : α → α → Prop} (anti : ∀ a b, le a b → le b a → a = b) : ∀ {m n : List α}, m.Perm n → m.Pairwise le → n.Pairwise le → m = n
  | [], n, p, _, _ => p.nil_eq
  | a :: m, [], p, _, _ => by
    have := p.length_eq
    simp at this
  | a :: m, b :: n, p, h1, h2 => by
    have e : a = b := by
      rcases List.mem_cons.mp (p.mem_iff.mp List.mem_cons_self) with e | ha
      · exact e
      rcases List.mem_cons.mp (p.mem_iff.mpr List.mem_cons_self) with e | hb
      · exact e.symm
      exact anti _ _ ((List.pairwise_cons.mp h1).1 b hb) ((List.pairwise_cons.mp h2).1 a ha)
    subst e
    rw [perm_one anti (List.Perm.cons_inv p) (List.pairwise_cons.mp h1).2 (List.pairwise_cons.mp h2).2]
theorem names_one {l ns ns' : List Str} (p : ns.Perm l) (p' : ns'.Perm l) (h : sortedS ns = true) (h' : sortedS ns' = true) : ns = ns' :=
  perm_one (fun _ _ => leS_anti) (p.trans p'.symm) (sorted_pair h) (sorted_pair h')
/-! ### the tree as data -/
mutual
def dT : T → PyData
  | .text s => .str s
  | .elem n cs => .tuple [.str n, .list (dTs cs)]
def dTs : List T → List PyData
  | [] => []
  | c :: r => dT c :: dTs r
end
mutual
theorem eqv_T : ∀ {a b : T}, PyData.eqv (dT a) (dT b) = true ↔ a = b
  | .text s, .text z => by
    rw [dT, dT]
    show (s == z) = true ↔ _
    rw [beq_iff_eq, Tree.text.injEq]
  | .text s, .elem n cs => by
    rw [dT, dT]
    exact ⟨fun h => (by cases h), fun h => (by cases h)⟩
  | .elem n cs, .text s => by
    rw [dT, dT]
    exact ⟨fun h => (by cases h), fun h => (by cases h)⟩
  | .elem n cs, .elem m ds => by
    rw [dT, dT]
    show ((n == m) && (PyData.eqvAll (dTs cs) (dTs ds) && true)) = true ↔ _
    rw [Bool.and_true, Bool.and_eq_true, beq_iff_eq, eqv_Ts (a := cs) (b := ds), Tree.elem.injEq]
theorem eqv_Ts : ∀ {a b : List T}, PyData.eqvAll (dTs a) (dTs b) = true ↔ a = b
  | [], [] => ⟨fun _ => rfl, fun _ => rfl⟩
  | [], d :: s => by
    rw [dTs, dTs]
    exact ⟨fun h => (by cases h), fun h => (by cases h)⟩
  | c :: r, [] => by
    rw [dTs, dTs]
    exact ⟨fun h => (by cases h), fun h => (by cases h)⟩
  | c :: r, d :: s => by
    rw [dTs, dTs]
    show (PyData.eqv (dT c) (dT d) && PyData.eqvAll (dTs r) (dTs s)) = true ↔ _
    rw [Bool.and_eq_true, eqv_T (a := c) (b := d), eqv_Ts (a := r) (b := s), List.cons.injEq]
end
mutual
theorem dp_T {K : PySem.W.Frag} {F : Addr → Prop} {H : Hp} : ∀ {t : T} {v : V}, TreeIn F H t v → Dp K H v (dT t)
  | .text s, v, h => by
    rw [TreeIn] at h
    rw [dT, h]
    exact .str s
  | .elem n cs, v, h => by
    rw [TreeIn] at h
    obtain ⟨t, l, vs, rfl, _, _, h1, h2, h3⟩ := h
    rw [dT]
    exact .tup (SqT.of h1) (.cons (.str n) (.cons (.lst (SqL.of h2) (dp_Ts h3)) .nil))
theorem dp_Ts {K : PySem.W.Frag} {F : Addr → Prop} {H : Hp} : ∀ {ts : List T} {vs : List V}, TreesIn F H ts vs → DpAll K H vs (dTs ts)
  | [], vs, h => by
    rw [TreesIn] at h
    rw [dTs, h]
    exact .nil
  | c :: r, vs, h => by
    rw [TreesIn] at h
    obtain ⟨v, vs', rfl, h1, h2⟩ := h
    rw [dTs]
    exact .cons (dp_T h1) (dp_Ts h2)
end
mutual
theorem lay_T : ∀ {t : T}, okT 6 t → PyData.canLay0 (dT t) = true ∧ PyData.depth (dT t) ≤ 2 * Tp.dep t
  | .text s, h => by
    rw [okT] at h
    rw [dT, Tp.dep]
    exact ⟨(okTx_ok (by decide) h).2, Nat.le_refl _⟩
  | .elem n cs, h => by
    rw [okT] at h
    obtain ⟨h1, _, h3⟩ := h
    obtain ⟨k1, k2⟩ := lay_Ts h3
    rw [dT, Tp.dep]
    constructor
    · show (PyData.strOk n && (PyData.canLayAll0 (dTs cs) && true)) = true
      rw [(five_ok h1).2.2, k1]
      rfl
    · show max 0 (max (PyData.depthAll (dTs cs) + 1) 0) + 1 ≤ _
      omega
theorem lay_Ts : ∀ {ts : List T}, okL 6 ts → PyData.canLayAll0 (dTs ts) = true ∧ PyData.depthAll (dTs ts) ≤ 2 * Tp.depL ts
  | [], _ => by
    rw [dTs, Tp.depL]
    exact ⟨rfl, Nat.le_refl _⟩
  | c :: r, h => by
    rw [okL] at h
    obtain ⟨k1, k2⟩ := lay_T h.1
    obtain ⟨k3, k4⟩ := lay_Ts h.2
    rw [dTs, Tp.depL]
    constructor
    · show (PyData.canLay0 (dT c) && PyData.canLayAll0 (dTs r)) = true
      rw [k1, k3]
      rfl
    · show max (PyData.depth (dT c)) (PyData.depthAll (dTs r)) ≤ _
      omega
end
theorem shaped_T {t : T} (h : okT 6 t) (d : Tp.dep t ≤ 20) : SeqAt.shaped (dT t) = true := by
  obtain ⟨k1, k2⟩ := lay_T h
  unfold SeqAt.shaped
  rw [k1, Bool.true_and]
  exact decide_eq_true (by omega)
/-! ### the rows as data -/
def txS : T → Str
  | .text s => s
  | .elem _ _ => ⟨#[]⟩
def rdOf (ns : List Str) (S : List (Nd Str)) : RD := (ns, S.map (fun d => Tp.lab (lb ns) d.t), S.map (fun d => b2 d.last), S.map (fun d => b2 (Tp.full d.t)), (S.filter fun d => decide (Tp.lab (lb ns) d.t = 0)).map fun d => txS d.t)
theorem lab_text {ns : List Str} {t : T} (h : Tp.lab (lb ns) t = 0) : ∃ s, t = .text s := by
  cases t with
  | text s => exact ⟨s, rfl⟩
  | elem n cs =>
    have e : lb ns n = 0 := h
    unfold lb at e
    omega
theorem rows_rd {C : Addr} {H : Hp} {r : Addr} {ns : List Str} {S : List (Nd Str)} (h : RowsAt C H r (xNames ns) (xLabs ns S) (xLasts S) (xFulls S) (xTexts ns S)) : RowsD C H r (rdOf ns S) := by
  unfold RowsD rdOf
  have e1 : (S.map (fun d => Tp.lab (lb ns) d.t)).map V.int = xLabs ns S := by unfold xLabs; rw [List.map_map]; rfl
  have e2 : (S.map (fun d => b2 d.last)).map V.int = xLasts S := by unfold xLasts; rw [List.map_map]; rfl
  have e3 : (S.map (fun d => b2 (Tp.full d.t))).map V.int = xFulls S := by unfold xFulls; rw [List.map_map]; rfl
  have e4 : ((S.filter fun d => decide (Tp.lab (lb ns) d.t = 0)).map fun d => txS d.t).map V.str = xTexts ns S := by
    unfold xTexts
    rw [List.map_map]
    refine List.map_congr_left fun d hd => ?_
    obtain ⟨s, e⟩ := lab_text (of_decide_eq_true (List.mem_filter.mp hd).2)
    show V.str (txS d.t) = txV d.t
    rw [e]
    rfl
  rw [e1, e2, e3, e4]
  exact h
mutual
theorem pre_ok {f : Str → Int} {k : Nat} : ∀ {t : T} {p : List Int} {b : Bool} {d : Nd Str}, okT k t → d ∈ Tp.preT f p b t → okT k d.t ∧ ∀ n cs, d.t = .elem n cs → n ∈ names t
  | .text s, p, b, d, h, hd => by
    rw [Tp.preT] at hd
    rw [List.mem_singleton.mp hd]
    exact ⟨h, fun n cs e => by cases e⟩
  | .elem m cs, p, b, d, h, hd => by
    rw [Tp.preT] at hd
    rcases List.mem_cons.mp hd with e | hd
    · rw [e]
      exact ⟨h, fun n ds e => by cases e; exact mem_names.mpr (.inl rfl)⟩
    · rw [okT] at h
      obtain ⟨c, hc, k1, k2⟩ := pre_okL h.2.2 hd
      exact ⟨k1, fun n ds e => mem_names.mpr (.inr ⟨c, hc, k2 n ds e⟩)⟩
theorem pre_okL {f : Str → Int} {k : Nat} : ∀ {ts : List T} {q : List Int} {d : Nd Str}, okL k ts → d ∈ Tp.preL f q ts → ∃ c ∈ ts, okT k d.t ∧ ∀ n cs, d.t = .elem n cs → n ∈ names c
  | [], q, d, h, hd => by
    rw [Tp.preL] at hd
    cases hd
  | c :: r, q, d, h, hd => by
    rw [okL] at h
    rw [Tp.preL] at hd
    rcases List.mem_append.mp hd with hd | hd
    · obtain ⟨k1, k2⟩ := pre_ok h.1 hd
      exact ⟨c, List.mem_cons_self, k1, k2⟩
    · obtain ⟨c', hc, k⟩ := pre_okL h.2 hd
      exact ⟨c', List.mem_cons_of_mem _ hc, k⟩
end
theorem b2_inj {a b : Bool} (h : b2 a = b2 b) : a = b := by
  cases a <;> cases b <;> first | rfl | (exact absurd h (by decide))
theorem map_b2 {α : Type} {f : α → Bool} : ∀ {a b : List α}, a.map (fun x => b2 (f x)) = b.map (fun x => b2 (f x)) → a.map f = b.map f
  | [], [], _ => rfl
  | [], _ :: _, h => by simp at h
  | _ :: _, [], h => by simp at h
  | x :: a, y :: b, h => by
    rw [List.map_cons, List.map_cons] at h ⊢
    rw [b2_inj (List.cons.inj h).1, map_b2 (List.cons.inj h).2]
/-- the facts of a tree's rows -/
structure Rws (t : T) (ns : List Str) (S : List (Nd Str)) : Prop where
  ok : okT 6 t
  el : isStr t = false
  pm : ns.Perm (names t)
  so : sortedS ns = true
  sr : Srt S (Tp.preT (lb ns) [] true t)
theorem Rws.okRD {t : T} {ns : List Str} {S : List (Nd Str)} (h : Rws t ns S) : okRD (rdOf ns S) := by
  constructor
  · intro s hs
    exact (five_ok (ok_names h.ok s (h.pm.mem_iff.mp hs))).2.2
  · intro s hs
    obtain ⟨d, hd, rfl⟩ := List.mem_map.mp hs
    obtain ⟨hd1, hd2⟩ := List.mem_filter.mp hd
    obtain ⟨z, e⟩ := lab_text (of_decide_eq_true hd2)
    have k := (pre_ok h.ok (h.sr.mem.mp hd1)).1
    rw [e, okT] at k
    rw [e]
    exact (okTx_ok (by decide) k).2
theorem Rws.len {t : T} {ns : List Str} {S : List (Nd Str)} (h : Rws t ns S) : S.length = Tp.size t := by
  rw [h.sr.one (srt_sort _), List.length_mergeSort, Tp.preT_size]
/-- the law's heart -/
theorem tells {t t' : T} {ns ns' : List Str} {S S' : List (Nd Str)} (h : Rws t ns S) (h' : Rws t' ns' S') : rdOf ns S = rdOf ns' S' ↔ t = t' := by
  constructor
  · intro e
    unfold rdOf at e
    rw [Prod.mk.injEq, Prod.mk.injEq, Prod.mk.injEq, Prod.mk.injEq] at e
    obtain ⟨e1, e2, e3, e4, e5⟩ := e
    subst e1
    cases t with
    | text z => cases h.el
    | elem n cs =>
      cases t' with
      | text z => cases h'.el
      | elem m ds =>
        have labs : ∀ {u : T} {S : List (Nd Str)}, Rws u ns S → ∀ d ∈ S, Tp.Names ns d.t ∧ Tp.lab (lb ns) d.t ∈ (List.range (ns.length + 1)).map (fun i : Nat => (i : Int)) := by
          intro u S hu d hd
          have k := (pre_ok hu.ok (hu.sr.mem.mp hd)).2
          cases e : d.t with
          | text s =>
            refine ⟨True.intro, List.mem_map.mpr ⟨0, List.mem_range.mpr (Nat.succ_pos _), ?_⟩⟩
            rfl
          | elem n' cs' =>
            have hn : n' ∈ ns := hu.pm.mem_iff.mpr (k n' cs' e)
            have hi := List.idxOf_lt_length_iff.mpr hn
            refine ⟨hn, List.mem_map.mpr ⟨1 + ns.idxOf n', List.mem_range.mpr (by omega), ?_⟩⟩
            show ((1 + ns.idxOf n' : Nat) : Int) = lb ns n'
            unfold lb
            omega
        refine Tp.rows_tell (f := lb ns) (ns := ns) (cs := (List.range (ns.length + 1)).map (fun i : Nat => (i : Int))) ?_ h.sr h'.sr ?_ (fun d hd => (labs h d hd).2) (fun d hd => (labs h' d hd).2) (fun d hd => (labs h d hd).1) (fun d hd => (labs h' d hd).1) ⟨e2, map_b2 e3, map_b2 e4, ?_⟩
        · intro a ha b hb e
          unfold lb at e
          have e' : ns.idxOf a = ns.idxOf b := by omega
          have k1 := idx_at ha
          rw [e', idx_at hb] at k1
          exact (Option.some.inj k1).symm
        · rw [List.pairwise_map]
          exact List.pairwise_lt_range.imp (fun h => by omega)
        · have tx : ∀ {S : List (Nd Str)}, (S.filter fun d => decide (Tp.lab (lb ns) d.t = 0)).map (fun d => Tp.txt d.t) = ((S.filter fun d => decide (Tp.lab (lb ns) d.t = 0)).map fun d => txS d.t).map some := by
            intro S
            rw [List.map_map]
            refine List.map_congr_left fun d hd => ?_
            obtain ⟨z, e⟩ := lab_text (of_decide_eq_true (List.mem_filter.mp hd).2)
            show Tp.txt d.t = some (txS d.t)
            rw [e]
            rfl
          rw [tx, tx, e5]
  · intro e
    subst e
    have e1 := names_one h.pm h'.pm h.so h'.so
    subst e1
    rw [h.sr.one h'.sr]
end Tk

/-! k27: the law. -/
namespace Tk
open PySem PySem.Spec PyProof.Rows L2
open Tp (Tree Nd Srt)
open LamX (Tabs TabB ExtN TabS)
/-! ### the bad trees -/
def bads : List T := [.elem "A" [], .elem "a" [.text "x", .text "y"], .elem "a" [.text ""], .text "x", .elem "a" [.elem "" []], .elem "a" [.text "\t"], .elem "a" [.elem "abcdefghijklm" []]]
structure BadT (t : T) : Prop where
  doc : isDoc t = false
  len : lenOk t
  sz : Tp.size t ≤ 900
  dp : Tp.dep t < 10
  nm : (names t).length < 64
mutual
def lenB : T → Bool
  | .text s => decide (s.length ≤ 1000)
  | .elem n cs => decide (n.length ≤ 1000) && lenBL cs
def lenBL : List T → Bool
  | [] => true
  | c :: r => lenB c && lenBL r
end
mutual
theorem len_of : ∀ {t : T}, lenB t = true → lenOk t
  | .text s, h => by
    rw [lenB] at h
    rw [lenOk]
    exact of_decide_eq_true h
  | .elem n cs, h => by
    rw [lenB, Bool.and_eq_true] at h
    rw [lenOk]
    exact ⟨of_decide_eq_true h.1, len_ofL h.2⟩
theorem len_ofL : ∀ {ts : List T}, lenBL ts = true → lenOkL ts
  | [], _ => by rw [lenOkL]; exact True.intro
  | c :: r, h => by
    rw [lenBL, Bool.and_eq_true] at h
    rw [lenOkL]
    exact ⟨len_of h.1, len_ofL h.2⟩
end
def badB (t : T) : Bool := !isDoc t && lenB t && decide (Tp.size t ≤ 900) && decide (Tp.dep t < 10) && decide ((names t).length < 64)
theorem badT_of {t : T} (h : badB t = true) : BadT t := by
  unfold badB at h
  rw [Bool.and_eq_true, Bool.and_eq_true, Bool.and_eq_true, Bool.and_eq_true, Bool.not_eq_true'] at h
  exact ⟨h.1.1.1.1, len_of h.1.1.1.2, of_decide_eq_true h.1.1.2, of_decide_eq_true h.1.2, of_decide_eq_true h.2⟩
theorem bads_all : bads.all badB = true := by decide +kernel
theorem bads_ok {t : T} (h : t ∈ bads) : BadT t := badT_of (List.all_eq_true.mp bads_all t h)
theorem tabs_but {T' : List (Addr × Str)} {H H' : Hp} {d : Addr} {xs : List V} (h : Tabs T' H) (hd : H d = some (.lst xs)) (b : But d H H') : Tabs T' H' := by
  intro p hp
  obtain ⟨ps, e, k1, k2⟩ := h p hp
  have n : p.1 ≠ d := fun z => by rw [z, hd] at e; cases e
  refine ⟨ps, b _ _ n e, k1, fun pos cv hc => ?_⟩
  obtain ⟨c, ec, hc2⟩ := k2 pos cv hc
  exact ⟨c, ec, b _ _ (fun z => by rw [z, hd] at hc2; cases hc2) hc2⟩
/-- a tree of a new list, off d -/
theorem el_off {G : Hp} {d l t : Addr} {n : Str} {cs : List T} {vs : List V} {od : HO} (hd : G d = some od) (hl : G l = some (.lst vs)) (nl : l ≠ d) (c : TreesIn (Off d) G cs vs) (ht : G t = none) :
    TreeIn (Off d) (upd G t (.tup [.str n, .ref l])) (.elem n cs) (.ref t) := by
  rw [TreeIn]
  have s := same_new ht (HO.tup [.str n, .ref l])
  exact ⟨t, l, vs, rfl, (fun z => by rw [z, hd] at ht; cases ht), nl, upd_same, s _ _ hl, c.same s⟩
theorem nd_of {G : Hp} {d p : Addr} {od : HO} (hd : G d = some od) (hp : G p = none) : p ≠ d := fun z => by rw [z, hd] at hp; cases hp
theorem sub_one {F : Addr → Prop} {G : Hp} {c : T} {v : V} {ts : List T} {vs : List V} (h : TreeIn F G c v) (k : TreesIn F G ts vs) : TreesIn F G (c :: ts) (v :: vs) := by
  rw [TreesIn]
  exact ⟨v, vs, rfl, h, k⟩
theorem tx_in {F : Addr → Prop} {G : Hp} {s : Str} : TreeIn F G (.text s) (.str s) := by rw [TreeIn]
theorem at_ext {F : Addr → Prop} {H H' : Hp} (x : ExtN H H') {t : T} {v : V} (h : TreeIn F H t v) : TreeIn F H' t v :=
  h.mono (fun b o _ e ⟨xs, hx⟩ => x b o e fun ps z => by rcases hx with hx | hx <;> (rw [hx] at z; cases z)) fun _ _ f _ => f
/-- a small right document -/
structure Doc (t : T) : Prop where
  ok : okT 6 t
  el : isStr t = false
  sz : Tp.size t ≤ 200
  dp : Tp.dep t ≤ 6
theorem Doc.isDoc {t : T} (h : Doc t) : isDoc t = true := by
  unfold Tk.isDoc
  rw [h.el, (ok_good h.ok).1]
  rfl
def spLaw (K : PySem.W.Frag) (Pt : Addr) : Sp := fun vs H Q _ => ∃ (a : Addr) (xs : List Int), vs = [.ref a] ∧ SqL K H a (xs.map V.int) ∧ Tabs (tabT Pt) H ∧ ∀ H', Q (.bl true) H'
def LwA (Pt a : Addr) (σ : L2.St) (G : Hp) : Prop := ∃ (sx d : Addr) (v1 v2 : V) (t1 t2 : T), σ = [some (.ref a), some (.ref d), some v1, some v2, none, none] ∧ DeckAt G sx d ∧ At G t1 v1 ∧ At G t2 v2 ∧ Doc t1 ∧ Doc t2 ∧ Tabs (tabT Pt) G
def LwB (Pt a : Addr) (σ : L2.St) (G : Hp) : Prop := ∃ (sx d : Addr) (v1 v2 v3 : V), σ = [some (.ref a), some (.ref d), some v1, some v2, some v3, none] ∧ DeckAt G sx d ∧ Tabs (tabT Pt) G
section
variable {P : Program} {w : World} {K : PySem.W.Frag} {mg : Str → Option Value} {base : Heap} {CI CR fI Pt : Addr}
theorem scLaw : FnScope ["_law_script", "_law_deck_here", "_law_first", "_law_second", "_law_rows", "_law_bad"] ["_law_script"] (defScope sLaw) := ⟨rfl, rfl, rfl, by decide +kernel, rfl, by decide +kernel, by decide +kernel⟩
theorem ok_law {f : Addr} {fd : FuncData} (F : Fun K "law" "law" sLaw f fd) (X : Txt mg) (Tr : Rt K mg CR fI)
    (Dk : Has P w K mg base CX0 1 "_law_deck" ["_law_script"] (spDeck K)) (Dr : Has P w K mg base CX0 1 "_law_draw" ["_law_deck_here", "_law_most"] spDraw)
    (Ld : Has P w K mg base CX0 7 "_law_document" ["_law_deck_here"] spLD) (Lc : Has P w K mg base CX0 6 "_law_changed" ["_law_deck_here", "_law_tree_here"] (spLC 6))
    (Rw : Has P w K mg base (L2.CX P w) 11 "rows_of" ["tree"] (spRows Pt CI CR)) (Sm : Has P w K mg base CX0 1 "_law_same" ["_law_actual", "_law_due"] spSame) (Sr : Has P w K mg base CX0 2 "same_rows" ["rows", "other"] (spSR CR))
    (Ls : Has P w K mg base CX0 8 "_law_size" ["_law_tree_here"] (spLS 8)) (Rf : Has P w K mg base CX0 12 "_law_refused" ["_law_tree_here"] (spRefused Pt)) :
    FnOk P w K mg base CX0 13 f fd ["_law_script"] (spLaw K Pt) := by
  obtain ⟨fK, fdK, GK, bK, kK, mK⟩ := Dk
  obtain ⟨fD, fdD, GD, bD, kD, mD⟩ := Dr
  obtain ⟨fL, fdL, GL, bL, kL, mL⟩ := Ld
  obtain ⟨fC, fdC, GC, bC, kC, mC⟩ := Lc
  obtain ⟨fR, fdR, GR, bR, kR, mR⟩ := Rw
  obtain ⟨fM, fdM, GM, bM, kM, mM⟩ := Sm
  obtain ⟨fS, fdS, GS, bS, kS, mS⟩ := Sr
  obtain ⟨fZ, fdZ, GZ, bZ, kZ, mZ⟩ := Ls
  obtain ⟨fF, fdF, GF, bF, kF, mF⟩ := Rf
  refine F.ok scLaw (fun vs H Q E h => ?_) (fun cdv A outer s H vs Q E hr h => ?_)
  · obtain ⟨a, xs, rfl, _⟩ := h
    rfl
  · obtain ⟨a, xs, rfl, ha, hTab, q⟩ := h
    have hr1 : Room 1 _ := hr.mono (by decide)
    have hr2 : Room 2 _ := hr.mono (by decide)
    have hr6 : Room 6 _ := hr.mono (by decide)
    have hr7 : Room 7 _ := hr.mono (by decide)
    have hr8 : Room 8 _ := hr.mono (by decide)
    have hr11 : Room 11 _ := hr.mono (by decide)
    have big : 2000 ≤ sizeLine := by decide
    refine two 6 (LwB Pt a) ?_ fun uB huB puB => two 4 (LwA Pt a) ?_ fun uA huA puA => ?_
    · -- the bad trees
      refine ⟨_, pss_cons (ps_set (i := 5) scLaw.nd rfl (Or.inl rfl) (pe_lst
          (pa_cons (pe_tup (pa_cons pe_str (pa_cons (pe_lst pa_nil) pa_nil)))
          (pa_cons (pe_tup (pa_cons pe_str (pa_cons (pe_lst (pa_cons pe_str (pa_cons pe_str pa_nil))) pa_nil)))
          (pa_cons (pe_tup (pa_cons pe_str (pa_cons (pe_lst (pa_cons pe_str pa_nil)) pa_nil)))
          (pa_cons pe_str
          (pa_cons (pe_tup (pa_cons pe_str (pa_cons (pe_lst (pa_cons (pe_tup (pa_cons pe_str (pa_cons (pe_lst pa_nil) pa_nil))) pa_nil)) pa_nil)))
          (pa_cons (pe_tup (pa_cons pe_str (pa_cons (pe_lst (pa_cons pe_str pa_nil)) pa_nil)))
          (pa_cons (pe_tup (pa_cons pe_str (pa_cons (pe_lst (pa_cons (pe_tup (pa_cons pe_str (pa_cons (pe_lst pa_nil) pa_nil))) pa_nil)) pa_nil))) pa_nil)))))))))
        (pss_one (ps_ret (pe_call GF hr rfl mF kF bF .nil pass0 (pa_cons (pe_ix (show IxR _ (rIxL K) from ix_list) (pv 5) (pe_call GD hr1 rfl mD kD bD .nil pass0 (pa_cons (pv 1) (pa_cons (pe_callB call_len_seq rfl X.len PySem.boot_len (pa_cons (pv 5) pa_nil)) pa_nil))) (fun _ _ => rfl)) pa_nil)))), ?_⟩
      rintro σ G ⟨sx, d, v1, v2, v3, rfl, dk, hT⟩
      obtain ⟨ys, i, r, st, hd, hs, nsd⟩ := dk
      have dk : DeckAt G sx d := ⟨ys, i, r, st, hd, hs, nsd⟩
      have z : ∀ n : Nat, n ≤ 7 → n ≤ sizeLine := fun n h => by omega
      refine ⟨z 0 (by decide), fun l1 hl1 => ⟨z 2 (by decide), fun t1 ht1 => ⟨z 2 (by decide), fun l2 hl2 => ⟨z 2 (by decide), fun t2 ht2 => ⟨z 1 (by decide), fun l3 hl3 => ⟨z 2 (by decide), fun t3 ht3 => ⟨z 0 (by decide), fun l4 hl4 => ⟨z 2 (by decide), fun t4 ht4 => ⟨z 1 (by decide), fun l5 hl5 => ⟨z 2 (by decide), fun t5 ht5 => ⟨z 1 (by decide), fun l6 hl6 => ⟨z 2 (by decide), fun t6 ht6 => ⟨z 0 (by decide), fun l7 hl7 => ⟨z 2 (by decide), fun t7 ht7 => ⟨z 1 (by decide), fun l8 hl8 => ⟨z 2 (by decide), fun t8 ht8 => ⟨z 7 (by decide), fun p hp => ?_⟩⟩⟩⟩⟩⟩⟩⟩⟩⟩⟩⟩⟩⟩⟩⟩⟩
      have w_l1 := same_new hl1 (HO.lst [])
      have d_l1 := w_l1 _ _ hd
      have at1 := el_off d_l1 upd_same (nd_of hd hl1) TreesIn.nil ht1 (n := "A") (cs := [])
      have w_t1 := same_new ht1 (HO.tup [.str "A", .ref l1])
      have d_t1 := w_t1 _ _ d_l1
      have w_l2 := same_new hl2 (HO.lst [.str "x", .str "y"])
      have d_l2 := w_l2 _ _ d_t1
      have at2 := el_off d_l2 upd_same (nd_of d_t1 hl2) (sub_one tx_in (sub_one tx_in TreesIn.nil)) ht2 (n := "a") (cs := [.text "x", .text "y"])
      have w_t2 := same_new ht2 (HO.tup [.str "a", .ref l2])
      have d_t2 := w_t2 _ _ d_l2
      have w_l3 := same_new hl3 (HO.lst [.str ""])
      have d_l3 := w_l3 _ _ d_t2
      have at3 := el_off d_l3 upd_same (nd_of d_t2 hl3) (sub_one tx_in TreesIn.nil) ht3 (n := "a") (cs := [.text ""])
      have w_t3 := same_new ht3 (HO.tup [.str "a", .ref l3])
      have d_t3 := w_t3 _ _ d_l3
      have w_l4 := same_new hl4 (HO.lst [])
      have d_l4 := w_l4 _ _ d_t3
      have at4 := el_off d_l4 upd_same (nd_of d_t3 hl4) TreesIn.nil ht4 (n := "") (cs := [])
      have w_t4 := same_new ht4 (HO.tup [.str "", .ref l4])
      have d_t4 := w_t4 _ _ d_l4
      have w_l5 := same_new hl5 (HO.lst [.ref t4])
      have d_l5 := w_l5 _ _ d_t4
      have at5 := el_off d_l5 upd_same (nd_of d_t4 hl5) (sub_one (at4.same w_l5) TreesIn.nil) ht5 (n := "a") (cs := [.elem "" []])
      have w_t5 := same_new ht5 (HO.tup [.str "a", .ref l5])
      have d_t5 := w_t5 _ _ d_l5
      have w_l6 := same_new hl6 (HO.lst [.str "\t"])
      have d_l6 := w_l6 _ _ d_t5
      have at6 := el_off d_l6 upd_same (nd_of d_t5 hl6) (sub_one tx_in TreesIn.nil) ht6 (n := "a") (cs := [.text "\t"])
      have w_t6 := same_new ht6 (HO.tup [.str "a", .ref l6])
      have d_t6 := w_t6 _ _ d_l6
      have w_l7 := same_new hl7 (HO.lst [])
      have d_l7 := w_l7 _ _ d_t6
      have at7 := el_off d_l7 upd_same (nd_of d_t6 hl7) TreesIn.nil ht7 (n := "abcdefghijklm") (cs := [])
      have w_t7 := same_new ht7 (HO.tup [.str "abcdefghijklm", .ref l7])
      have d_t7 := w_t7 _ _ d_l7
      have w_l8 := same_new hl8 (HO.lst [.ref t7])
      have d_l8 := w_l8 _ _ d_t7
      have at8 := el_off d_l8 upd_same (nd_of d_t7 hl8) (sub_one (at7.same w_l8) TreesIn.nil) ht8 (n := "a") (cs := [.elem "abcdefghijklm" []])
      have w_t8 := same_new ht8 (HO.tup [.str "a", .ref l8])
      have d_t8 := w_t8 _ _ d_l8
      have w_p := same_new hp (HO.lst [.ref t1, .ref t2, .ref t3, .str "x", .ref t5, .ref t6, .ref t8])
      have d_p := w_p _ _ d_t8
      have u_t8 := w_p
      have u_l8 := Same.trans w_t8 u_t8
      have u_t7 := Same.trans w_l8 u_l8
      have u_l7 := Same.trans w_t7 u_t7
      have u_t6 := Same.trans w_l7 u_l7
      have u_l6 := Same.trans w_t6 u_t6
      have u_t5 := Same.trans w_l6 u_l6
      have u_l5 := Same.trans w_t5 u_t5
      have u_t4 := Same.trans w_l5 u_l5
      have u_l4 := Same.trans w_t4 u_t4
      have u_t3 := Same.trans w_l4 u_l4
      have u_l3 := Same.trans w_t3 u_t3
      have u_t2 := Same.trans w_l3 u_l3
      have u_l2 := Same.trans w_t2 u_t2
      have u_t1 := Same.trans w_l2 u_l2
      have u_l1 := Same.trans w_t1 u_t1
      have u_0 := Same.trans w_l1 u_l1
      have np : p ≠ d := nd_of d_t8 hp
      have all := sub_one (at1.same u_t1) (sub_one (at2.same u_t2) (sub_one (at3.same u_t3) (sub_one (c := .text "x") tx_in (sub_one (at5.same u_t5) (sub_one (at6.same u_t6) (sub_one (at8.same u_t8) TreesIn.nil))))))
      refine ⟨_, rfl, _, rfl, _, rfl, p, _, rfl, .inl (SqL.of upd_same), sx, d, _, rfl, dk.same' u_0, (show (0 : Int) < 7 by decide), (show (7 : Int) < 1073741824 by decide), fun k H2 hk b2 dk2 => ?_⟩
      have hk7 : k < 7 := Int.ofNat_lt.mp hk
      obtain ⟨x, hx⟩ : ∃ x, [V.ref t1, V.ref t2, V.ref t3, V.str "x", V.ref t5, V.ref t6, V.ref t8][k]? = some x := ⟨_, List.getElem?_eq_getElem hk7⟩
      obtain ⟨tb, hb, kb⟩ := all.get hx
      have B := bads_ok (t := tb) (List.mem_of_getElem? hb)
      exact ⟨p, _, _, _, rfl, rfl, SqL.of (b2 _ _ np upd_same), atI_nat hx, tb, x, rfl, (kb.but b2).any, B.len, B.sz, B.dp, B.nm, B.doc, tabs_but (hT.ext u_0) d_p b2, fun H' _ _ => q H'⟩
    · refine ⟨_, pss_cons (ps_set (i := 4) scLaw.nd rfl (Or.inl rfl) (pe_call GR hr11 rfl mR kR bR .nil passL (pa_cons (pv 2) pa_nil)))
        (pss_cons (ps_if (PW.pt (pw_or (pt_not (pt_val (pe_call GM hr1 rfl mM kM bM .nil pass0 (pa_cons
              (pe_call GS hr2 rfl mS kS bS .nil pass0 (pa_cons (pv 4) (pa_cons (pe_call GR hr11 rfl mR kR bR .nil passL (pa_cons (pv 3) pa_nil)) pa_nil)))
              (pa_cons (pe_cmpR (op_eqD hr.units) (pv 2) (pv 3) (nomark _)) pa_nil)))))
            (pw_or1 (pt_cmpR op_ne (pe_callB call_len_seq rfl X.len PySem.boot_len (pa_cons (pe_fld (pv 4) rfl) pa_nil)) (pe_call GZ hr8 rfl mZ kZ bZ .nil pass0 (pa_cons (pv 2) pa_nil)) (nomark _)))))
          (pss_one (ps_ret pe_bl)) pss_nil) huB), ?_⟩
      rintro σ G ⟨sx, d, v1, v2, t1, t2, rfl, dk, h1, h2, D1, D2, hT⟩
      have few : ∀ {t : T}, Doc t → (names t).length < 64 := fun D => by
        have := ok_few D.ok
        omega
      have z1 := D1.sz
      have z2 := D1.dp
      have z3 := D2.sz
      have z4 := D2.dp
      refine ⟨_, rfl, t1, v1, rfl, h1, (ok_good D1.ok).2, by omega, by omega, few D1, hT, fun _ r1 G1 ns S x1 T1 pm so sr RA => ?_, fun y => by rw [D1.isDoc] at y; cases y⟩
      have R1 : Rws t1 ns S := ⟨D1.ok, D1.el, pm, so, sr⟩
      refine ⟨_, rfl, _, rfl, t2, v2, rfl, at_ext x1 h2, (ok_good D2.ok).2, by omega, by omega, few D2, T1, fun _ r2 G2 ns' S' x2 T2 pm' so' sr' RA' => ?_, fun y => by rw [D2.isDoc] at y; cases y⟩
      have R2 : Rws t2 ns' S' := ⟨D2.ok, D2.el, pm', so', sr'⟩
      have RB := RowsAt.same RA x2
      refine ⟨r1, r2, rdOf ns S, rdOf ns' S', rfl, rows_rd RB, rows_rd RA', R1.okRD, R2.okRD, fun G3 s3 => ?_⟩
      have x3 : ExtN G G3 := (x1.trans x2).trans (ExtN.of s3)
      have h13 := at_ext x3 h1
      have h23 := at_ext x3 h2
      refine ⟨_, rfl, _, rfl, dT t1, dT t2, dp_T h13, dp_T h23, shaped_T D1.ok (by omega), shaped_T D2.ok (by omega), _, _, rfl, _, rfl, ?_⟩
      have e : decide (decide (rdOf ns S = rdOf ns' S') = PyData.eqv (dT t1) (dT t2)) = true := by
        refine decide_eq_true ?_
        rw [Bool.eq_iff_iff, decide_eq_true_iff, eqv_T]
        exact tells R1 R2
      refine ite2 (fun y => absurd y (by rw [e]; decide)) (fun _ => ?_)
      obtain ⟨dx, a1, b1, c1, d1, e1, k0, _, k2, _⟩ := RowsAt.same RB (ExtN.of s3)
      refine ⟨_, rfl, r1, _, dx, _, _, rfl, k0, Tr.cl, Tr.n2, rF_labels .., b1, _, rfl, .inl (SqL.of k2), _, rfl, t1, v1, rfl, h13, by omega, by omega, fun G4 s4 => ⟨rfl, _, rfl, ?_⟩⟩
      have el : (xLabs ns S).length = Tp.size t1 := by
        unfold xLabs
        rw [List.length_map]
        exact R1.len
      rw [el]
      refine ite2 (fun y => absurd y (by rw [decide_eq_true rfl]; decide)) (fun _ => ?_)
      refine puB _ _ ⟨sx, d, v1, v2, _, rfl, ?_, (T2.ext s3).ext s4⟩
      exact dk.same fun b o e ⟨xs, hx⟩ => s4 _ _ (x3 b o e fun ps z => by rw [hx] at z; cases z)
    · refine ⟨_, pss_cons (ps_set (i := 1) scLaw.nd rfl (Or.inl rfl) (pe_call GK hr1 rfl mK kK bK .nil pass0 (pa_cons (pv 0) pa_nil)))
        (pss_cons (ps_set (i := 2) scLaw.nd rfl (Or.inl rfl) (pe_call GL hr7 rfl mL kL bL .nil pass0 (pa_cons (pv 1) pa_nil)))
        (pss_cons (ps_set (i := 3) scLaw.nd rfl (Or.inl rfl) (pe_call GC hr6 rfl mC kC bC .nil pass0 (pa_cons (pv 1) (pa_cons (pv 2) pa_nil))))
        (pss_cons (ps_if (pt_cmpR op_eq (pe_call GD hr1 rfl mD kD bD .nil pass0 (pa_cons (pv 1) (pa_cons pe_int pa_nil))) pe_int (nomark _))
          (pss_one (ps_set (i := 3) scLaw.nd rfl (Or.inl rfl) (pe_call GL hr7 rfl mL kL bL .nil pass0 (pa_cons (pv 1) pa_nil)))) pss_nil) huA))), ?_⟩
      refine ⟨_, rfl, a, xs, rfl, ha, fun sx d H1 s1 dk1 => ?_⟩
      have T1 := hTab.ext s1
      obtain ⟨ys, i, r, st, hd1, _⟩ := id dk1
      refine ⟨_, rfl, sx, d, rfl, dk1, fun t1 v1 H2 b2 dk2 ht1 ok1 el1 sz1 dp1 => ?_⟩
      have T2 := tabs_but T1 hd1 b2
      obtain ⟨ys2, i2, r2, st2, hd2, _⟩ := id dk2
      have ht1' : TreeIn (Off d) H2 t1 v1 := ht1.mono (fun _ _ _ e _ => e) fun b o f e => nd_of hd1 f
      have D1 : Doc t1 := ⟨okT_mono (by decide) ok1, el1, by omega, by omega⟩
      refine ⟨_, rfl, _, rfl, sx, d, t1, v1, rfl, dk2, ht1', ok1, el1, by omega, by omega, fun t2 v2 H3 b3 dk3 ht2 nr => ?_⟩
      have T3 := tabs_but T2 hd2 b3
      obtain ⟨ys3, i3, r3, st3, hd3, _⟩ := id dk3
      have ht3 := ht1'.but b3
      have n3 := nr.sz
      have n4 := nr.dp
      have D2 : Doc t2 := ⟨nr.ok, nr.el, by omega, by omega⟩
      refine ⟨_, rfl, sx, d, 4, rfl, dk3, by decide, by decide, fun k H4 hk b4 dk4 => ⟨rfl, _, rfl, ?_⟩⟩
      have T4 := tabs_but T3 hd3 b4
      have ht4 := ht3.but b4
      obtain ⟨ys4, i4, r4, st4, hd4, _⟩ := id dk4
      refine ite2 (fun _ => ?_) (fun _ => puA _ _ ⟨sx, d, v1, v2, t1, t2, rfl, dk4, ht4.any, (ht2.but b4).any, D1, D2, T4⟩)
      refine ⟨_, rfl, sx, d, rfl, dk4, fun t5 v5 H5 b5 dk5 ht5 ok5 el5 sz5 dp5 => ?_⟩
      exact puA _ _ ⟨sx, d, v1, v5, t1, t5, rfl, dk5, (ht4.but b5).any, ht5.any, D1, ⟨okT_mono (by decide) ok5, el5, by omega, by omega⟩, tabs_but T4 hd4 b5⟩
end
end Tk

/-! k27: what the top has written; the end. -/
namespace Tk
open PySem PySem.Spec PyProof.Rows L2
open LamX (Tabs TabB ExtN TabS LawAtS law_callTs)
/-- a class of exceptions meets itself in a clause -/
theorem exm_self {K : PySem.W.Frag} {C : Addr} (b : PySem.W.subIn K (.ref C) (.type "BaseException") = some true) (i : PySem.W.isClsIn K C = true) (t : PySem.W.typeIn K (.ref C) = some (.type "type")) (q : PySem.W.subIn K (.ref C) (.ref C) = some true) : PySem.W.exmOne K (.ref C) (.ref C) = some true := by
  have i' : (PySem.W.clsIn K C).isSome = true := i
  have z : ∀ (x : Option Bool) (y : Bool) (u : Option Value), x = some true → y = true → u = some (.type "type") → (if (x == some true) = true then (if (y && u == some (.type "type")) = true then PySem.W.subIn K (.ref C) (.ref C) else none) else none) = some true := by
    intro x y u hx hy hu
    subst hx hy hu
    exact (if_pos rfl).trans ((if_pos rfl).trans q)
  exact z _ _ _ b i' t
theorem walk_tab {l : PySem.W.OpenLaw} {n k : Nat} {q : Program} {loose : List Str} {XP : (Str → Option Value) → Heap → Prop} {YP : World → Heap → Prop} {d : DefRec} {K : Params → PySem.W.Frag} {CX : World → CXT} {x : Str}
    (hn : l.most = some n) (hn2 : n ≤ sizeLine) (hdf : d.params.defaults = []) (hr : Room k callerA) (hY : ∀ (w : World) (h : Heap), YP w h → (K w.params).In h)
    (F : ∀ (w : World) (mg : Str → Option Value) (fa : Addr) (h : Heap), YP w h → (K w.params).In h → h.Ns mainGlobals mg → mg d.name = some (.ref fa) → LawAtS l w (K w.params) (CX w) k n x mg fa h)
    (hCX : ∀ (w : World) (H : Hp) (s : Shared) (e : Value) (s' : Shared), CX w [] H s (fun _ _ _ => False) e s' → False) :
    PySem.W.WalkO q loose XP YP l.row.toRowW d [] (fun f vs => PySem.call f vs) := by
  refine Att.attach_callB hn hdf fun w s₀ s₁ mg mb fa o pm cd doc a vs ns G Y ho hd hcd hmg hobj hints hlen hbits hg => ?_
  have KX := hY w _ Y
  obtain ⟨fd, cs, sp, hT, nT, C, hb, hsp, hF⟩ := F w mg fa _ Y KX G.T.g hmg
  exact law_callTs KX G.T.g G.T.b G.T.builtins G.T.nolimit hg hT nT C G.T.bmain hobj hints (Nat.le_trans hlen hn2) hr hF hb (fun H hH hS => hsp H a ns hlen hbits hH hS) fun H e s' => hCX w H s₁ e s'
theorem all_mk {l : PySem.W.OpenLaw} {w : World} {K : PySem.W.Frag} {h : Heap} {mg : Str → Option Value} {fa CR CG CI cR Pt f1 f2 f3 f4 f5 f6 f7 f8 f9 f10 f11 f12 f13 f14 f15 f16 f17 f18 f19 f20 f21 f22 f23 f24 f25 f26 : Addr} (X : K.In h) (G : h.Ns mainGlobals mg) (hfa : mg "law" = some (.ref fa))
    {od1 an1 od2 an2 od3 an3 od4 an4 od5 an5 od6 an6 od7 an7 od8 an8 od9 an9 od10 an10 od11 an11 od12 an12 od13 an13 od14 an14 od15 an15 od16 an16 od17 an17 od18 an18 od19 an19 od20 an20 od21 an21 od22 an22 od23 an23 od24 an24 od25 an25 od26 an26 : Option Addr} {sl1 sl2 sl3 sl4 sl5 sl6 sl7 sl8 sl9 sl10 sl11 sl12 sl13 sl14 sl15 sl16 sl17 sl18 sl19 sl20 sl21 sl22 sl23 sl24 sl25 sl26 : Array (Option Value)} {oc1 kV1 dc1 pm1 cd1 ct1 oc2 kV2 dc2 pm2 cd2 ct2 oc3 kV3 dc3 pm3 cd3 ct3 oc4 kV4 dc4 pm4 cd4 ct4 oc5 kV5 dc5 pm5 cd5 ct5 oc6 kV6 dc6 pm6 cd6 ct6 oc7 kV7 dc7 pm7 cd7 ct7 oc8 kV8 dc8 pm8 cd8 ct8 oc9 kV9 dc9 pm9 cd9 ct9 oc10 kV10 dc10 pm10 cd10 ct10 oc11 kV11 dc11 pm11 cd11 ct11 oc12 kV12 dc12 pm12 cd12 ct12 oc13 kV13 dc13 pm13 cd13 ct13 oc14 kV14 dc14 pm14 cd14 ct14 oc15 kV15 dc15 pm15 cd15 ct15 oc16 kV16 dc16 pm16 cd16 ct16 oc17 kV17 dc17 pm17 cd17 ct17 oc18 kV18 dc18 pm18 cd18 ct18 oc19 kV19 dc19 pm19 cd19 ct19 oc20 kV20 dc20 pm20 cd20 ct20 oc21 kV21 dc21 pm21 cd21 ct21 oc22 kV22 dc22 pm22 cd22 ct22 oc23 kV23 dc23 pm23 cd23 ct23 oc24 kV24 dc24 pm24 cd24 ct24 oc25 kV25 dc25 pm25 cd25 ct25 oc26 kV26 dc26 pm26 cd26 ct26 : Value} {tk1 tk2 tk3 tk4 tk5 : Tok}
    (nCR : PySem.W.nsIn K mainGlobals "Rows" = some (some (.ref CR)))
    (nCG : PySem.W.nsIn K mainGlobals "Gatherer" = some (some (.ref CG)))
    (nCI : PySem.W.nsIn K mainGlobals "InvalidDocument" = some (some (.ref CI)))
    (a1 : PySem.W.nsIn K mainGlobals "is_name" = some (some (.ref f1)))
    (l1 : K.lookup f1 = some ⟨oc1, od1, .func (PySem.W.fnOf "is_name" "is_name" (defArgs sIsName) (defBody sIsName) (defScope sIsName) .none kV1 dc1 pm1 an1 cd1 ct1), sl1⟩)
    (c1 : PySem.W.codeIn K cd1 "is_name" = true)
    (k1 : PySem.W.keepIn K (.ref f1) = true)
    (a2 : PySem.W.nsIn K mainGlobals "is_character" = some (some (.ref f2)))
    (l2 : K.lookup f2 = some ⟨oc2, od2, .func (PySem.W.fnOf "is_character" "is_character" (defArgs sIsChar) (defBody sIsChar) (defScope sIsChar) .none kV2 dc2 pm2 an2 cd2 ct2), sl2⟩)
    (c2 : PySem.W.codeIn K cd2 "is_character" = true)
    (k2 : PySem.W.keepIn K (.ref f2) = true)
    (a3 : PySem.W.nsIn K mainGlobals "is_text" = some (some (.ref f3)))
    (l3 : K.lookup f3 = some ⟨oc3, od3, .func (PySem.W.fnOf "is_text" "is_text" (defArgs sIsText) (defBody sIsText) (defScope sIsText) .none kV3 dc3 pm3 an3 cd3 ct3), sl3⟩)
    (c3 : PySem.W.codeIn K cd3 "is_text" = true)
    (k3 : PySem.W.keepIn K (.ref f3) = true)
    (a4 : PySem.W.nsIn K mainGlobals "is_string" = some (some (.ref f4)))
    (l4 : K.lookup f4 = some ⟨oc4, od4, .func (PySem.W.fnOf "is_string" "is_string" (defArgs sIsString) (defBody sIsString) (defScope sIsString) .none kV4 dc4 pm4 an4 cd4 ct4), sl4⟩)
    (c4 : PySem.W.codeIn K cd4 "is_string" = true)
    (k4 : PySem.W.keepIn K (.ref f4) = true)
    (a5 : PySem.W.nsIn K mainGlobals "are_apart" = some (some (.ref f5)))
    (l5 : K.lookup f5 = some ⟨oc5, od5, .func (PySem.W.fnOf "are_apart" "are_apart" (defArgs sApart) (defBody sApart) (defScope sApart) .none kV5 dc5 pm5 an5 cd5 ct5), sl5⟩)
    (c5 : PySem.W.codeIn K cd5 "are_apart" = true)
    (k5 : PySem.W.keepIn K (.ref f5) = true)
    (a6 : PySem.W.nsIn K mainGlobals "is_tree" = some (some (.ref f6)))
    (l6 : K.lookup f6 = some ⟨oc6, od6, .func (PySem.W.fnOf "is_tree" "is_tree" (defArgs sIsTree) (defBody sIsTree) (defScope sIsTree) .none kV6 dc6 pm6 an6 cd6 ct6), sl6⟩)
    (c6 : PySem.W.codeIn K cd6 "is_tree" = true)
    (k6 : PySem.W.keepIn K (.ref f6) = true)
    (a7 : PySem.W.nsIn K mainGlobals "depth_within" = some (some (.ref f7)))
    (l7 : K.lookup f7 = some ⟨oc7, od7, .func (PySem.W.fnOf "depth_within" "depth_within" (defArgs sDepth) (defBody sDepth) (defScope sDepth) .none kV7 dc7 pm7 an7 cd7 ct7), sl7⟩)
    (c7 : PySem.W.codeIn K cd7 "depth_within" = true)
    (k7 : PySem.W.keepIn K (.ref f7) = true)
    (a8 : PySem.W.nsIn K mainGlobals "nodes_of" = some (some (.ref f8)))
    (l8 : K.lookup f8 = some ⟨oc8, od8, .func (PySem.W.fnOf "nodes_of" "nodes_of" (defArgs sNodesOf) (defBody sNodesOf) (defScope sNodesOf) .none kV8 dc8 pm8 an8 cd8 ct8), sl8⟩)
    (c8 : PySem.W.codeIn K cd8 "nodes_of" = true)
    (k8 : PySem.W.keepIn K (.ref f8) = true)
    (a9 : PySem.W.nsIn K mainGlobals "has_right_size" = some (some (.ref f9)))
    (l9 : K.lookup f9 = some ⟨oc9, od9, .func (PySem.W.fnOf "has_right_size" "has_right_size" (defArgs sRight) (defBody sRight) (defScope sRight) .none kV9 dc9 pm9 an9 cd9 ct9), sl9⟩)
    (c9 : PySem.W.codeIn K cd9 "has_right_size" = true)
    (k9 : PySem.W.keepIn K (.ref f9) = true)
    (a10 : PySem.W.nsIn K mainGlobals "is_document" = some (some (.ref f10)))
    (l10 : K.lookup f10 = some ⟨oc10, od10, .func (PySem.W.fnOf "is_document" "is_document" (defArgs sIsDoc) (defBody sIsDoc) (defScope sIsDoc) .none kV10 dc10 pm10 an10 cd10 ct10), sl10⟩)
    (c10 : PySem.W.codeIn K cd10 "is_document" = true)
    (k10 : PySem.W.keepIn K (.ref f10) = true)
    (a11 : PySem.W.nsIn K mainGlobals "parts_of" = some (some (.ref f11)))
    (l11 : K.lookup f11 = some ⟨oc11, od11, .func (PySem.W.fnOf "parts_of" "parts_of" (defArgs sParts) (defBody sParts) (defScope sParts) .none kV11 dc11 pm11 an11 cd11 ct11), sl11⟩)
    (c11 : PySem.W.codeIn K cd11 "parts_of" = true)
    (k11 : PySem.W.keepIn K (.ref f11) = true)
    (a12 : PySem.W.nsIn K mainGlobals "same_rows" = some (some (.ref f12)))
    (l12 : K.lookup f12 = some ⟨oc12, od12, .func (PySem.W.fnOf "same_rows" "same_rows" (defArgs sSameRows) (defBody sSameRows) (defScope sSameRows) .none kV12 dc12 pm12 an12 cd12 ct12), sl12⟩)
    (c12 : PySem.W.codeIn K cd12 "same_rows" = true)
    (k12 : PySem.W.keepIn K (.ref f12) = true)
    (a13 : PySem.W.nsIn K mainGlobals "names_in" = some (some (.ref f13)))
    (l13 : K.lookup f13 = some ⟨oc13, od13, .func (PySem.W.fnOf "names_in" "names_in" (defArgs sNamesIn) (defBody sNamesIn) (defScope sNamesIn) .none kV13 dc13 pm13 an13 cd13 ct13), sl13⟩)
    (c13 : PySem.W.codeIn K cd13 "names_in" = true)
    (k13 : PySem.W.keepIn K (.ref f13) = true)
    (a14 : PySem.W.nsIn K mainGlobals "rows_of" = some (some (.ref f14)))
    (l14 : K.lookup f14 = some ⟨oc14, od14, .func (PySem.W.fnOf "rows_of" "rows_of" (defArgs sRowsOf) (defBody sRowsOf) (defScope sRowsOf) .none kV14 dc14 pm14 an14 cd14 ct14), sl14⟩)
    (c14 : PySem.W.codeIn K cd14 "rows_of" = true)
    (k14 : PySem.W.keepIn K (.ref f14) = true)
    (a15 : PySem.W.nsIn K mainGlobals "_law_deck" = some (some (.ref f15)))
    (l15 : K.lookup f15 = some ⟨oc15, od15, .func (PySem.W.fnOf "_law_deck" "_law_deck" (defArgs sDeck) (defBody sDeck) (defScope sDeck) .none kV15 dc15 pm15 an15 cd15 ct15), sl15⟩)
    (c15 : PySem.W.codeIn K cd15 "_law_deck" = true)
    (k15 : PySem.W.keepIn K (.ref f15) = true)
    (a16 : PySem.W.nsIn K mainGlobals "_law_draw" = some (some (.ref f16)))
    (l16 : K.lookup f16 = some ⟨oc16, od16, .func (PySem.W.fnOf "_law_draw" "_law_draw" (defArgs sDraw) (defBody sDraw) (defScope sDraw) .none kV16 dc16 pm16 an16 cd16 ct16), sl16⟩)
    (c16 : PySem.W.codeIn K cd16 "_law_draw" = true)
    (k16 : PySem.W.keepIn K (.ref f16) = true)
    (a17 : PySem.W.nsIn K mainGlobals "_law_same" = some (some (.ref f17)))
    (l17 : K.lookup f17 = some ⟨oc17, od17, .func (PySem.W.fnOf "_law_same" "_law_same" (defArgs sSame) (defBody sSame) (defScope sSame) .none kV17 dc17 pm17 an17 cd17 ct17), sl17⟩)
    (c17 : PySem.W.codeIn K cd17 "_law_same" = true)
    (k17 : PySem.W.keepIn K (.ref f17) = true)
    (a18 : PySem.W.nsIn K mainGlobals "_law_tree" = some (some (.ref f18)))
    (l18 : K.lookup f18 = some ⟨oc18, od18, .func (PySem.W.fnOf "_law_tree" "_law_tree" (defArgs sTree) (defBody sTree) (defScope sTree) .none kV18 dc18 pm18 an18 cd18 ct18), sl18⟩)
    (c18 : PySem.W.codeIn K cd18 "_law_tree" = true)
    (k18 : PySem.W.keepIn K (.ref f18) = true)
    (a19 : PySem.W.nsIn K mainGlobals "_law_document" = some (some (.ref f19)))
    (l19 : K.lookup f19 = some ⟨oc19, od19, .func (PySem.W.fnOf "_law_document" "_law_document" (defArgs sDocument) (defBody sDocument) (defScope sDocument) .none kV19 dc19 pm19 an19 cd19 ct19), sl19⟩)
    (c19 : PySem.W.codeIn K cd19 "_law_document" = true)
    (k19 : PySem.W.keepIn K (.ref f19) = true)
    (a20 : PySem.W.nsIn K mainGlobals "_law_changed" = some (some (.ref f20)))
    (l20 : K.lookup f20 = some ⟨oc20, od20, .func (PySem.W.fnOf "_law_changed" "_law_changed" (defArgs sChanged) (defBody sChanged) (defScope sChanged) .none kV20 dc20 pm20 an20 cd20 ct20), sl20⟩)
    (c20 : PySem.W.codeIn K cd20 "_law_changed" = true)
    (k20 : PySem.W.keepIn K (.ref f20) = true)
    (a21 : PySem.W.nsIn K mainGlobals "_law_refused" = some (some (.ref f21)))
    (l21 : K.lookup f21 = some ⟨oc21, od21, .func (PySem.W.fnOf "_law_refused" "_law_refused" (defArgs sRefused) (defBody sRefused) (defScope sRefused) .none kV21 dc21 pm21 an21 cd21 ct21), sl21⟩)
    (c21 : PySem.W.codeIn K cd21 "_law_refused" = true)
    (k21 : PySem.W.keepIn K (.ref f21) = true)
    (a22 : PySem.W.nsIn K mainGlobals "_law_size" = some (some (.ref f22)))
    (l22 : K.lookup f22 = some ⟨oc22, od22, .func (PySem.W.fnOf "_law_size" "_law_size" (defArgs sSize) (defBody sSize) (defScope sSize) .none kV22 dc22 pm22 an22 cd22 ct22), sl22⟩)
    (c22 : PySem.W.codeIn K cd22 "_law_size" = true)
    (k22 : PySem.W.keepIn K (.ref f22) = true)
    (a23 : PySem.W.nsIn K mainGlobals "law" = some (some (.ref f23)))
    (l23 : K.lookup f23 = some ⟨oc23, od23, .func (PySem.W.fnOf "law" "law" (defArgs sLaw) (defBody sLaw) (defScope sLaw) .none kV23 dc23 pm23 an23 cd23 ct23), sl23⟩)
    (c23 : PySem.W.codeIn K cd23 "law" = true)
    (k23 : PySem.W.keepIn K (.ref f23) = true)
    (a24 : PySem.W.findIn K (.ref CR) "__init__" = some (some (.ref f24)))
    (i24 : PySem.W.isFn K (.ref f24) = true)
    (l24 : K.lookup f24 = some ⟨oc24, od24, .func (PySem.W.fnOf "__init__" "Rows.__init__" (defArgs sRowsInit) (defBody sRowsInit) (defScope sRowsInit) .none kV24 dc24 pm24 an24 cd24 ct24), sl24⟩)
    (c24 : PySem.W.codeIn K cd24 "Rows.__init__" = true)
    (k24 : PySem.W.keepIn K (.ref f24) = true)
    (a25 : PySem.W.findIn K (.ref CG) "__init__" = some (some (.ref f25)))
    (i25 : PySem.W.isFn K (.ref f25) = true)
    (l25 : K.lookup f25 = some ⟨oc25, od25, .func (PySem.W.fnOf "__init__" "Gatherer.__init__" (defArgs sGathInit) (defBody sGathInit) (defScope sGathInit) .none kV25 dc25 pm25 an25 cd25 ct25), sl25⟩)
    (c25 : PySem.W.codeIn K cd25 "Gatherer.__init__" = true)
    (k25 : PySem.W.keepIn K (.ref f25) = true)
    (a26 : PySem.W.findIn K (.ref CG) "gather" = some (some (.ref f26)))
    (i26 : PySem.W.isFn K (.ref f26) = true)
    (l26 : K.lookup f26 = some ⟨oc26, od26, .func (PySem.W.fnOf "gather" "Gatherer.gather" (defArgs sGather) (defBody sGather) (defScope sGather) .none kV26 dc26 pm26 an26 cd26 ct26), sl26⟩)
    (c26 : PySem.W.codeIn K cd26 "Gatherer.gather" = true)
    (k26 : PySem.W.keepIn K (.ref f26) = true)
    (pgCR : PySem.W.plainGet K CR Str.empty = true)
    (hdCR : PySem.W.hasDictIn K CR = true)
    (poCR : PySem.W.plainOver K CR = true)
    (saCR : PySem.W.findIn K (.ref CR) "__setattr__" = some (some (.builtin "object.__setattr__")))
    (mkCR : PySem.W.makesIn K CR = true)
    (kcCR : PySem.W.keepIn K (.ref CR) = true)
    (pgCG : PySem.W.plainGet K CG Str.empty = true)
    (hdCG : PySem.W.hasDictIn K CG = true)
    (poCG : PySem.W.plainOver K CG = true)
    (saCG : PySem.W.findIn K (.ref CG) "__setattr__" = some (some (.builtin "object.__setattr__")))
    (mkCG : PySem.W.makesIn K CG = true)
    (kcCG : PySem.W.keepIn K (.ref CG) = true)
    (qCRnames : PySem.W.findIn K (.ref CR) "names" = some none)
    (qCRlabels : PySem.W.findIn K (.ref CR) "labels" = some none)
    (qCRlasts : PySem.W.findIn K (.ref CR) "lasts" = some none)
    (qCRfulls : PySem.W.findIn K (.ref CR) "fulls" = some none)
    (qCRtexts : PySem.W.findIn K (.ref CR) "texts" = some none)
    (qCGnames : PySem.W.findIn K (.ref CG) "names" = some none)
    (qCGnodes : PySem.W.findIn K (.ref CG) "nodes" = some none)
    (xCI : PySem.W.excIn K CI [.type "ValueError", .type "Exception", .type "BaseException", .type "object"] "ValueError.__new__" = true)
    (kCI : PySem.W.keepIn K (.ref CI) = true)
    (bCI : PySem.W.subIn K (.ref CI) (.type "BaseException") = some true)
    (tCI : PySem.W.typeIn K (.ref CI) = some (.type "type"))
    (zlen : PySem.W.nsIn K mainGlobals "len" = some none)
    (zall : PySem.W.nsIn K mainGlobals "all" = some none)
    (zany : PySem.W.nsIn K mainGlobals "any" = some none)
    (zisinstance : PySem.W.nsIn K mainGlobals "isinstance" = some none)
    (zmax : PySem.W.nsIn K mainGlobals "max" = some none)
    (zmin : PySem.W.nsIn K mainGlobals "min" = some none)
    (zlist : PySem.W.nsIn K mainGlobals "list" = some none)
    (zreversed : PySem.W.nsIn K mainGlobals "reversed" = some none)
    (zsorted : PySem.W.nsIn K mainGlobals "sorted" = some none)
    (zenumerate : PySem.W.nsIn K mainGlobals "enumerate" = some none)
    (zint : PySem.W.nsIn K mainGlobals "int" = some none)
    (zrange : PySem.W.nsIn K mainGlobals "range" = some none)
    (zsum : PySem.W.nsIn K mainGlobals "sum" = some none)
    (zstr : PySem.W.nsIn K mainGlobals "str" = some none)
    (ztuple : PySem.W.nsIn K mainGlobals "tuple" = some none)
    (zbool : PySem.W.nsIn K mainGlobals "bool" = some none)
    (gL : PySem.W.nsIn K mainGlobals "LETTERS" = some (some (.str letters tk1)))
    (g2 : PySem.W.nsIn K mainGlobals "MOST_LETTERS" = some (some (.int 12 tk2)))
    (g3 : PySem.W.nsIn K mainGlobals "MOST_TEXT" = some (some (.int 200 tk3)))
    (g4 : PySem.W.nsIn K mainGlobals "MOST_NODES" = some (some (.int 5000 tk4)))
    (g5 : PySem.W.nsIn K mainGlobals "MOST_DEPTH" = some (some (.int 60 tk5)))
    (iCI : PySem.W.isClsIn K CI = true)
    (sCI : PySem.W.subIn K (.ref CI) (.ref CI) = some true)
    (tp : cd14 = .ref cR)
    (tab : PySem.W.CodeHd h cR Pt ∧ h.get? Pt = some (PySem.W.tabObj #[]))
    (nP : K.lookup Pt = none)
    : LawAtS l w K CX0 13 63 "_law_script" mg fa h := by
  have e := hfa.symm.trans (PySem.W.mg_of X G a23)
  cases e
  have g := fun {x : Str} {v : Value} (q : PySem.W.nsIn K mainGlobals x = some (some v)) => PySem.W.mg_of X G q
  have T : Txt mg := { len := PySem.W.mg_none_of X G zlen, all := PySem.W.mg_none_of X G zall, any := PySem.W.mg_none_of X G zany, isi := PySem.W.mg_none_of X G zisinstance, max := PySem.W.mg_none_of X G zmax, min := PySem.W.mg_none_of X G zmin, list := PySem.W.mg_none_of X G zlist, rev := PySem.W.mg_none_of X G zreversed, sorted := PySem.W.mg_none_of X G zsorted, enum := PySem.W.mg_none_of X G zenumerate, int := PySem.W.mg_none_of X G zint, range := PySem.W.mg_none_of X G zrange, sum := PySem.W.mg_none_of X G zsum, str := PySem.W.mg_none_of X G zstr, tuple := PySem.W.mg_none_of X G ztuple, bool := PySem.W.mg_none_of X G zbool, letters := ⟨_, g gL⟩, mostL := ⟨_, g g2⟩, mostT := ⟨_, g g3⟩, mostN := ⟨_, g g4⟩, mostD := ⟨_, g g5⟩ }
  have Xe : Xt K mg CI := ⟨g nCI, xCI, kCI, bCI, tCI, exm_self bCI iCI tCI sCI⟩
  have Tr : Rt K mg CR f24 := ⟨⟨pgCR, hdCR, poCR, saCR⟩, qCRnames, qCRlabels, qCRlasts, qCRfulls, qCRtexts, g nCR, ⟨mkCR, a24, i24, kcCR⟩⟩
  have Tg : Gt K mg CG f25 f26 := ⟨⟨pgCG, hdCG, poCG, saCG⟩, qCGnames, qCGnodes, g nCG, ⟨mkCG, a25, i25, kcCG⟩, ⟨a26, i26, k26⟩⟩
  have F1 := fun_mk (st := sIsName) l1 c1 k1
  have b1 := F1.binds (ps := ["word"]) fun _ _ _ _ _ _ us hl => match us, hl with | [_], _ => rfl
  have F2 := fun_mk (st := sIsChar) l2 c2 k2
  have b2 := F2.binds (ps := ["letter"]) fun _ _ _ _ _ _ us hl => match us, hl with | [_], _ => rfl
  have F3 := fun_mk (st := sIsText) l3 c3 k3
  have b3 := F3.binds (ps := ["string"]) fun _ _ _ _ _ _ us hl => match us, hl with | [_], _ => rfl
  have F4 := fun_mk (st := sIsString) l4 c4 k4
  have b4 := F4.binds (ps := ["tree"]) fun _ _ _ _ _ _ us hl => match us, hl with | [_], _ => rfl
  have F5 := fun_mk (st := sApart) l5 c5 k5
  have b5 := F5.binds (ps := ["children"]) fun _ _ _ _ _ _ us hl => match us, hl with | [_], _ => rfl
  have F6 := fun_mk (st := sIsTree) l6 c6 k6
  have b6 := F6.binds (ps := ["tree"]) fun _ _ _ _ _ _ us hl => match us, hl with | [_], _ => rfl
  have F7 := fun_mk (st := sDepth) l7 c7 k7
  have b7 := F7.binds (ps := ["tree"]) fun _ _ _ _ _ _ us hl => match us, hl with | [_], _ => rfl
  have F8 := fun_mk (st := sNodesOf) l8 c8 k8
  have b8 := F8.binds (ps := ["tree"]) fun _ _ _ _ _ _ us hl => match us, hl with | [_], _ => rfl
  have F9 := fun_mk (st := sRight) l9 c9 k9
  have b9 := F9.binds (ps := ["tree"]) fun _ _ _ _ _ _ us hl => match us, hl with | [_], _ => rfl
  have F10 := fun_mk (st := sIsDoc) l10 c10 k10
  have b10 := F10.binds (ps := ["tree"]) fun _ _ _ _ _ _ us hl => match us, hl with | [_], _ => rfl
  have F11 := fun_mk (st := sParts) l11 c11 k11
  have b11 := F11.binds (ps := ["rows"]) fun _ _ _ _ _ _ us hl => match us, hl with | [_], _ => rfl
  have F12 := fun_mk (st := sSameRows) l12 c12 k12
  have b12 := F12.binds (ps := ["rows", "other"]) fun _ _ _ _ _ _ us hl => match us, hl with | [_, _], _ => rfl
  have F13 := fun_mk (st := sNamesIn) l13 c13 k13
  have b13 := F13.binds (ps := ["tree"]) fun _ _ _ _ _ _ us hl => match us, hl with | [_], _ => rfl
  have F14 := fun_mk (st := sRowsOf) l14 c14 k14
  have b14 := F14.binds (ps := ["tree"]) fun _ _ _ _ _ _ us hl => match us, hl with | [_], _ => rfl
  have F15 := fun_mk (st := sDeck) l15 c15 k15
  have b15 := F15.binds (ps := ["_law_script"]) fun _ _ _ _ _ _ us hl => match us, hl with | [_], _ => rfl
  have F16 := fun_mk (st := sDraw) l16 c16 k16
  have b16 := F16.binds (ps := ["_law_deck_here", "_law_most"]) fun _ _ _ _ _ _ us hl => match us, hl with | [_, _], _ => rfl
  have F17 := fun_mk (st := sSame) l17 c17 k17
  have b17 := F17.binds (ps := ["_law_actual", "_law_due"]) fun _ _ _ _ _ _ us hl => match us, hl with | [_, _], _ => rfl
  have F18 := fun_mk (st := sTree) l18 c18 k18
  have b18 := F18.binds (ps := ["_law_deck_here", "_law_names", "_law_level"]) fun _ _ _ _ _ _ us hl => match us, hl with | [_, _, _], _ => rfl
  have F19 := fun_mk (st := sDocument) l19 c19 k19
  have b19 := F19.binds (ps := ["_law_deck_here"]) fun _ _ _ _ _ _ us hl => match us, hl with | [_], _ => rfl
  have F20 := fun_mk (st := sChanged) l20 c20 k20
  have b20 := F20.binds (ps := ["_law_deck_here", "_law_tree_here"]) fun _ _ _ _ _ _ us hl => match us, hl with | [_, _], _ => rfl
  have F21 := fun_mk (st := sRefused) l21 c21 k21
  have b21 := F21.binds (ps := ["_law_tree_here"]) fun _ _ _ _ _ _ us hl => match us, hl with | [_], _ => rfl
  have F22 := fun_mk (st := sSize) l22 c22 k22
  have b22 := F22.binds (ps := ["_law_tree_here"]) fun _ _ _ _ _ _ us hl => match us, hl with | [_], _ => rfl
  have F23 := fun_mk (st := sLaw) l23 c23 k23
  have b23 := F23.binds (ps := ["_law_script"]) fun _ _ _ _ _ _ us hl => match us, hl with | [_], _ => rfl
  have F24 := fun_mk (st := sRowsInit) l24 c24 k24
  have b24 := F24.binds (ps := ["self", "names", "labels", "lasts", "fulls", "texts"]) fun _ _ _ _ _ _ us hl => match us, hl with | [_, _, _, _, _, _], _ => rfl
  have F25 := fun_mk (st := sGathInit) l25 c25 k25
  have b25 := F25.binds (ps := ["self", "names"]) fun _ _ _ _ _ _ us hl => match us, hl with | [_, _], _ => rfl
  have F26 := fun_mk (st := sGather) l26 c26 k26
  have b26 := F26.binds (ps := ["self", "tree", "upward", "is_last"]) fun _ _ _ _ _ _ us hl => match us, hl with | [_, _, _, _], _ => rfl
  have hcd : (PySem.W.fnOf "rows_of" "rows_of" (defArgs sRowsOf) (defBody sRowsOf) (defScope sRowsOf) .none kV14 dc14 pm14 an14 cd14 ct14).code = .ref cR := tp
  refine ⟨PySem.W.fnOf "law" "law" (defArgs sLaw) (defBody sLaw) (defScope sLaw) .none kV23 dc23 pm23 an23 cd23 ct23, [(cR, Pt)], spLaw K Pt, ?_, ?_, ?_, fun s v => .of_eq rfl, ?_, fun base hB hN hTB => ?_⟩
  · intro p hp
    rw [List.mem_singleton.mp hp]
    exact tab.2
  · intro p hp
    rw [List.mem_singleton.mp hp]
    exact nP
  · intro p hp
    rw [List.mem_singleton.mp hp]
    exact tab.1
  · intro H a ns _ _ hH hS
    refine ⟨a, ns, rfl, hS, fun p hp => ?_, fun _ => rfl⟩
    rw [List.mem_singleton.mp hp]
    exact TabS.nil (hH _ List.mem_cons_self)
  · have TB : TabB base mg cR Pt := hTB (cR, Pt) List.mem_cons_self
    have H1 : Has l.prog w K mg base CX0 1 "is_name" ["word"] spName := ⟨_, _, ok_name F1 T, b1, k1, g a1⟩
    have H2 : Has l.prog w K mg base CX0 1 "is_character" ["letter"] spChar := ⟨_, _, ok_char F2, b2, k2, g a2⟩
    have H3 : Has l.prog w K mg base CX0 2 "is_text" ["string"] spText := ⟨_, _, ok_text F3 T H2, b3, k3, g a3⟩
    have H4 : Has l.prog w K mg base CX0 1 "is_string" ["tree"] spString := ⟨_, _, ok_string F4 T, b4, k4, g a4⟩
    have H5 : Has l.prog w K mg base CX0 2 "are_apart" ["children"] spApart := ⟨_, _, ok_apart F5 T H4, b5, k5, g a5⟩
    have H6 : Has l.prog w K mg base CX0 3 "is_tree" ["tree"] spTree := ⟨_, _, ok_tree F6 T H4 H1 H3 H5, b6, k6, g a6⟩
    have H7 : Has l.prog w K mg base CX0 2 "depth_within" ["tree"] spDepth := ⟨_, _, ok_depth F7 T H4, b7, k7, g a7⟩
    have H8 : Has l.prog w K mg base CX0 2 "nodes_of" ["tree"] spNodes := ⟨_, _, ok_nodes F8 T H4, b8, k8, g a8⟩
    have H9 : Has l.prog w K mg base CX0 3 "has_right_size" ["tree"] spRight := ⟨_, _, ok_right F9 T H8 H7, b9, k9, g a9⟩
    have H10 : Has l.prog w K mg base CX0 4 "is_document" ["tree"] spDoc := ⟨_, _, ok_doc F10 H4 H6 H9, b10, k10, g a10⟩
    have H11 : Has l.prog w K mg base CX0 1 "parts_of" ["rows"] (spParts CR) := ⟨_, _, ok_parts F11 Tr, b11, k11, g a11⟩
    have H12 : Has l.prog w K mg base CX0 2 "same_rows" ["rows", "other"] (spSR CR) := ⟨_, _, ok_SR F12 H11, b12, k12, g a12⟩
    have H13 : Has l.prog w K mg base CX0 10 "names_in" ["tree"] (spNI 10) := ⟨_, _, ok_NI F13 T (g a13) b13 10, b13, k13, g a13⟩
    have G14 := ok_rows F14 hcd TB T Xe Tg Tr H10 H13 (ok_GI F25 Tg) b25 (ok_G F26 T Tg b26 10) b26 (ok_RI F24 T Tr) b24 (P := l.prog) (w := w)
    have H14 : Has l.prog w K mg base (L2.CX l.prog w) 11 "rows_of" ["tree"] (spRows Pt CI CR) := ⟨_, _, G14, b14, k14, g a14⟩
    have H15 : Has l.prog w K mg base CX0 1 "_law_deck" ["_law_script"] (spDeck K) := ⟨_, _, ok_deck F15 T, b15, k15, g a15⟩
    have H16 : Has l.prog w K mg base CX0 1 "_law_draw" ["_law_deck_here", "_law_most"] spDraw := ⟨_, _, ok_draw F16 T, b16, k16, g a16⟩
    have H17 : Has l.prog w K mg base CX0 1 "_law_same" ["_law_actual", "_law_due"] spSame := ⟨_, _, ok_same F17 T, b17, k17, g a17⟩
    have H18 : Has l.prog w K mg base CX0 6 "_law_tree" ["_law_deck_here", "_law_names", "_law_level"] (spLT 6) := ⟨_, _, ok_LT F18 T H16 (g a18) b18 6, b18, k18, g a18⟩
    have H19 : Has l.prog w K mg base CX0 7 "_law_document" ["_law_deck_here"] spLD := ⟨_, _, ok_LD F19 T H16 H18, b19, k19, g a19⟩
    have H20 : Has l.prog w K mg base CX0 6 "_law_changed" ["_law_deck_here", "_law_tree_here"] (spLC 6) := ⟨_, _, ok_LC F20 T H16 (g a20) b20 6, b20, k20, g a20⟩
    have H21 : Has l.prog w K mg base CX0 12 "_law_refused" ["_law_tree_here"] (spRefused Pt) := ⟨_, _, ok_refused F21 Xe G14 b14 k14 (g a14), b21, k21, g a21⟩
    have H22 : Has l.prog w K mg base CX0 8 "_law_size" ["_law_tree_here"] (spLS 8) := ⟨_, _, ok_LS F22 T (g a22) b22 8, b22, k22, g a22⟩
    exact ok_law F23 T Tr H15 H16 H19 H20 H14 H17 H12 H22 H21
theorem walk {l : PySem.W.OpenLaw} {q : Program} {loose : List Str} {XP : (Str → Option Value) → Heap → Prop} {YP : World → Heap → Prop} {d : DefRec} {K : Params → PySem.W.Frag} (hn : l.most = some 63) (hdf : d.params.defaults = [])
    (hY : ∀ (w : World) (h : Heap), YP w h → (K w.params).In h)
    (F : ∀ (w : World) (mg : Str → Option Value) (fa : Addr) (h : Heap), YP w h → (K w.params).In h → h.Ns mainGlobals mg → mg d.name = some (.ref fa) → LawAtS l w (K w.params) CX0 13 63 "_law_script" mg fa h) :
    PySem.W.WalkO q loose XP YP l.row.toRowW d [] (fun f vs => PySem.call f vs) :=
  walk_tab (n := 63) (k := 13) (x := "_law_script") (CX := fun _ => CX0) hn (by decide) hdf ⟨rfl, by decide, by decide⟩ hY F fun _ _ _ _ _ z => z
end Tk

open PySem PySem.W PyProof.Rows in
set_option maxRecDepth 100000 in
set_option maxHeartbeats 0 in
theorem PySem.Challenge.cw_topiary_k27_whole_rows_tell_the_document_holds : PySem.Challenge.rw_topiary_k27_whole_rows_tell_the_document.Holds := by
  w_on; o_law; k_head; (case hw => w_witness2)
  k_fill
  refine Tk.walk (l := PySem.Challenge.rw_topiary_k27_whole_rows_tell_the_document) rfl rfl (fun w h Y => PySem.W.km_in_of Y) ?F
  case F =>
    intro w mg fa h Y KX G hmg
    refine' Tk.all_mk KX G hmg ?nCR ?nCG ?nCI ?a1 ?l1 ?c1 ?k1 ?a2 ?l2 ?c2 ?k2 ?a3 ?l3 ?c3 ?k3 ?a4 ?l4 ?c4 ?k4 ?a5 ?l5 ?c5 ?k5 ?a6 ?l6 ?c6 ?k6 ?a7 ?l7 ?c7 ?k7 ?a8 ?l8 ?c8 ?k8 ?a9 ?l9 ?c9 ?k9 ?a10 ?l10 ?c10 ?k10 ?a11 ?l11 ?c11 ?k11 ?a12 ?l12 ?c12 ?k12 ?a13 ?l13 ?c13 ?k13 ?a14 ?l14 ?c14 ?k14 ?a15 ?l15 ?c15 ?k15 ?a16 ?l16 ?c16 ?k16 ?a17 ?l17 ?c17 ?k17 ?a18 ?l18 ?c18 ?k18 ?a19 ?l19 ?c19 ?k19 ?a20 ?l20 ?c20 ?k20 ?a21 ?l21 ?c21 ?k21 ?a22 ?l22 ?c22 ?k22 ?a23 ?l23 ?c23 ?k23 ?a24 ?i24 ?l24 ?c24 ?k24 ?a25 ?i25 ?l25 ?c25 ?k25 ?a26 ?i26 ?l26 ?c26 ?k26 ?pgCR ?hdCR ?poCR ?saCR ?mkCR ?kcCR ?pgCG ?hdCG ?poCG ?saCG ?mkCG ?kcCG ?qCRnames ?qCRlabels ?qCRlasts ?qCRfulls ?qCRtexts ?qCGnames ?qCGnodes ?xCI ?kCI ?bCI ?tCI ?zlen ?zall ?zany ?zisinstance ?zmax ?zmin ?zlist ?zreversed ?zsorted ?zenumerate ?zint ?zrange ?zsum ?zstr ?ztuple ?zbool ?gL ?g2 ?g3 ?g4 ?g5 ?iCI ?sCI ?tp ?tab ?nP
    (case nCR => k_is)
    (case nCG => k_is)
    (case nCI => k_is)
    (case a1 => k_is)
    (case l1 => k_is)
    (case c1 => k_is)
    (case k1 => k_is)
    (case a2 => k_is)
    (case l2 => k_is)
    (case c2 => k_is)
    (case k2 => k_is)
    (case a3 => k_is)
    (case l3 => k_is)
    (case c3 => k_is)
    (case k3 => k_is)
    (case a4 => k_is)
    (case l4 => k_is)
    (case c4 => k_is)
    (case k4 => k_is)
    (case a5 => k_is)
    (case l5 => k_is)
    (case c5 => k_is)
    (case k5 => k_is)
    (case a6 => k_is)
    (case l6 => k_is)
    (case c6 => k_is)
    (case k6 => k_is)
    (case a7 => k_is)
    (case l7 => k_is)
    (case c7 => k_is)
    (case k7 => k_is)
    (case a8 => k_is)
    (case l8 => k_is)
    (case c8 => k_is)
    (case k8 => k_is)
    (case a9 => k_is)
    (case l9 => k_is)
    (case c9 => k_is)
    (case k9 => k_is)
    (case a10 => k_is)
    (case l10 => k_is)
    (case c10 => k_is)
    (case k10 => k_is)
    (case a11 => k_is)
    (case l11 => k_is)
    (case c11 => k_is)
    (case k11 => k_is)
    (case a12 => k_is)
    (case l12 => k_is)
    (case c12 => k_is)
    (case k12 => k_is)
    (case a13 => k_is)
    (case l13 => k_is)
    (case c13 => k_is)
    (case k13 => k_is)
    (case a14 => k_is)
    (case l14 => k_is)
    (case c14 => k_is)
    (case k14 => k_is)
    (case a15 => k_is)
    (case l15 => k_is)
    (case c15 => k_is)
    (case k15 => k_is)
    (case a16 => k_is)
    (case l16 => k_is)
    (case c16 => k_is)
    (case k16 => k_is)
    (case a17 => k_is)
    (case l17 => k_is)
    (case c17 => k_is)
    (case k17 => k_is)
    (case a18 => k_is)
    (case l18 => k_is)
    (case c18 => k_is)
    (case k18 => k_is)
    (case a19 => k_is)
    (case l19 => k_is)
    (case c19 => k_is)
    (case k19 => k_is)
    (case a20 => k_is)
    (case l20 => k_is)
    (case c20 => k_is)
    (case k20 => k_is)
    (case a21 => k_is)
    (case l21 => k_is)
    (case c21 => k_is)
    (case k21 => k_is)
    (case a22 => k_is)
    (case l22 => k_is)
    (case c22 => k_is)
    (case k22 => k_is)
    (case a23 => k_is)
    (case l23 => k_is)
    (case c23 => k_is)
    (case k23 => k_is)
    (case a24 => k_is)
    (case i24 => k_is)
    (case l24 => k_is)
    (case c24 => k_is)
    (case k24 => k_is)
    (case a25 => k_is)
    (case i25 => k_is)
    (case l25 => k_is)
    (case c25 => k_is)
    (case k25 => k_is)
    (case a26 => k_is)
    (case i26 => k_is)
    (case l26 => k_is)
    (case c26 => k_is)
    (case k26 => k_is)
    (case pgCR => k_is)
    (case hdCR => k_is)
    (case poCR => k_is)
    (case saCR => k_is)
    (case mkCR => k_is)
    (case kcCR => k_is)
    (case pgCG => k_is)
    (case hdCG => k_is)
    (case poCG => k_is)
    (case saCG => k_is)
    (case mkCG => k_is)
    (case kcCG => k_is)
    (case qCRnames => k_is)
    (case qCRlabels => k_is)
    (case qCRlasts => k_is)
    (case qCRfulls => k_is)
    (case qCRtexts => k_is)
    (case qCGnames => k_is)
    (case qCGnodes => k_is)
    (case xCI => k_exc)
    (case kCI => k_is)
    (case bCI => k_is)
    (case tCI => k_is)
    (case zlen => k_is)
    (case zall => k_is)
    (case zany => k_is)
    (case zisinstance => k_is)
    (case zmax => k_is)
    (case zmin => k_is)
    (case zlist => k_is)
    (case zreversed => k_is)
    (case zsorted => k_is)
    (case zenumerate => k_is)
    (case zint => k_is)
    (case zrange => k_is)
    (case zsum => k_is)
    (case zstr => k_is)
    (case ztuple => k_is)
    (case zbool => k_is)
    (case gL => k_is)
    (case g2 => k_is)
    (case g3 => k_is)
    (case g4 => k_is)
    (case g5 => k_is)
    (case iCI => k_is)
    (case sCI => first | rfl | k_is)
    (case tp => rfl)
    (case tab => exact ⟨PySem.W.codeHd_of_K (P := 173) KX (by kernel_rfl), PySem.W.km_tabs_of Y 173 (List.mem_singleton.mpr rfl)⟩)
    (case nP => first | k_is | kernel_rfl)
