import PyProof.Rows.All
import KE.KeyNested
import Wide.All
import OpenK.AllK
import Wide.FinOn
import HandS.ForMost
import HandS.EndBits
import HandS.Wide
import HandS.WideBits
import HandS.Zip
import HandS.IsInst
import HandS.TupAny
import KE.KDictKeyed
import PySem.Challenge.RW_sameshape_k26_whole_parts_keep_nodes
set_option Elab.async false
set_option linter.all false
set_option maxRecDepth 100000
set_option maxHeartbeats 1000000
/-! Plain lists: groups, windows, cuts. -/
namespace Sh
section
variable {α : Type}

/-! ### groups of equal neighbours -/
section
variable [DecidableEq α]
def gpush (x : α) : List (α × Nat) → List (α × Nat)
  | [] => [(x, 1)]
  | (y, k) :: r => if x = y then (y, k + 1) :: r else (x, 1) :: (y, k) :: r
theorem gpush_cons (x y : α) (k : Nat) (r : List (α × Nat)) : gpush x ((y, k) :: r) = if x = y then (y, k + 1) :: r else (x, 1) :: (y, k) :: r := rfl
def groups : List α → List (α × Nat)
  | [] => []
  | x :: xs => gpush x (groups xs)

theorem gpush_ne (x : α) (l : List (α × Nat)) : gpush x l ≠ [] := by
  cases l with
  | nil => simp [gpush]
  | cons p r => obtain ⟨y, k⟩ := p; rw [gpush_cons]; split <;> simp
theorem groups_nil_iff {l : List α} : groups l = [] ↔ l = [] := by
  cases l with
  | nil => simp [groups]
  | cons x xs => simp [groups, gpush_ne]
theorem gpush_head (x : α) (l : List (α × Nat)) : ∃ k r, gpush x l = (x, k + 1) :: r := by
  cases l with
  | nil => exact ⟨0, [], rfl⟩
  | cons p r =>
    obtain ⟨y, k⟩ := p
    rw [gpush_cons]
    split
    · rename_i e; subst e; exact ⟨k, r, rfl⟩
    · exact ⟨0, _, rfl⟩
theorem groups_head (x : α) (xs : List α) : ∃ k r, groups (x :: xs) = (x, k + 1) :: r := gpush_head x _
theorem groups_pos : ∀ (l : List α), ∀ p ∈ groups l, 1 ≤ p.2
  | [], p, h => by simp [groups] at h
  | x :: xs, p, h => by
    have ih := groups_pos xs
    unfold groups at h
    cases e : groups xs with
    | nil => rw [e] at h; simp [gpush] at h; subst h; exact Nat.le_refl _
    | cons q r =>
      obtain ⟨y, k⟩ := q
      rw [e] at h ih
      rw [gpush_cons] at h
      split at h
      · rcases List.mem_cons.mp h with z | z
        · subst z; simp
        · exact ih p (List.mem_cons_of_mem _ z)
      · rcases List.mem_cons.mp h with z | z
        · subst z; simp
        · exact ih p z
theorem groups_mem : ∀ (l : List α), ∀ p ∈ groups l, p.1 ∈ l
  | [], p, h => by simp [groups] at h
  | x :: xs, p, h => by
    have ih := groups_mem xs
    unfold groups at h
    cases e : groups xs with
    | nil => rw [e] at h; simp [gpush] at h; subst h; simp
    | cons q r =>
      obtain ⟨y, k⟩ := q
      rw [e] at h ih
      rw [gpush_cons] at h
      split at h
      · rename_i exy
        rcases List.mem_cons.mp h with z | z
        · subst z; simp [exy]
        · exact List.mem_cons_of_mem _ (ih p (List.mem_cons_of_mem _ z))
      · rcases List.mem_cons.mp h with z | z
        · subst z; simp
        · exact List.mem_cons_of_mem _ (ih p z)
theorem groups_cover : ∀ (l : List α), ∀ x ∈ l, ∃ k, (x, k) ∈ groups l
  | [], x, h => by cases h
  | y :: ys, x, h => by
    obtain ⟨k, r, e⟩ := groups_head y ys
    rcases List.mem_cons.mp h with z | z
    · subst z; exact ⟨k + 1, by rw [e]; simp⟩
    · obtain ⟨j, hj⟩ := groups_cover ys x z
      show ∃ k, (x, k) ∈ gpush y (groups ys)
      cases e2 : groups ys with
      | nil => rw [e2] at hj; cases hj
      | cons q r2 =>
        obtain ⟨w, kw⟩ := q
        rw [e2] at hj
        rw [gpush_cons]
        split
        · rcases List.mem_cons.mp hj with z2 | z2
          · injection z2 with a b; exact ⟨kw + 1, by simp [a]⟩
          · exact ⟨j, List.mem_cons_of_mem _ z2⟩
        · exact ⟨j, List.mem_cons_of_mem _ hj⟩
theorem gpush_length (x : α) (l : List (α × Nat)) : (gpush x l).length ≤ l.length + 1 := by
  cases l with
  | nil => simp [gpush]
  | cons p r => obtain ⟨y, k⟩ := p; rw [gpush_cons]; split <;> simp
theorem groups_length : ∀ l : List α, (groups l).length ≤ l.length
  | [] => by simp [groups]
  | x :: xs => by
    have := groups_length xs
    have := gpush_length x (groups xs)
    simp only [groups, List.length_cons]; omega
theorem groups_append_length : ∀ (u v : List α), (groups (u ++ v)).length ≤ u.length + (groups v).length
  | [], v => by simp
  | x :: xs, v => by
    have := groups_append_length xs v
    have := gpush_length x (groups (xs ++ v))
    simp only [groups, List.cons_append, List.length_cons]; omega
theorem gpush_append (x : α) {l : List (α × Nat)} (h : l ≠ []) (m : List (α × Nat)) : gpush x (l ++ m) = gpush x l ++ m := by
  cases l with
  | nil => exact absurd rfl h
  | cons p r => obtain ⟨y, k⟩ := p; rw [List.cons_append, gpush_cons, gpush_cons]; split <;> simp
/-- apart at the seam -/
theorem groups_append : ∀ (u v : List α), (∀ a b, u.getLast? = some a → v.head? = some b → a ≠ b) → groups (u ++ v) = groups u ++ groups v
  | [], v, _ => by simp [groups]
  | [x], v, h => by
    show gpush x (groups v) = gpush x [] ++ groups v
    cases v with
    | nil => simp [groups]
    | cons y ys =>
      obtain ⟨k, r, e⟩ := groups_head y ys
      have hxy : x ≠ y := h x y rfl rfl
      rw [e]
      simp [gpush, hxy]
  | x :: x2 :: xs, v, h => by
    have ih := groups_append (x2 :: xs) v (fun a b ha hb => h a b (by simpa [List.getLast?_cons_cons] using ha) hb)
    show gpush x (groups ((x2 :: xs) ++ v)) = gpush x (groups (x2 :: xs)) ++ groups v
    rw [ih, gpush_append x (by rw [ne_eq, groups_nil_iff]; simp)]
theorem groups_replicate (x : α) : ∀ k, groups (List.replicate (k + 1) x) = [(x, k + 1)]
  | 0 => rfl
  | k + 1 => by
    rw [List.replicate_succ]
    show gpush x (groups (List.replicate (k + 1) x)) = _
    rw [groups_replicate x k]
    simp [gpush]
/-- the first group -/
theorem groups_step (x : α) (k : Nat) (v : List α) (h : v.head? ≠ some x) : groups (List.replicate (k + 1) x ++ v) = (x, k + 1) :: groups v := by
  rw [groups_append, groups_replicate]
  · rfl
  · intro a b ha hb e
    rw [List.getLast?_replicate] at ha
    simp at ha
    subst ha; subst e; exact h hb
theorem replicate_groups_length (x : α) (k : Nat) : (groups (List.replicate k x)).length ≤ 1 := by
  cases k with
  | zero => simp [groups]
  | succ k => rw [groups_replicate]; simp
/-- no two neighbours of the groups have the same member -/
theorem groups_adj : ∀ (l : List α) (i : Nat) (p q : α × Nat), (groups l)[i]? = some p → (groups l)[i + 1]? = some q → p.1 ≠ q.1
  | [], i, p, q, h, _ => by simp [groups] at h
  | x :: xs, i, p, q, hp, hq => by
    have ih := groups_adj xs
    show p.1 ≠ q.1
    have hp : (gpush x (groups xs))[i]? = some p := hp
    have hq : (gpush x (groups xs))[i + 1]? = some q := hq
    cases e : groups xs with
    | nil => rw [e] at hq; simp [gpush] at hq
    | cons w r =>
      obtain ⟨y, k⟩ := w
      rw [e] at hp hq ih
      rw [gpush_cons] at hp hq
      split at hp
      · rename_i exy
        rw [if_pos exy] at hq
        cases i with
        | zero =>
          simp at hp hq
          subst hp
          exact ih 0 (y, k) q (by simp) (by simpa using hq)
        | succ i => exact ih (i + 1) p q (by simpa using hp) (by simpa using hq)
      · rename_i nxy
        rw [if_neg nxy] at hq
        cases i with
        | zero =>
          simp at hp hq
          subst hp; subst hq
          exact nxy
        | succ i => exact ih i p q (by simpa using hp) (by simpa using hq)
/-- injective renaming -/
theorem groups_map {β : Type} [DecidableEq β] (f : α → β) : ∀ (l : List α), (∀ x ∈ l, ∀ y ∈ l, f x = f y → x = y) → groups (l.map f) = (groups l).map fun p => (f p.1, p.2)
  | [], _ => rfl
  | x :: xs, h => by
    have ih := groups_map f xs fun a ha b hb => h a (List.mem_cons_of_mem _ ha) b (List.mem_cons_of_mem _ hb)
    show gpush (f x) (groups (xs.map f)) = (gpush x (groups xs)).map _
    rw [ih]
    cases e : groups xs with
    | nil => rfl
    | cons w r =>
      obtain ⟨y, k⟩ := w
      have hy : y ∈ xs := groups_mem xs (y, k) (by rw [e]; simp)
      rw [List.map_cons, gpush_cons, gpush_cons]
      by_cases exy : x = y
      · subst exy; simp
      · have : ¬ f x = f y := fun z => exy (h x (by simp) y (List.mem_cons_of_mem _ hy) z)
        simp [exy, this]

/-! ### how many groups are runs -/
def isRunG (p : α × Nat) : Bool := decide (2 ≤ p.2)
def nruns (l : List (α × Nat)) : Nat := (l.filter isRunG).length
theorem nruns_append (l m : List (α × Nat)) : nruns (l ++ m) = nruns l + nruns m := by simp [nruns]
theorem nruns_cons (p : α × Nat) (l : List (α × Nat)) : nruns (p :: l) = (if 2 ≤ p.2 then 1 else 0) + nruns l := by
  unfold nruns
  rw [List.filter_cons]
  by_cases h : 2 ≤ p.2
  · simp [isRunG, h]; omega
  · simp [isRunG, h]
/-- 2 r ≤ C, and one less where the first group is single -/
def Few (l : List (α × Nat)) (C : Nat) : Prop := 2 * nruns l ≤ C ∧ ∀ p r, l = p :: r → p.2 = 1 → 2 * nruns l + 1 ≤ C
theorem few_push (x : α) {l : List (α × Nat)} {C : Nat} (hp : ∀ p ∈ l, 1 ≤ p.2) (h : Few l C) : Few (gpush x l) (C + 1) := by
  obtain ⟨h1, h2⟩ := h
  cases l with
  | nil => simp [gpush, Few, nruns, isRunG]
  | cons q r =>
    obtain ⟨y, k⟩ := q
    have hk : 1 ≤ k := hp (y, k) (by simp)
    have h2' := h2 (y, k) r rfl
    rw [nruns_cons] at h1 h2'
    simp only at h1 h2'
    rw [gpush_cons]
    split
    · refine ⟨?_, fun p r' e e1 => ?_⟩
      · rw [nruns_cons]; simp only
        by_cases k1 : k = 1
        · have := h2' k1
          subst k1
          simp at this ⊢; omega
        · rw [if_pos (by omega)] at h1 ⊢; omega
      · injection e with ea eb
        subst ea
        simp at e1
        omega
    · refine ⟨?_, fun p r' e e1 => ?_⟩
      · rw [nruns_cons, nruns_cons]; simp only
        rw [if_neg (by omega)]; omega
      · rw [nruns_cons, nruns_cons]; simp only
        rw [if_neg (by omega)]; omega
theorem few_append {w : List α} {C : Nat} (h : Few (groups w) C) : ∀ u : List α, Few (groups (u ++ w)) (u.length + C)
  | [] => by simpa using h
  | x :: u => by
    have ih := few_append h u
    have := few_push x (groups_pos _) ih
    show Few (gpush x (groups (u ++ w))) _
    rw [show (x :: u).length + C = u.length + C + 1 by simp; omega]
    exact this
theorem few_self (u : List α) : Few (groups u) u.length := by
  have := few_append (w := ([] : List α)) (C := 0) (by simp [groups, Few, nruns]) u
  simpa using this
theorem push_rep (g : α) (u : List α) : ∀ k, ∃ c r, groups (List.replicate (k + 1) g ++ u) = (g, c) :: r ∧ nruns r ≤ nruns (groups u)
  | 0 => by
    show ∃ c r, gpush g (groups u) = (g, c) :: r ∧ _
    cases e : groups u with
    | nil => exact ⟨1, [], rfl, by simp [nruns]⟩
    | cons q r =>
      obtain ⟨y, k⟩ := q
      rw [gpush_cons]
      split
      · rename_i z; subst z; exact ⟨_, _, rfl, by rw [nruns_cons]; omega⟩
      · exact ⟨_, _, rfl, Nat.le_refl _⟩
  | k + 1 => by
    obtain ⟨c, r, e, h⟩ := push_rep g u k
    rw [List.replicate_succ, List.cons_append]
    show ∃ c r, gpush g (groups (List.replicate (k + 1) g ++ u)) = (g, c) :: r ∧ _
    rw [e]
    exact ⟨c + 1, r, by simp [gpush], h⟩
theorem few_rep (g : α) (k : Nat) (u : List α) : Few (groups (List.replicate k g ++ u)) (u.length + 2) := by
  cases k with
  | zero =>
    have := few_self u
    simp only [List.replicate_zero, List.nil_append]
    exact ⟨by have := this.1; omega, fun p r e e1 => by have := this.2 p r e e1; omega⟩
  | succ k =>
    obtain ⟨c, r, e, h⟩ := push_rep g u k
    have hu := (few_self u).1
    rw [e]
    refine ⟨?_, fun p r' ep e1 => ?_⟩
    · rw [nruns_cons]; split <;> omega
    · injection ep with ea eb
      subst ea
      rw [nruns_cons]
      simp only at e1 ⊢
      rw [if_neg (by omega)]; omega
theorem few_mid (A : List α) (g : α) (k : Nat) (B : List α) : 2 * nruns (groups (A ++ (List.replicate k g ++ B))) ≤ A.length + B.length + 2 := by
  have := (few_append (few_rep g k B) A).1
  omega

/-! ### a list is one stretch of one member, or it has two ends -/
theorem front (x : α) : ∀ l : List α, ∃ k v, x :: l = List.replicate (k + 1) x ++ v ∧ v.head? ≠ some x
  | [] => ⟨0, [], by simp⟩
  | y :: l => by
    by_cases e : x = y
    · subst e
      obtain ⟨k, v, e, h⟩ := front x l
      exact ⟨k + 1, v, by rw [e, List.replicate_succ (n := k + 1), List.cons_append], h⟩
    · exact ⟨0, y :: l, by simp, by simpa using fun z => e z.symm⟩
theorem back (v : List α) (hv : v ≠ []) : ∃ m k y, v = m ++ List.replicate (k + 1) y ∧ m.getLast? ≠ some y := by
  obtain ⟨y, l, e⟩ : ∃ y l, v.reverse = y :: l := by
    cases h : v.reverse with
    | nil => exact absurd (by simpa using h) hv
    | cons y l => exact ⟨y, l, rfl⟩
  obtain ⟨k, u, e2, h2⟩ := front y l
  refine ⟨u.reverse, k, y, ?_, by simpa using h2⟩
  have : v = (v.reverse).reverse := by simp
  rw [this, e, e2]
  simp
/-- the groups of two rows that share a stretch -/
theorem groups_shared (A G B X Y : List α) (hA : A.length ≤ 7) (hB : B.length ≤ 3) :
    ∃ IA IG IB IX IY, groups (A ++ G ++ B) = IA ++ IG ++ IB ∧ groups (X ++ G ++ Y) = IX ++ IG ++ IY ∧ IA.length ≤ 8 ∧ IB.length ≤ 4 ∧ nruns IA + nruns IB ≤ 6 := by
  have single : ∀ g k, G = List.replicate k g → ∃ IA IG IB IX IY, groups (A ++ G ++ B) = IA ++ IG ++ IB ∧ groups (X ++ G ++ Y) = IX ++ IG ++ IY ∧ IA.length ≤ 8 ∧ IB.length ≤ 4 ∧ nruns IA + nruns IB ≤ 6 := by
    rintro g k rfl
    refine ⟨(groups (A ++ List.replicate k g ++ B)).take 8, [], (groups (A ++ List.replicate k g ++ B)).drop 8, groups (X ++ List.replicate k g ++ Y), [], by simp, by simp, List.length_take_le _ _, ?_, ?_⟩
    · have h1 := groups_append_length A (List.replicate k g ++ B)
      have h2 : (groups (List.replicate k g ++ B)).length ≤ 1 + B.length := by
        cases k with
        | zero => have := groups_length B; simp; omega
        | succ k =>
          have key : ∀ j, (groups (List.replicate (j + 1) g ++ B)).length ≤ 1 + B.length := by
            intro j
            induction j with
            | zero =>
              have := gpush_length g (groups B)
              have := groups_length B
              show (gpush g (groups B)).length ≤ _
              omega
            | succ j ih =>
              rw [List.replicate_succ, List.cons_append]
              show (gpush g (groups (List.replicate (j + 1) g ++ B))).length ≤ _
              obtain ⟨c, r, e, _⟩ := push_rep g B j
              rw [e] at ih ⊢
              simpa [gpush] using ih
          exact key k
      rw [List.length_drop, List.append_assoc]; omega
    · rw [← nruns_append, List.take_append_drop, List.append_assoc]
      have := few_mid A g k B
      omega
  cases G with
  | nil =>
    by_cases hh : ∃ g : α, True
    · obtain ⟨g, _⟩ := hh
      exact single g 0 rfl
    · have hA : A = [] := by cases A with | nil => rfl | cons x _ => exact absurd ⟨x, trivial⟩ hh
      have hB : B = [] := by cases B with | nil => rfl | cons x _ => exact absurd ⟨x, trivial⟩ hh
      subst hA hB
      exact ⟨[], [], [], groups (X ++ [] ++ Y), [], by simp [groups], by simp, by simp, by simp, by simp [nruns]⟩
  | cons g1 G1 =>
    obtain ⟨k1, v, e1, h1⟩ := front g1 G1
    by_cases hv : v = []
    · subst hv
      exact single g1 (k1 + 1) (by simpa using e1)
    · obtain ⟨m, k2, g2, e2, h2⟩ := back v hv
      rw [e1]
      have split : ∀ U W : List α, groups (U ++ (List.replicate (k1 + 1) g1 ++ v) ++ W) = groups (U ++ List.replicate (k1 + 1) g1) ++ groups m ++ groups (List.replicate (k2 + 1) g2 ++ W) := by
        intro U W
        rw [show U ++ (List.replicate (k1 + 1) g1 ++ v) ++ W = (U ++ List.replicate (k1 + 1) g1) ++ (m ++ (List.replicate (k2 + 1) g2 ++ W)) by rw [e2]; simp]
        rw [groups_append (U ++ List.replicate (k1 + 1) g1), groups_append m]
        · simp
        · intro a b ha hb z
          simp [List.replicate_succ] at hb
          subst hb; subst z
          exact h2 ha
        · intro a b ha hb z
          rw [List.getLast?_append, List.getLast?_replicate] at ha
          simp at ha
          subst ha; subst z
          apply h1
          rw [e2]
          cases m with
          | nil => simpa [List.replicate_succ] using hb
          | cons y ys => simpa using hb
      refine ⟨_, _, _, _, _, split A B, split X Y, ?_, ?_, ?_⟩
      · have := groups_append_length A (List.replicate (k1 + 1) g1)
        have := replicate_groups_length g1 (k1 + 1)
        omega
      · have h3 := groups_append_length ([] : List α) (List.replicate (k2 + 1) g2 ++ B)
        obtain ⟨c, r, e, _⟩ := push_rep g2 B k2
        have key : ∀ j, (groups (List.replicate (j + 1) g2 ++ B)).length ≤ 1 + B.length := by
          intro j
          induction j with
          | zero =>
            have := gpush_length g2 (groups B)
            have := groups_length B
            show (gpush g2 (groups B)).length ≤ _
            omega
          | succ j ih =>
            rw [List.replicate_succ, List.cons_append]
            show (gpush g2 (groups (List.replicate (j + 1) g2 ++ B))).length ≤ _
            obtain ⟨c, r, e, _⟩ := push_rep g2 B j
            rw [e] at ih ⊢
            simpa [gpush] using ih
        have := key k2
        omega
      · have p1 := (few_append (few_rep g1 (k1 + 1) ([] : List α)) A).1
        have p2 := (few_rep g2 (k2 + 1) B).1
        simp only [List.append_nil, List.length_nil] at p1
        omega
end
end
end Sh

namespace Sh
/-! ### neighbours mixed -/
section
variable {α β : Type}
def pairs2 (f : α → α → β) : α → List α → List β
  | _, [] => []
  | p, c :: cs => f p c :: pairs2 f c cs
theorem pairs2_length (f : α → α → β) : ∀ (p : α) (l : List α), (pairs2 f p l).length = l.length
  | _, [] => rfl
  | _, c :: cs => by simp [pairs2, pairs2_length f c cs]
theorem pairs2_get (f : α → α → β) : ∀ (p : α) (l : List α) (i : Nat), (pairs2 f p l)[i + 1]? = (l[i]?).bind fun a => (l[i + 1]?).map (f a)
  | _, [], i => by simp [pairs2]
  | p, [c], i => by simp [pairs2]
  | p, c :: d :: cs, 0 => by simp [pairs2]
  | p, c :: d :: cs, i + 1 => by
    have := pairs2_get f c (d :: cs) i
    simpa [pairs2] using this
theorem pairs2_zero (f : α → α → β) (p c : α) (cs : List α) : (pairs2 f p (c :: cs))[0]? = some (f p c) := rfl
/-- two rows that share a window -/
def Mid (a x m : Nat) (L L' : List α) : Prop := a + m ≤ L.length ∧ x + m ≤ L'.length ∧ ∀ j, j < m → L[a + j]? = L'[x + j]?
theorem Mid.map {a x m : Nat} {L L' : List α} (h : Mid a x m L L') (f : α → β) : Mid a x m (L.map f) (L'.map f) := by
  obtain ⟨h1, h2, h3⟩ := h
  exact ⟨by simpa using h1, by simpa using h2, fun j hj => by simp [List.getElem?_map, h3 j hj]⟩
theorem Mid.pairs {a x m : Nat} {L L' : List α} (h : Mid a x m L L') (f : α → α → β) (p p' : α) (hm : 0 < m) : Mid (a + 1) (x + 1) (m - 1) (pairs2 f p L) (pairs2 f p' L') := by
  obtain ⟨h1, h2, h3⟩ := h
  refine ⟨by rw [pairs2_length]; omega, by rw [pairs2_length]; omega, fun j hj => ?_⟩
  rw [show a + 1 + j = (a + j) + 1 by omega, show x + 1 + j = (x + j) + 1 by omega, pairs2_get, pairs2_get, h3 j (by omega)]
  rw [show a + j + 1 = a + (j + 1) by omega, show x + j + 1 = x + (j + 1) by omega, h3 (j + 1) (by omega)]
theorem Mid.of_append (A G B X Y : List α) : Mid A.length X.length G.length (A ++ G ++ B) (X ++ G ++ Y) := by
  have one : ∀ (C D : List α) (j : Nat), j < G.length → (C ++ G ++ D)[C.length + j]? = G[j]? := fun C D j hj => by
    rw [List.append_assoc, List.getElem?_append_right (Nat.le_add_right _ _), Nat.add_sub_cancel_left, List.getElem?_append_left hj]
  exact ⟨by simp, by simp, fun j hj => by rw [one A B j hj, one X Y j hj]⟩
/-- neighbours differ -/
def Adj (l : List α) : Prop := ∀ i a b, l[i]? = some a → l[i + 1]? = some b → a ≠ b
end

/-! ### coins and colors -/
def fd : List Nat → List Nat → Nat
  | a :: as, b :: bs => if a = b then fd as bs + 1 else 0
  | _, _ => 0
def coin (a b : List Nat) : Nat := 65536 * fd a b + b.getD (fd a b) 0
def coins (cs : List (List Nat)) : List Nat := pairs2 coin [] cs
/-- neither is a beginning of the other -/
def Part : List Nat → List Nat → Prop
  | a :: as, b :: bs => a ≠ b ∨ Part as bs
  | _, _ => False
theorem Part.spec : ∀ {a b : List Nat}, Part a b → ∃ x y, a[fd a b]? = some x ∧ b[fd a b]? = some y ∧ x ≠ y
  | [], _, h => by simp [Part] at h
  | _ :: _, [], h => by simp [Part] at h
  | a :: as, b :: bs, h => by
    by_cases e : a = b
    · have h' : Part as bs := by
        rcases h with z | z
        · exact absurd e z
        · exact z
      obtain ⟨x, y, h1, h2, h3⟩ := h'.spec
      exact ⟨x, y, by simp [fd, e, h1], by simp [fd, e, h2], h3⟩
    · exact ⟨a, b, by simp [fd, e], by simp [fd, e], e⟩
theorem part_of (a b : List Nat) (h : ∀ s t, a ++ s ≠ b ++ t) : Part a b := by
  induction a generalizing b with
  | nil => exact (h b [] (by simp)).elim
  | cons x xs ih =>
    cases b with
    | nil => exact (h [] (x :: xs) (by simp)).elim
    | cons y ys =>
      by_cases e : x = y
      · subst e
        refine Or.inr (ih ys fun s t z => h s t ?_)
        simp [z]
      · exact Or.inl e
/-- a row of codes that can be told apart -/
def Codes (cs : List (List Nat)) : Prop := (∀ c ∈ cs, c ≠ [] ∧ ∀ d ∈ c, d < 65536) ∧ ∀ i a b, cs[i]? = some a → cs[i + 1]? = some b → Part a b
theorem coins_adj {cs : List (List Nat)} (h : Codes cs) : Adj (coins cs) := by
  obtain ⟨h1, h2⟩ := h
  -- every coin is 65536 p + c with c the code's own number at p
  have key : ∀ (i a : Nat), (coins cs)[i]? = some a → ∃ (p : Nat) (c : List Nat), cs[i]? = some c ∧ p < c.length ∧ a = 65536 * p + c.getD p 0 := by
    intro i a e
    cases cs with
    | nil => simp [coins, pairs2] at e
    | cons c0 r =>
      cases i with
      | zero =>
        rw [coins, pairs2_zero] at e
        cases e
        have := (h1 c0 (by simp)).1
        cases c0 with
        | nil => exact absurd rfl this
        | cons d ds => exact ⟨0, d :: ds, rfl, by simp, by simp [coin, fd]⟩
      | succ i =>
        rw [coins, pairs2_get] at e
        obtain ⟨u, hu, e⟩ := Option.bind_eq_some_iff.mp e
        obtain ⟨v, hv, e⟩ := Option.map_eq_some_iff.mp e
        obtain ⟨x, y, _, k2, _⟩ := (h2 i u v hu hv).spec
        exact ⟨fd u v, v, hv, (List.getElem?_eq_some_iff.mp k2).1, e.symm⟩
  intro i a b ha hb e
  obtain ⟨p, c, hc, hp, ea⟩ := key i a ha
  rw [coins] at hb
  rw [pairs2_get] at hb
  obtain ⟨u, hu, hb⟩ := Option.bind_eq_some_iff.mp hb
  obtain ⟨v, hv, hb⟩ := Option.map_eq_some_iff.mp hb
  rw [hc] at hu
  cases hu
  obtain ⟨x, y, k1, k2, k3⟩ := (h2 i c v hc hv).spec
  have hx : c.getD p 0 < 65536 := by
    rw [List.getD_eq_getElem?_getD, List.getElem?_eq_getElem hp]
    exact (h1 c (List.mem_of_getElem? hc)).2 _ (List.getElem_mem hp)
  have hy : y < 65536 := (h1 v (List.mem_of_getElem? hv)).2 _ (List.mem_of_getElem? k2)
  have eb : b = 65536 * fd c v + y := by rw [← hb, coin, List.getD_eq_getElem?_getD, k2]; rfl
  have ep : p = fd c v := by omega
  subst ep
  have : c.getD (fd c v) 0 = x := by rw [List.getD_eq_getElem?_getD, k1]; rfl
  omega

def low2 (d : Nat) : Nat := d - (d &&& (d - 1))
def bitpos (d : Nat) : Nat := (low2 d).log2
def mix (a b : Nat) : Nat := 2 * bitpos (a ^^^ b) + b / 2 ^ bitpos (a ^^^ b) % 2
def round : List Nat → List Nat
  | [] => []
  | a :: r => a % 2 :: pairs2 mix a r
def colors (cs : List (List Nat)) : List Nat := round (round (round (round (coins cs))))

theorem and_pred_odd (e : Nat) : (2 * e + 1) &&& (2 * e) = 2 * e := by
  apply Nat.eq_of_testBit_eq
  intro i
  cases i with
  | zero => simp [Nat.testBit_and]
  | succ i => rw [Nat.testBit_and, Nat.testBit_succ, Nat.testBit_succ, show (2 * e + 1) / 2 = e by omega, show 2 * e / 2 = e by omega, Bool.and_self]
theorem and_pred_even (e : Nat) (h : 0 < e) : (2 * e) &&& (2 * e - 1) = 2 * (e &&& (e - 1)) := by
  apply Nat.eq_of_testBit_eq
  intro i
  cases i with
  | zero => simp [Nat.testBit_and]
  | succ i => rw [Nat.testBit_and, Nat.testBit_succ, Nat.testBit_succ, Nat.testBit_succ, show (2 * e - 1) / 2 = e - 1 by omega, show 2 * e / 2 = e by omega, show 2 * (e &&& e - 1) / 2 = (e &&& e - 1) by omega, Nat.testBit_and]
theorem low2_spec : ∀ (d : Nat), 0 < d → 0 < low2 d ∧ d.testBit (bitpos d) = true := by
  intro d
  induction d using Nat.strongRecOn with
  | _ d ih =>
    intro hd
    rcases Nat.mod_two_eq_zero_or_one d with h | h
    · obtain ⟨e, rfl⟩ : ∃ e, d = 2 * e := ⟨d / 2, by omega⟩
      have he : 0 < e := by omega
      obtain ⟨h1, h2⟩ := ih e (by omega) he
      have el : low2 (2 * e) = 2 * low2 e := by
        unfold low2
        rw [and_pred_even e he]; omega
      refine ⟨by omega, ?_⟩
      unfold bitpos
      rw [el, Nat.log2_two_mul (by omega), Nat.testBit_succ, show 2 * e / 2 = e by omega]
      exact h2
    · obtain ⟨e, rfl⟩ : ∃ e, d = 2 * e + 1 := ⟨d / 2, by omega⟩
      have el : low2 (2 * e + 1) = 1 := by
        unfold low2
        rw [show 2 * e + 1 - 1 = 2 * e by omega, and_pred_odd]; omega
      refine ⟨by omega, ?_⟩
      unfold bitpos
      rw [el, show Nat.log2 1 = 0 by decide]
      simp
theorem xor_pos {a b : Nat} (h : a ≠ b) : 0 < a ^^^ b := by
  rcases Nat.eq_zero_or_pos (a ^^^ b) with e | e
  · refine absurd ?_ h
    have : (a ^^^ b) ^^^ b = b := by rw [e, Nat.zero_xor]
    rwa [Nat.xor_assoc, Nat.xor_self, Nat.xor_zero] at this
  · exact e
theorem bit_mod (b p : Nat) : b / 2 ^ p % 2 = if b.testBit p then 1 else 0 := by
  rw [Nat.testBit_eq_decide_div_mod_eq]
  rcases Nat.mod_two_eq_zero_or_one (b / 2 ^ p) with h | h <;> simp [h]
theorem mix_apart {a b : Nat} (h : a ≠ b) : a.testBit (bitpos (a ^^^ b)) ≠ b.testBit (bitpos (a ^^^ b)) := by
  have := (low2_spec _ (xor_pos h)).2
  rw [Nat.testBit_xor] at this
  intro e
  rw [e] at this
  simp at this
theorem mix_ne {a b c : Nat} (h1 : a ≠ b) (h2 : b ≠ c) : mix a b ≠ mix b c := by
  intro e
  unfold mix at e
  have m1 := Nat.mod_lt (b / 2 ^ bitpos (a ^^^ b)) (show 0 < 2 by omega)
  have m2 := Nat.mod_lt (c / 2 ^ bitpos (b ^^^ c)) (show 0 < 2 by omega)
  have ep : bitpos (a ^^^ b) = bitpos (b ^^^ c) := by omega
  rw [ep, bit_mod, bit_mod] at e
  have := mix_apart h2
  cases hb : b.testBit (bitpos (b ^^^ c)) <;> cases hc : c.testBit (bitpos (b ^^^ c)) <;> rw [hb, hc] at this e <;> simp at this e
theorem mix_first {a b : Nat} (h : a ≠ b) : a % 2 ≠ mix a b := by
  intro e
  unfold mix at e
  have m1 := Nat.mod_lt (b / 2 ^ bitpos (a ^^^ b)) (show 0 < 2 by omega)
  have ep : bitpos (a ^^^ b) = 0 := by omega
  have := mix_apart h
  rw [ep] at this e
  rw [Nat.pow_zero, Nat.div_one] at e
  simp only [Nat.testBit_zero] at this
  apply this
  have : a % 2 = b % 2 := by omega
  rw [this]
theorem round_length (l : List Nat) : (round l).length = l.length := by
  cases l with
  | nil => rfl
  | cons a r => simp [round, pairs2_length]
theorem round_get (l : List Nat) (i : Nat) : (round l)[i + 1]? = (l[i]?).bind fun a => (l[i + 1]?).map (mix a) := by
  cases l with
  | nil => simp [round]
  | cons a r =>
    cases i with
    | zero =>
      cases r with
      | nil => simp [round, pairs2]
      | cons b r => simp [round, pairs2]
    | succ i =>
      have := pairs2_get mix a r i
      simpa [round] using this
theorem round_adj {l : List Nat} (h : Adj l) : Adj (round l) := by
  intro i a b ha hb
  rw [round_get] at hb
  obtain ⟨u, hu, hb⟩ := Option.bind_eq_some_iff.mp hb
  obtain ⟨v, hv, hb⟩ := Option.map_eq_some_iff.mp hb
  subst hb
  cases i with
  | zero =>
    cases l with
    | nil => simp [round] at ha
    | cons c r =>
      simp [round] at ha
      simp at hu
      subst hu; subst ha
      exact mix_first (h 0 c v rfl hv)
  | succ i =>
    rw [round_get] at ha
    obtain ⟨u', hu', ha⟩ := Option.bind_eq_some_iff.mp ha
    obtain ⟨v', hv', ha⟩ := Option.map_eq_some_iff.mp ha
    subst ha
    rw [hv'] at hu
    cases hu
    exact mix_ne (h i u' u hu' hv') (h (i + 1) u v hv' hv)
theorem Mid.round {a x m : Nat} {L L' : List Nat} (h : Mid a x m L L') (hm : 0 < m) : Mid (a + 1) (x + 1) (m - 1) (round L) (round L') := by
  obtain ⟨h1, h2, h3⟩ := h
  refine ⟨by rw [round_length]; omega, by rw [round_length]; omega, fun j hj => ?_⟩
  rw [show a + 1 + j = (a + j) + 1 by omega, show x + 1 + j = (x + j) + 1 by omega, round_get, round_get, h3 j (by omega)]
  rw [show a + j + 1 = a + (j + 1) by omega, show x + j + 1 = x + (j + 1) by omega, h3 (j + 1) (by omega)]
theorem colors_length (cs : List (List Nat)) : (colors cs).length = cs.length := by
  simp only [colors, round_length, coins, pairs2_length]
theorem Mid.colors {a x m : Nat} {L L' : List (List Nat)} (h : Mid a x m L L') (hm : 8 ≤ m) : Mid (a + 5) (x + 5) (m - 5) (colors L) (colors L') := by
  have h1 := h.pairs coin [] [] (by omega)
  have h2 := h1.round (by omega)
  have h3 := h2.round (by omega)
  have h4 := h3.round (by omega)
  have h5 := h4.round (by omega)
  exact h5

/-! ### starts and cuts -/
def peak (cs : List Nat) (p : Nat) : Bool := decide (cs.getD (p - 1) 0 < cs.getD p 0) && decide (cs.getD (p + 1) 0 < cs.getD p 0)
def isStart (cs : List Nat) (p : Nat) : Bool := p == 0 || (decide (2 ≤ p) && decide (p + 2 ≤ cs.length) && peak cs p)
def starts (cs : List Nat) : List Nat := (List.range cs.length).filter (isStart cs)
theorem starts_nil : starts [] = [] := rfl
theorem starts_eq {cs : List Nat} (h : cs ≠ []) : starts cs = 0 :: ((List.range (cs.length - 3)).map (· + 2)).filter (peak cs) := by
  have hl : 0 < cs.length := List.length_pos_iff.mpr h
  unfold starts
  by_cases h3 : cs.length ≤ 2
  · rw [show cs.length - 3 = 0 by omega]
    rcases (show cs.length = 1 ∨ cs.length = 2 by omega) with e | e
    · rw [e]; simp [List.range_succ, isStart]
    · rw [e]; simp [List.range_succ, isStart]
  · obtain ⟨k, hk⟩ : ∃ k, cs.length = k + 3 := ⟨cs.length - 3, by omega⟩
    rw [show List.range cs.length = [0, 1] ++ ((List.range k).map (· + 2) ++ [k + 2]) by
      rw [hk, List.range_succ, Nat.add_comm k 2, List.range_add]
      simp [List.range_succ, Nat.add_comm]]
    rw [hk, Nat.add_sub_cancel, List.filter_append, List.filter_append]
    have e1 : List.filter (isStart cs) [0, 1] = [0] := by simp [isStart]
    have e2 : List.filter (isStart cs) [k + 2] = [] := by
      simp [isStart, hk]
    rw [e1, e2, List.append_nil]
    show 0 :: _ = 0 :: _
    congr 1
    apply List.filter_congr
    intro p hp
    obtain ⟨j, hj, rfl⟩ := List.mem_map.mp hp
    have := List.mem_range.mp hj
    have h1 : (j + 2 == 0) = false := by simp
    simp only [isStart, h1, Bool.false_or, hk]
    rw [decide_eq_true (show 2 ≤ j + 2 by omega), decide_eq_true (show j + 2 + 2 ≤ k + 3 by omega)]
    simp
theorem peak_sparse (cs : List Nat) (p : Nat) (h : peak cs p = true) : ¬ peak cs (p + 1) = true := by
  simp only [peak, Bool.and_eq_true, decide_eq_true_eq, Nat.add_sub_cancel] at h ⊢
  omega
theorem isStart_sparse (cs : List Nat) (p : Nat) (h : isStart cs p = true) : ¬ isStart cs (p + 1) = true := by
  simp only [isStart, Bool.or_eq_true, beq_iff_eq, Bool.and_eq_true, decide_eq_true_eq] at h ⊢
  rcases h with h | h
  · subst h; omega
  · have := peak_sparse cs p h.2
    rintro (z | z)
    · omega
    · exact this z.2
theorem sparse_count (Q : Nat → Bool) (hQ : ∀ p, Q p = true → ¬ Q (p + 1) = true) : ∀ (k s : Nat), 2 * ((List.range' s k).filter Q).length ≤ k + 1
  | 0, s => by simp
  | 1, s => by
    have := List.length_filter_le Q (List.range' s 1)
    simp only [List.length_range'] at this
    omega
  | k + 2, s => by
    rw [List.range'_succ, List.range'_succ]
    have ih := sparse_count Q hQ k (s + 1 + 1)
    rw [List.filter_cons, List.filter_cons]
    by_cases h : Q s = true
    · rw [if_pos h, if_neg (hQ s h)]
      simp only [List.length_cons]; omega
    · rw [if_neg h]
      split
      · simp only [List.length_cons]; omega
      · omega
theorem starts_count {cs : List Nat} (h : 2 ≤ cs.length) : 2 * (starts cs).length ≤ cs.length := by
  obtain ⟨n, hn⟩ : ∃ n, cs.length = n + 1 := ⟨cs.length - 1, by omega⟩
  unfold starts
  rw [hn, List.range_succ, List.filter_append]
  have e : List.filter (isStart cs) [n] = [] := by
    have h1 : (n == 0) = false := by rw [beq_eq_false_iff_ne]; omega
    simp [isStart, h1, hn]
  rw [e, List.append_nil, List.range_eq_range']
  have := sparse_count _ (isStart_sparse cs) n 0
  omega
theorem starts_one {cs : List Nat} (h : cs.length = 1) : starts cs = [0] := by
  unfold starts; rw [h]; simp [List.range_succ, isStart]

section
variable {α : Type}
def segs : List Nat → List (Nat × Nat)
  | s :: t :: r => (s, t) :: segs (t :: r)
  | _ => []
def slice (L : List α) (p : Nat × Nat) : List α := (L.drop p.1).take (p.2 - p.1)
def cut (L : List α) (ss : List Nat) : List (List α) := (segs (ss ++ [L.length])).map (slice L)
theorem segs_length : ∀ l : List Nat, (segs l).length = l.length - 1
  | [] => rfl
  | [_] => rfl
  | s :: t :: r => by
    have := segs_length (t :: r)
    simp only [segs, List.length_cons] at this ⊢; omega
theorem segs_split : ∀ (u : List Nat) (p : Nat) (v : List Nat), segs (u ++ p :: v) = segs (u ++ [p]) ++ segs (p :: v)
  | [], p, v => rfl
  | [s], p, v => rfl
  | s :: t :: r, p, v => by
    have := segs_split (t :: r) p v
    simp only [List.cons_append, segs] at this ⊢
    rw [this]
theorem segs_map (f : Nat → Nat) : ∀ l : List Nat, segs (l.map f) = (segs l).map fun p => (f p.1, f p.2)
  | [] => rfl
  | [_] => rfl
  | s :: t :: r => by
    have := segs_map f (t :: r)
    simp only [List.map_cons, segs] at this ⊢
    rw [this]
theorem segs_mem : ∀ (l : List Nat) (p : Nat × Nat), p ∈ segs l → p.1 ∈ l ∧ p.2 ∈ l
  | [], p, h => by simp [segs] at h
  | [_], p, h => by simp [segs] at h
  | s :: t :: r, p, h => by
    rcases List.mem_cons.mp h with z | z
    · subst z; simp
    · have := segs_mem (t :: r) p z
      exact ⟨List.mem_cons_of_mem _ this.1, List.mem_cons_of_mem _ this.2⟩
theorem segs_lt : ∀ (l : List Nat), l.Pairwise (· < ·) → ∀ p ∈ segs l, p.1 < p.2
  | [], _, p, h => by simp [segs] at h
  | [_], _, p, h => by simp [segs] at h
  | s :: t :: r, hl, p, h => by
    rcases List.mem_cons.mp h with z | z
    · subst z; exact (List.pairwise_cons.mp hl).1 t (by simp)
    · exact segs_lt (t :: r) (List.pairwise_cons.mp hl).2 p z
theorem cut_length (L : List α) (ss : List Nat) : (cut L ss).length = ss.length := by simp [cut, segs_length]
theorem starts_sorted (cs : List Nat) : (starts cs).Pairwise (· < ·) := List.Pairwise.filter _ List.pairwise_lt_range
theorem starts_lt {cs : List Nat} {p : Nat} (h : p ∈ starts cs) : p < cs.length := List.mem_range.mp (List.mem_filter.mp h).1
theorem starts_end_sorted (cs : List Nat) : (starts cs ++ [cs.length]).Pairwise (· < ·) := by
  rw [List.pairwise_append]
  exact ⟨starts_sorted cs, by simp, fun a ha b hb => by simp at hb; subst hb; exact starts_lt ha⟩
/-- the cut's parts, one after another, are the row -/
theorem flatten_segs (L : List α) : ∀ (l : List Nat) (s : Nat), (s :: l).Pairwise (· < ·) → (∀ p ∈ s :: l, p ≤ L.length) → ((segs (s :: l ++ [L.length])).map (slice L)).flatten = L.drop s
  | [], s, _, _ => by simp [segs, slice, List.take_of_length_le]
  | t :: l, s, h, hb => by
    have ih := flatten_segs L l t (List.pairwise_cons.mp h).2 fun p hp => hb p (List.mem_cons_of_mem _ hp)
    have hst : s < t := (List.pairwise_cons.mp h).1 t (by simp)
    simp only [List.cons_append, segs, List.map_cons, List.flatten_cons] at ih ⊢
    rw [ih]
    unfold slice
    simp only
    rw [show L.drop t = (L.drop s).drop (t - s) by rw [List.drop_drop]; congr 1; omega, List.take_append_drop]
theorem cut_flatten (L : List α) (cs : List Nat) (hl : cs.length = L.length) (h : cs ≠ []) : (cut L (starts cs)).flatten = L := by
  have hs := starts_sorted cs
  have hlt : ∀ p ∈ starts cs, p ≤ L.length := fun p hp => by have := starts_lt hp; omega
  unfold cut
  rw [starts_eq h] at hs hlt ⊢
  rw [flatten_segs L _ 0 hs hlt, List.drop_zero]
theorem cut_ne_nil (L : List α) (cs : List Nat) (hl : cs.length = L.length) : ∀ b ∈ cut L (starts cs), b ≠ [] := by
  intro b hb
  obtain ⟨p, hp, rfl⟩ := List.mem_map.mp hb
  rw [← hl] at hp
  have h1 := segs_lt _ (starts_end_sorted cs) p hp
  have h2 := (segs_mem _ p hp)
  have h3 : p.2 ≤ cs.length := by
    rcases List.mem_append.mp h2.2 with z | z
    · exact Nat.le_of_lt (starts_lt z)
    · simp at z; omega
  intro z
  have := congrArg List.length z
  simp [slice] at this
  omega
/-- two rows that share a stretch share the blocks in it -/
theorem cut_shared (IA IG IB IX IY : List α) (cs cs' : List Nat) (h1 : cs.length = (IA ++ IG ++ IB).length) (h2 : cs'.length = (IX ++ IG ++ IY).length)
    (hm : 8 ≤ IG.length → Mid (IA.length + 5) (IX.length + 5) (IG.length - 5) cs cs') (ha : IA.length ≤ 8) (hb : IB.length ≤ 4) :
    ∃ A G B X Y, cut (IA ++ IG ++ IB) (starts cs) = A ++ G ++ B ∧ cut (IX ++ IG ++ IY) (starts cs') = X ++ G ++ Y ∧ A.length ≤ 7 ∧ B.length ≤ 3 := by
  have small : (starts cs).length ≤ 10 → ∃ A G B X Y, cut (IA ++ IG ++ IB) (starts cs) = A ++ G ++ B ∧ cut (IX ++ IG ++ IY) (starts cs') = X ++ G ++ Y ∧ A.length ≤ 7 ∧ B.length ≤ 3 := by
    intro h
    refine ⟨(cut (IA ++ IG ++ IB) (starts cs)).take 7, [], (cut (IA ++ IG ++ IB) (starts cs)).drop 7, cut (IX ++ IG ++ IY) (starts cs'), [], by simp, by simp, List.length_take_le _ _, ?_⟩
    rw [List.length_drop, cut_length]; omega
  simp only [List.length_append] at h1 h2
  by_cases h8 : 8 ≤ IG.length
  · have hm := hm h8
    obtain ⟨m1, m2, m3⟩ := hm
    generalize ea : IA.length = a at *
    generalize eb : IB.length = b at *
    generalize ex : IX.length = x at *
    generalize ey : IY.length = y at *
    obtain ⟨m, em⟩ : ∃ m, IG.length = m + 7 := ⟨IG.length - 7, by omega⟩
    -- the good starts
    have same : ∀ j, j < m → isStart cs (a + 6 + j) = isStart cs' (x + 6 + j) := by
      intro j hj
      have g : ∀ i, i < m + 2 → cs.getD (a + 5 + i) 0 = cs'.getD (x + 5 + i) 0 := by
        intro i hi
        rw [List.getD_eq_getElem?_getD, List.getD_eq_getElem?_getD, m3 i (by omega)]
      have e0 := g j (by omega)
      have e1 := g (j + 1) (by omega)
      have e2 := g (j + 2) (by omega)
      unfold isStart peak
      have z1 : (a + 6 + j == 0) = false := by rw [beq_eq_false_iff_ne]; omega
      have z2 : (x + 6 + j == 0) = false := by rw [beq_eq_false_iff_ne]; omega
      rw [z1, z2, decide_eq_true (show 2 ≤ a + 6 + j by omega), decide_eq_true (show 2 ≤ x + 6 + j by omega), decide_eq_true (show a + 6 + j + 2 ≤ cs.length by omega), decide_eq_true (show x + 6 + j + 2 ≤ cs'.length by omega)]
      rw [show a + 6 + j - 1 = a + 5 + j by omega, show x + 6 + j - 1 = x + 5 + j by omega, e0, show a + 6 + j = a + 5 + (j + 1) by omega, show x + 6 + j = x + 5 + (j + 1) by omega, e1,
        show a + 5 + (j + 1) + 1 = a + 5 + (j + 2) by omega, show x + 5 + (j + 1) + 1 = x + 5 + (j + 2) by omega, e2]
    let U := (List.range m).filter fun j => isStart cs (a + 6 + j)
    have three : ∀ (ds : List Nat) (c d : Nat), ds.length = (c + 6) + m + (d + 1) → (∀ j, j < m → isStart ds (c + 6 + j) = isStart cs (a + 6 + j)) →
        starts ds = (List.range' 0 (c + 6)).filter (isStart ds) ++ U.map (· + (c + 6)) ++ (List.range' (c + 6 + m) (d + 1)).filter (isStart ds) := by
      intro ds c d hd hsame
      unfold starts
      have r1 := List.range'_append_1 (s := 0) (m := c + 6) (n := m + (d + 1))
      have r2 := List.range'_append_1 (s := c + 6) (m := m) (n := d + 1)
      rw [Nat.zero_add] at r1
      rw [List.range_eq_range', hd, show c + 6 + m + (d + 1) = (c + 6) + (m + (d + 1)) by omega, ← r1, ← r2, List.filter_append, List.filter_append, List.append_assoc]
      congr 1
      congr 1
      rw [show List.range' (c + 6) m = (List.range m).map (· + (c + 6)) by
        rw [List.range'_eq_map_range]
        apply List.map_congr_left
        intro i _; omega]
      rw [List.filter_map]
      congr 1
      apply List.filter_congr
      intro j hj
      have := hsame j (List.mem_range.mp hj)
      simp only [Function.comp]
      rw [Nat.add_comm j, this]
    have s1 := three cs a b (by omega) fun j _ => rfl
    have s2 := three cs' x y (by omega) fun j hj => (same j hj).symm
    have c1 : ((List.range' 0 (a + 6)).filter (isStart cs)).length ≤ 7 := by
      have := sparse_count _ (isStart_sparse cs) (a + 6) 0
      omega
    have c3 : ((List.range' (a + 6 + m) (b + 1)).filter (isStart cs)).length ≤ 2 := by
      have := sparse_count _ (isStart_sparse cs) b (a + 6 + m)
      rw [List.range'_1_concat, List.filter_append]
      have e : List.filter (isStart cs) [a + 6 + m + b] = [] := by
        have h1 : (a + 6 + m + b == 0) = false := by rw [beq_eq_false_iff_ne]; omega
        have h2 : decide (a + 6 + m + b + 2 ≤ cs.length) = false := decide_eq_false (by omega)
        simp [isStart, h1, h2]
      rw [e, List.append_nil]; omega
    cases hU : U with
    | nil =>
      refine small ?_
      rw [s1, hU]
      simp only [List.map_nil, List.append_nil, List.length_append]
      omega
    | cons u0 U' =>
      obtain ⟨V, uk, eV⟩ : ∃ V uk, U = V ++ [uk] := ⟨U.dropLast, U.getLast (by rw [hU]; simp), by rw [List.dropLast_concat_getLast]⟩
      have slices : ∀ p ∈ segs U, slice (IA ++ IG ++ IB) (p.1 + (a + 6), p.2 + (a + 6)) = slice (IX ++ IG ++ IY) (p.1 + (x + 6), p.2 + (x + 6)) := by
        intro p hp
        obtain ⟨hp1, hp2⟩ := segs_mem _ p hp
        have q1 := List.mem_range.mp (List.mem_filter.mp hp1).1
        have q2 := List.mem_range.mp (List.mem_filter.mp hp2).1
        have one : ∀ (C D : List α) (c : Nat), C.length = c → slice (C ++ IG ++ D) (p.1 + (c + 6), p.2 + (c + 6)) = (IG.drop (p.1 + 6)).take (p.2 - p.1) := by
          intro C D c hc
          unfold slice
          simp only
          rw [List.append_assoc, List.drop_append, List.drop_eq_nil_of_le (by omega), List.nil_append, List.drop_append, hc]
          rw [show p.1 + (c + 6) - c = p.1 + 6 by omega, show p.2 + (c + 6) - (p.1 + (c + 6)) = p.2 - p.1 by omega]
          rw [List.take_append_of_le_length]
          rw [List.length_drop]; omega
        rw [one IA IB a ea, one IX IY x ex]
      have build : ∀ (C D : List α) (ds : List Nat) (c : Nat) (S1 S3 : List Nat), starts ds = S1 ++ U.map (· + (c + 6)) ++ S3 →
          cut (C ++ IG ++ D) (starts ds) = (segs (S1 ++ [u0 + (c + 6)])).map (slice (C ++ IG ++ D)) ++ ((segs U).map fun p => slice (C ++ IG ++ D) (p.1 + (c + 6), p.2 + (c + 6))) ++ (segs ((uk + (c + 6)) :: (S3 ++ [(C ++ IG ++ D).length]))).map (slice (C ++ IG ++ D)) := by
        intro C D ds c S1 S3 hs
        unfold cut
        rw [hs]
        have e1 : S1 ++ U.map (· + (c + 6)) ++ S3 ++ [(C ++ IG ++ D).length] = S1 ++ (u0 + (c + 6)) :: (U'.map (· + (c + 6)) ++ (S3 ++ [(C ++ IG ++ D).length])) := by
          rw [hU]; simp
        rw [e1, segs_split S1]
        have e2 : (u0 + (c + 6)) :: (U'.map (· + (c + 6)) ++ (S3 ++ [(C ++ IG ++ D).length])) = V.map (· + (c + 6)) ++ (uk + (c + 6)) :: (S3 ++ [(C ++ IG ++ D).length]) := by
          have : U.map (· + (c + 6)) = V.map (· + (c + 6)) ++ [uk + (c + 6)] := by rw [eV]; simp
          have t : (u0 + (c + 6)) :: (U'.map (· + (c + 6)) ++ (S3 ++ [(C ++ IG ++ D).length])) = U.map (· + (c + 6)) ++ (S3 ++ [(C ++ IG ++ D).length]) := by rw [hU]; simp
          rw [t, this]; simp
        rw [e2, segs_split (V.map (· + (c + 6)))]
        have e3 : V.map (· + (c + 6)) ++ [uk + (c + 6)] = U.map (· + (c + 6)) := by rw [eV]; simp
        rw [e3, segs_map, List.map_append, List.map_append, List.map_map]
        exact (List.append_assoc _ _ _).symm
      rw [build IA IB cs a _ _ s1, build IX IY cs' x _ _ s2, List.map_congr_left slices]
      exact ⟨_, _, _, _, _, rfl, rfl, by rw [List.length_map, segs_length]; simp only [List.length_append, List.length_cons, List.length_nil]; omega, by rw [List.length_map, segs_length]; simp only [List.length_append, List.length_cons, List.length_nil]; omega⟩
  · refine small ?_
    by_cases h2l : 2 ≤ cs.length
    · have := starts_count h2l; omega
    · have : (starts cs).length ≤ cs.length := by
        unfold starts
        have := List.length_filter_le (isStart cs) (List.range cs.length)
        rw [List.length_range] at this
        exact this
      omega
end
end Sh

namespace Sh
open PySem
/-! ### nodes -/
inductive Nd where
  | leaf (e : NestedKey)
  | run (n : Nd) (k : Nat)
  | block (ns : List Nd)
noncomputable instance instDecNd : DecidableEq Nd := fun a b => Classical.propDecidable (a = b)
def Nd.isRun : Nd → Bool
  | .run _ _ => true
  | _ => false
def Nd.isBlock : Nd → Bool
  | .block _ => true
  | _ => false
def Nd.isLeaf : Nd → Bool
  | .leaf _ => true
  | _ => false
def Nd.kids : Nd → List Nd
  | .leaf _ => []
  | .run n _ => [n]
  | .block ns => ns

/-! ### codes -/
def digs : Nat → Nat → List Nat
  | 0, _ => []
  | k + 1, n => (n / 65536 ^ k % 65536) :: digs k n
theorem digs_length : ∀ k n, (digs k n).length = k
  | 0, _ => rfl
  | k + 1, n => by simp [digs, digs_length k n]
theorem digs_lt : ∀ k n, ∀ d ∈ digs k n, d < 65536
  | 0, _, d, h => by simp [digs] at h
  | k + 1, n, d, h => by
    rcases List.mem_cons.mp h with z | z
    · subst z; exact Nat.mod_lt _ (by omega)
    · exact digs_lt k n d z
theorem digs_inj : ∀ k n m, digs k n = digs k m → n % 65536 ^ k = m % 65536 ^ k
  | 0, _, _, _ => by simp [Nat.mod_one]
  | k + 1, n, m, h => by
    simp only [digs, List.cons.injEq] at h
    have ih := digs_inj k n m h.2
    rw [Nat.mod_pow_succ, Nat.mod_pow_succ, h.1, ih]
def sccode : NestedKey → List Nat
  | .num i => if i < 0 then 2 :: digs 4 (-i).toNat else 1 :: digs 4 i.toNat
  | .text s => 3 :: s.length :: s.cps.toList
  | _ => []
theorem sccode_num (i : Int) : sccode (.num i) = if i < 0 then 2 :: digs 4 (-i).toNat else 1 :: digs 4 i.toNat := rfl
theorem sccode_text (s : Str) : sccode (.text s) = 3 :: s.length :: s.cps.toList := rfl
theorem str_len (x : Str) : x.cps.toList.length = x.length := Array.length_toList
def elcode : NestedKey → List Nat
  | .tup [a, b] => 4 :: (sccode a ++ sccode b)
  | e => sccode e
def OkSc : NestedKey → Prop
  | .num i => i.natAbs ≤ 1000000000000000
  | .text s => s.length ≤ 20 ∧ ∀ c ∈ s.cps.toList, c < 128
  | _ => False
def OkEl : NestedKey → Prop
  | .tup [a, b] => OkSc a ∧ OkSc b
  | e => OkSc e
theorem sc_cancel {a b : NestedKey} {s t : List Nat} (ha : OkSc a) (hb : OkSc b) (h : sccode a ++ s = sccode b ++ t) : a = b ∧ s = t := by
  have pw : (65536 : Nat) ^ 4 = 18446744073709551616 := by decide
  have dg : ∀ (n m : Nat) (s t : List Nat), n < 65536 ^ 4 → m < 65536 ^ 4 → digs 4 n ++ s = digs 4 m ++ t → n = m ∧ s = t := by
    intro n m s t hn hm h
    have := List.append_inj h (by rw [digs_length, digs_length])
    have e := digs_inj 4 n m this.1
    rw [Nat.mod_eq_of_lt hn, Nat.mod_eq_of_lt hm] at e
    exact ⟨e, this.2⟩
  cases a with
  | none => exact ha.elim
  | tup _ => exact ha.elim
  | num i =>
    have hi : i.natAbs ≤ 1000000000000000 := ha
    cases b with
    | none => exact hb.elim
    | tup _ => exact hb.elim
    | num j =>
      have hj : j.natAbs ≤ 1000000000000000 := hb
      rw [sccode_num, sccode_num] at h
      split at h <;> split at h
      · simp only [List.cons_append, List.cons.injEq, true_and] at h
        have := dg _ _ _ _ (by rw [pw]; omega) (by rw [pw]; omega) h
        exact ⟨by rw [show i = j by omega], this.2⟩
      · simp at h
      · simp at h
      · simp only [List.cons_append, List.cons.injEq, true_and] at h
        have := dg _ _ _ _ (by rw [pw]; omega) (by rw [pw]; omega) h
        exact ⟨by rw [show i = j by omega], this.2⟩
    | text y =>
      rw [sccode_num, sccode_text] at h
      split at h <;> simp at h
  | text x =>
    cases b with
    | none => exact hb.elim
    | tup _ => exact hb.elim
    | num j =>
      rw [sccode_num, sccode_text] at h
      split at h <;> simp at h
    | text y =>
      rw [sccode_text, sccode_text] at h
      simp only [List.cons_append, List.cons.injEq, true_and] at h
      have := List.append_inj h.2 (by rw [str_len, str_len]; exact h.1)
      refine ⟨?_, this.2⟩
      obtain ⟨⟨xs⟩⟩ := x
      obtain ⟨⟨ys⟩⟩ := y
      have e : xs = ys := by simpa using this.1
      rw [e]
theorem sc_head {a : NestedKey} (ha : OkSc a) : ∃ d r, sccode a = d :: r ∧ 1 ≤ d ∧ d ≤ 3 := by
  cases a with
  | none => exact ha.elim
  | tup _ => exact ha.elim
  | num i => rw [sccode_num]; split <;> exact ⟨_, _, rfl, by decide, by decide⟩
  | text x => exact ⟨3, _, rfl, by omega, by omega⟩
theorem ok_cases {e : NestedKey} (h : OkEl e) : (OkSc e ∧ elcode e = sccode e) ∨ ∃ a b, e = .tup [a, b] ∧ OkSc a ∧ OkSc b := by
  unfold OkEl at h
  split at h
  · rename_i a b; exact .inr ⟨a, b, rfl, h.1, h.2⟩
  · refine .inl ⟨h, ?_⟩
    unfold elcode
    split
    · rename_i a b hne; exact absurd rfl (hne a b)
    · rfl
theorem el_cancel {a b : NestedKey} {s t : List Nat} (ha : OkEl a) (hb : OkEl b) (h : elcode a ++ s = elcode b ++ t) : a = b ∧ s = t := by
  rcases ok_cases ha with ⟨ha, ea⟩ | ⟨a1, a2, rfl, ha1, ha2⟩ <;> rcases ok_cases hb with ⟨hb, eb⟩ | ⟨b1, b2, rfl, hb1, hb2⟩
  · rw [ea, eb] at h; exact sc_cancel ha hb h
  · obtain ⟨d, r, e, h1, h2⟩ := sc_head ha
    rw [ea, e] at h
    simp only [elcode, List.cons_append, List.cons.injEq] at h
    omega
  · obtain ⟨d, r, e, h1, h2⟩ := sc_head hb
    rw [eb, e] at h
    simp only [elcode, List.cons_append, List.cons.injEq] at h
    omega
  · simp only [elcode, List.cons_append, List.cons.injEq, true_and, List.append_assoc] at h
    obtain ⟨e1, h⟩ := sc_cancel ha1 hb1 h
    obtain ⟨e2, h⟩ := sc_cancel ha2 hb2 h
    rw [e1, e2]
    exact ⟨rfl, h⟩
theorem el_head {a : NestedKey} (ha : OkEl a) : ∃ d r, elcode a = d :: r ∧ 1 ≤ d ∧ d ≤ 4 := by
  rcases ok_cases ha with ⟨ha, ea⟩ | ⟨a1, a2, rfl, ha1, ha2⟩
  · obtain ⟨d, r, e, h1, h2⟩ := sc_head ha
    exact ⟨d, r, by rw [ea, e], h1, by omega⟩
  · exact ⟨4, _, rfl, by omega, by omega⟩
theorem sc_lt {a : NestedKey} (ha : OkSc a) : ∀ d ∈ sccode a, d < 65536 := by
  cases a with
  | none => exact ha.elim
  | tup _ => exact ha.elim
  | num i =>
    rw [sccode_num]
    intro d hd
    split at hd <;> rcases List.mem_cons.mp hd with z | z
    · omega
    · exact digs_lt _ _ d z
    · omega
    · exact digs_lt _ _ d z
  | text x =>
    obtain ⟨h1, h2⟩ := ha
    intro d hd
    rcases List.mem_cons.mp hd with z | z
    · omega
    · rcases List.mem_cons.mp z with z | z
      · omega
      · have := h2 d z; omega
theorem el_lt {a : NestedKey} (ha : OkEl a) : ∀ d ∈ elcode a, d < 65536 := by
  rcases ok_cases ha with ⟨ha, ea⟩ | ⟨a1, a2, rfl, ha1, ha2⟩
  · rw [ea]; exact sc_lt ha
  · intro d hd
    rcases List.mem_cons.mp hd with z | z
    · omega
    · rcases List.mem_append.mp z with z | z
      · exact sc_lt ha1 d z
      · exact sc_lt ha2 d z
theorem sc_len {a : NestedKey} (ha : OkSc a) : (sccode a).length ≤ 22 := by
  cases a with
  | none => exact ha.elim
  | tup _ => exact ha.elim
  | num i => rw [sccode_num]; split <;> simp [digs_length]
  | text x =>
    obtain ⟨h1, h2⟩ := ha
    have := str_len x
    rw [sccode_text]
    simp only [List.length_cons]
    omega
theorem el_len {a : NestedKey} (ha : OkEl a) : (elcode a).length ≤ 45 := by
  rcases ok_cases ha with ⟨ha, ea⟩ | ⟨a1, a2, rfl, ha1, ha2⟩
  · rw [ea]; have := sc_len ha; omega
  · have := sc_len ha1
    have := sc_len ha2
    simp only [elcode, List.length_cons, List.length_append]; omega

mutual
def code : Nd → List Nat
  | .leaf e => elcode e
  | .run n k => 5 :: (digs 2 k ++ code n)
  | .block ns => 6 :: ns.length :: codeL ns
def codeL : List Nd → List Nat
  | [] => []
  | n :: ns => code n ++ codeL ns
end
mutual
def Wf : Nd → Prop
  | .leaf e => OkEl e
  | .run n k => Wf n ∧ 2 ≤ k ∧ k < 4294967296
  | .block ns => ns.length < 65536 ∧ WfL ns
def WfL : List Nd → Prop
  | [] => True
  | n :: ns => Wf n ∧ WfL ns
end
theorem wfL_iff : ∀ ns : List Nd, WfL ns ↔ ∀ n ∈ ns, Wf n
  | [] => by simp [WfL]
  | n :: ns => by simp [WfL, wfL_iff ns]
theorem codeL_eq : ∀ ns : List Nd, codeL ns = ns.flatMap code
  | [] => by simp [codeL]
  | n :: ns => by simp [codeL, codeL_eq ns]
theorem code_head {n : Nd} (h : Wf n) : ∃ d r, code n = d :: r ∧ 1 ≤ d ∧ d ≤ 6 := by
  cases n with
  | leaf e =>
    rw [Wf] at h
    obtain ⟨d, r, e, h1, h2⟩ := el_head h
    exact ⟨d, r, by rw [code, e], h1, by omega⟩
  | run n k => exact ⟨5, _, by rw [code], by omega, by omega⟩
  | block ns => exact ⟨6, _, by rw [code], by omega, by omega⟩
mutual
theorem code_cancel : ∀ (n m : Nd) (s t : List Nat), Wf n → Wf m → code n ++ s = code m ++ t → n = m ∧ s = t
  | .leaf e, m, s, t, hn, hm, h => by
    rw [Wf] at hn
    obtain ⟨d, r, ed, h1, h2⟩ := el_head hn
    cases m with
    | leaf e' =>
      rw [Wf] at hm
      rw [code, code] at h
      obtain ⟨h1, h2⟩ := el_cancel hn hm h
      rw [h1]; exact ⟨rfl, h2⟩
    | run n k => rw [code, code, ed] at h; simp only [List.cons_append, List.cons.injEq] at h; omega
    | block ns => rw [code, code, ed] at h; simp only [List.cons_append, List.cons.injEq] at h; omega
  | .run n k, m, s, t, hn, hm, h => by
    cases m with
    | leaf e' =>
      rw [Wf] at hm
      obtain ⟨d, r, ed, h1, h2⟩ := el_head hm
      rw [code, code, ed] at h; simp only [List.cons_append, List.cons.injEq] at h; omega
    | run n' k' =>
      rw [Wf] at hn hm
      rw [code, code] at h
      simp only [List.cons_append, List.cons.injEq, true_and, List.append_assoc] at h
      have hh := List.append_inj h (by rw [digs_length, digs_length])
      have e := digs_inj 2 k k' hh.1
      have pw : (65536 : Nat) ^ 2 = 4294967296 := by decide
      rw [pw, Nat.mod_eq_of_lt hn.2.2, Nat.mod_eq_of_lt hm.2.2] at e
      obtain ⟨e2, h2⟩ := code_cancel n n' s t hn.1 hm.1 hh.2
      rw [e, e2]; exact ⟨rfl, h2⟩
    | block ns => rw [code, code] at h; simp at h
  | .block ns, m, s, t, hn, hm, h => by
    cases m with
    | leaf e' =>
      rw [Wf] at hm
      obtain ⟨d, r, ed, h1, h2⟩ := el_head hm
      rw [code, code, ed] at h; simp only [List.cons_append, List.cons.injEq] at h; omega
    | run n' k' => rw [code, code] at h; simp at h
    | block ms =>
      rw [Wf] at hn hm
      rw [code, code] at h
      simp only [List.cons_append, List.cons.injEq, true_and] at h
      obtain ⟨e, h2⟩ := codeL_cancel ns ms s t hn.2 hm.2 h.1 h.2
      rw [e]; exact ⟨rfl, h2⟩
theorem codeL_cancel : ∀ (ns ms : List Nd) (s t : List Nat), WfL ns → WfL ms → ns.length = ms.length → codeL ns ++ s = codeL ms ++ t → ns = ms ∧ s = t
  | [], ms, s, t, hn, hm, hl, h => by
    cases ms with
    | nil => exact ⟨rfl, by simpa [codeL] using h⟩
    | cons m ms => simp at hl
  | n :: ns, ms, s, t, hn, hm, hl, h => by
    cases ms with
    | nil => simp at hl
    | cons m ms =>
      rw [WfL] at hn hm
      rw [codeL, codeL, List.append_assoc, List.append_assoc] at h
      obtain ⟨e, h⟩ := code_cancel n m _ _ hn.1 hm.1 h
      obtain ⟨e2, h⟩ := codeL_cancel ns ms s t hn.2 hm.2 (by simpa using hl) h
      rw [e, e2]; exact ⟨rfl, h⟩
end
mutual
theorem code_lt : ∀ (n : Nd), Wf n → ∀ d ∈ code n, d < 65536
  | .leaf e, h, d, hd => by rw [Wf] at h; rw [code] at hd; exact el_lt h d hd
  | .run n k, h, d, hd => by
    rw [Wf] at h; rw [code] at hd
    rcases List.mem_cons.mp hd with z | z
    · omega
    · rcases List.mem_append.mp z with z | z
      · exact digs_lt _ _ d z
      · exact code_lt n h.1 d z
  | .block ns, h, d, hd => by
    rw [Wf] at h; rw [code] at hd
    rcases List.mem_cons.mp hd with z | z
    · omega
    · rcases List.mem_cons.mp z with z | z
      · omega
      · exact codeL_lt ns h.2 d z
theorem codeL_lt : ∀ (ns : List Nd), WfL ns → ∀ d ∈ codeL ns, d < 65536
  | [], _, d, hd => by simp [codeL] at hd
  | n :: ns, h, d, hd => by
    rw [WfL] at h; rw [codeL] at hd
    rcases List.mem_append.mp hd with z | z
    · exact code_lt n h.1 d z
    · exact codeL_lt ns h.2 d z
end
theorem part_codes {n m : Nd} (hn : Wf n) (hm : Wf m) (h : n ≠ m) : Part (code n) (code m) :=
  part_of _ _ fun s t e => h (code_cancel n m s t hn hm e).1

/-! ### items, rows -/
def item (p : Nd × Nat) : Nd := if p.2 = 1 then p.1 else .run p.1 p.2
noncomputable def items (row : List Nd) : List Nd := (groups row).map item
noncomputable def cols (its : List Nd) : List Nat := colors (its.map code)
noncomputable def blocks (its : List Nd) : List Nd := (cut its (starts (cols its))).map Nd.block
noncomputable def next (row : List Nd) : List Nd := if (items row).length ≤ 1 then [] else blocks (items row)
noncomputable def rows (c : List NestedKey) : Nat → List Nd
  | 0 => c.map Nd.leaf
  | l + 1 => next (rows c l)
theorem cols_length (its : List Nd) : (cols its).length = its.length := by simp [cols, colors_length]
theorem items_length (row : List Nd) : (items row).length ≤ row.length := by
  rw [items, List.length_map]; exact groups_length row
theorem items_nil {row : List Nd} : items row = [] ↔ row = [] := by
  rw [items, List.map_eq_nil_iff, groups_nil_iff]
theorem next_length (row : List Nd) : 2 * (next row).length ≤ (items row).length := by
  unfold next
  split
  · simp
  · rw [blocks, List.length_map, cut_length]
    have := starts_count (cs := cols (items row)) (by rw [cols_length]; omega)
    rw [cols_length] at this
    exact this
theorem next_nil {row : List Nd} : next row = [] ↔ (items row).length ≤ 1 := by
  unfold next
  split
  · simp [*]
  · rename_i h
    refine ⟨fun e => ?_, fun e => absurd e h⟩
    have : (blocks (items row)).length = 0 := by rw [e]; rfl
    rw [blocks, List.length_map, cut_length, starts_eq (by
      intro z
      have := cols_length (items row)
      rw [z] at this
      simp at this; omega)] at this
    simp at this
/-- a row of leaves and blocks -/
def Plain (row : List Nd) : Prop := ∀ n ∈ row, n.isRun = false
theorem next_plain (row : List Nd) : Plain (next row) := by
  intro n hn
  unfold next at hn
  split at hn
  · cases hn
  · obtain ⟨b, _, rfl⟩ := List.mem_map.mp hn
    rfl
theorem rows_plain (c : List NestedKey) : ∀ l, Plain (rows c l)
  | 0 => by
    intro n hn
    obtain ⟨e, _, rfl⟩ := List.mem_map.mp hn
    rfl
  | l + 1 => next_plain _
theorem item_of_mem {row : List Nd} {n : Nd} (h : n ∈ items row) : ∃ m k, (m, k) ∈ groups row ∧ m ∈ row ∧ 1 ≤ k ∧ ((k = 1 ∧ n = m) ∨ (2 ≤ k ∧ n = .run m k)) := by
  obtain ⟨⟨m, k⟩, hp, e⟩ := List.mem_map.mp h
  have h1 := groups_pos row _ hp
  have h2 := groups_mem row _ hp
  refine ⟨m, k, hp, h2, h1, ?_⟩
  unfold item at e
  by_cases hk : k = 1
  · left; refine ⟨hk, ?_⟩; rw [if_pos hk] at e; exact e.symm
  · right
    simp only at h1 e
    rw [if_neg hk] at e
    exact ⟨by omega, e.symm⟩
theorem count_le {row : List Nd} {p : Nd × Nat} (h : p ∈ groups row) : p.2 ≤ row.length := by
  have key : ∀ (l : List Nd), ∀ p ∈ groups l, p.2 ≤ l.length := by
    intro l
    induction l with
    | nil => intro p hp; simp [groups] at hp
    | cons x xs ih =>
      intro p hp
      have hp : p ∈ gpush x (groups xs) := hp
      cases e : groups xs with
      | nil => rw [e] at hp; simp [gpush] at hp; subst hp; simp
      | cons q r =>
        obtain ⟨y, k⟩ := q
        rw [e] at hp ih
        rw [gpush_cons] at hp
        split at hp
        · rcases List.mem_cons.mp hp with z | z
          · subst z; have := ih (y, k) (by simp); simp at this ⊢; omega
          · have := ih p (List.mem_cons_of_mem _ z); simp; omega
        · rcases List.mem_cons.mp hp with z | z
          · subst z; simp
          · have := ih p z; simp; omega
  exact key row p h
theorem items_wf {row : List Nd} (hw : ∀ n ∈ row, Wf n) (hl : row.length < 65536) : ∀ n ∈ items row, Wf n := by
  intro n hn
  obtain ⟨m, k, hp, hm, h1, h | h⟩ := item_of_mem hn
  · rw [h.2]; exact hw m hm
  · rw [h.2, Wf]
    have := count_le hp
    simp at this
    exact ⟨hw m hm, h.1, by omega⟩
theorem items_adj {row : List Nd} (hp : Plain row) (i : Nat) (a b : Nd) (ha : (items row)[i]? = some a) (hb : (items row)[i + 1]? = some b) : a ≠ b := by
  rw [items, List.getElem?_map] at ha hb
  obtain ⟨p, ep, ha⟩ := Option.map_eq_some_iff.mp ha
  obtain ⟨q, eq, hb⟩ := Option.map_eq_some_iff.mp hb
  have hne := groups_adj row i p q ep eq
  have hpm := hp _ (groups_mem row p (List.mem_of_getElem? ep))
  have hqm := hp _ (groups_mem row q (List.mem_of_getElem? eq))
  subst ha; subst hb
  unfold item
  split <;> split
  · exact hne
  · intro e; rw [e] at hpm; simp [Nd.isRun] at hpm
  · intro e; rw [← e] at hqm; simp [Nd.isRun] at hqm
  · intro e; injection e with e1 _; exact hne e1
theorem items_codes {row : List Nd} (hp : Plain row) (hw : ∀ n ∈ row, Wf n) (hl : row.length < 65536) : Codes ((items row).map code) := by
  have hwi := items_wf hw hl
  refine ⟨fun c hc => ?_, fun i a b ha hb => ?_⟩
  · obtain ⟨n, hn, rfl⟩ := List.mem_map.mp hc
    refine ⟨?_, code_lt n (hwi n hn)⟩
    obtain ⟨d, r, e, _⟩ := code_head (hwi n hn)
    rw [e]; simp
  · rw [List.getElem?_map] at ha hb
    obtain ⟨n, en, ha⟩ := Option.map_eq_some_iff.mp ha
    obtain ⟨m, em, hb⟩ := Option.map_eq_some_iff.mp hb
    subst ha; subst hb
    exact part_codes (hwi n (List.mem_of_getElem? en)) (hwi m (List.mem_of_getElem? em)) (items_adj hp i n m en em)
theorem blocks_mem {its : List Nd} (h : its ≠ []) {b : Nd} (hb : b ∈ blocks its) : ∃ ns, b = .block ns ∧ ns ≠ [] ∧ ns.length ≤ its.length ∧ ∀ n ∈ ns, n ∈ its := by
  obtain ⟨ns, hns, rfl⟩ := List.mem_map.mp hb
  have hc : cols its ≠ [] := by
    intro z
    have := cols_length its
    rw [z] at this
    exact h (List.length_eq_zero_iff.mp this.symm)
  have hf := cut_flatten its (cols its) (cols_length its) hc
  refine ⟨ns, rfl, cut_ne_nil its _ (cols_length its) ns hns, ?_, fun n hn => ?_⟩
  · obtain ⟨p, hp, rfl⟩ := List.mem_map.mp hns
    simp [slice]; omega
  · rw [← hf]; exact List.mem_flatten.mpr ⟨ns, hns, hn⟩
theorem blocks_cover {its : List Nd} {n : Nd} (hn : n ∈ its) : ∃ ns, Nd.block ns ∈ blocks its ∧ n ∈ ns := by
  have hc : cols its ≠ [] := by
    intro z
    have := cols_length its
    rw [z] at this
    have := List.length_eq_zero_iff.mp this.symm
    subst this; cases hn
  have hf := cut_flatten its (cols its) (cols_length its) hc
  rw [← hf] at hn
  obtain ⟨ns, h1, h2⟩ := List.mem_flatten.mp hn
  exact ⟨ns, List.mem_map.mpr ⟨ns, h1, rfl⟩, h2⟩
theorem next_mem {row : List Nd} {b : Nd} (hb : b ∈ next row) : ∃ ns, b = .block ns ∧ ns ≠ [] ∧ ns.length ≤ row.length ∧ ∀ n ∈ ns, n ∈ items row := by
  unfold next at hb
  split at hb
  · cases hb
  · rename_i h
    obtain ⟨ns, h1, h2, h3, h4⟩ := blocks_mem (by intro z; rw [z] at h; simp at h) hb
    exact ⟨ns, h1, h2, Nat.le_trans h3 (items_length row), h4⟩
theorem next_wf {row : List Nd} (hw : ∀ n ∈ row, Wf n) (hl : row.length < 65536) : ∀ n ∈ next row, Wf n := by
  intro n hn
  obtain ⟨ns, rfl, _, h3, h4⟩ := next_mem hn
  rw [Wf, wfL_iff]
  exact ⟨by omega, fun m hm => items_wf hw hl m (h4 m hm)⟩
theorem rows_length (c : List NestedKey) : ∀ l, 2 ^ l * (rows c l).length ≤ c.length
  | 0 => by simp [rows]
  | l + 1 => by
    have ih := rows_length c l
    have h1 := next_length (rows c l)
    have h2 := items_length (rows c l)
    show 2 ^ (l + 1) * (next (rows c l)).length ≤ _
    rw [Nat.pow_succ, Nat.mul_assoc]
    exact Nat.le_trans (Nat.mul_le_mul_left _ (Nat.le_trans h1 h2)) ih
theorem rows_length' (c : List NestedKey) (l : Nat) : (rows c l).length ≤ c.length := by
  have := rows_length c l
  have h : 1 ≤ 2 ^ l := Nat.one_le_two_pow
  exact Nat.le_trans (Nat.le_mul_of_pos_left _ h) this
theorem rows_wf {c : List NestedKey} (hc : ∀ e ∈ c, OkEl e) (hl : c.length < 65536) : ∀ l, ∀ n ∈ rows c l, Wf n
  | 0 => by
    intro n hn
    obtain ⟨e, he, rfl⟩ := List.mem_map.mp hn
    rw [Wf]; exact hc e he
  | l + 1 => next_wf (rows_wf hc hl l) (by have := rows_length' c l; omega)

/-! ### how long the codes are -/
def rowW (l : List Nd) : Nat := (l.map fun n => (code n).length + 5).sum
theorem rowW_mem : ∀ (l : List Nd) (n : Nd), n ∈ l → (code n).length + 5 ≤ rowW l
  | x :: xs, n, h => by
    unfold rowW
    simp only [List.map_cons, List.sum_cons]
    rcases List.mem_cons.mp h with z | z
    · subst z; omega
    · have := rowW_mem xs n z
      unfold rowW at this
      omega
theorem rowW_append (l m : List Nd) : rowW (l ++ m) = rowW l + rowW m := by simp [rowW]
theorem codeL_len : ∀ ns : List Nd, (codeL ns).length + 5 * ns.length = rowW ns
  | [] => rfl
  | n :: ns => by
    have := codeL_len ns
    rw [codeL]
    unfold rowW at this ⊢
    simp only [List.map_cons, List.sum_cons, List.length_append, List.length_cons]
    omega
theorem items_W (row : List Nd) : rowW (items row) ≤ rowW row := by
  have key : ∀ l : List Nd, rowW (items l) ≤ rowW l ∧ ∀ p r, groups l = p :: r → rowW (items l) + ((code p.1).length + 5) ≤ rowW l + (if p.2 = 1 then (code p.1).length + 5 else (code p.1).length + 8) := by
    intro l
    induction l with
    | nil => exact ⟨by simp [items, groups, rowW], fun p r h => by simp [groups] at h⟩
    | cons x xs ih =>
      obtain ⟨ih1, ih2⟩ := ih
      have e1 : rowW (x :: xs) = (code x).length + 5 + rowW xs := by simp [rowW]
      have hrun : ∀ k, (code (.run x k)).length = (code x).length + 3 := by
        intro k; rw [code]; simp [digs_length]; omega
      have hi : items (x :: xs) = (gpush x (groups xs)).map item := rfl
      cases e : groups xs with
      | nil =>
        have hx : xs = [] := groups_nil_iff.mp e
        subst hx
        rw [hi, e]
        refine ⟨by simp [gpush, item, rowW], fun p r h => ?_⟩
        have h : gpush x (groups ([] : List Nd)) = p :: r := h
        rw [e] at h
        simp [gpush] at h
        rw [← h.1]
        simp [gpush, item, rowW]
      | cons q r0 =>
        obtain ⟨y, k⟩ := q
        have hk : 1 ≤ k := groups_pos xs (y, k) (by rw [e]; simp)
        have ih2' := ih2 (y, k) r0 e
        have hit : rowW (items xs) = ((code (item (y, k))).length + 5) + rowW (r0.map item) := by
          rw [items, e]; simp [rowW]
        rw [hi, e, gpush_cons]
        by_cases exy : x = y
        · subst exy
          rw [if_pos rfl]
          have hnew : rowW (List.map item ((x, k + 1) :: r0)) = ((code x).length + 8) + rowW (r0.map item) := by
            simp only [List.map_cons, item, rowW, List.sum_cons]
            rw [if_neg (by omega), hrun]
          rw [hnew]
          have hold : (code (item (x, k))).length + 5 = if k = 1 then (code x).length + 5 else (code x).length + 8 := by
            unfold item
            simp only
            split
            · rfl
            · rw [hrun]
          simp only at ih2'
          rw [hit, hold] at ih2' ih1
          refine ⟨?_, fun p r h => ?_⟩
          · rw [e1]; split at ih1 <;> simp_all <;> omega
          · have h : gpush x (groups xs) = p :: r := h
            rw [e, gpush_cons, if_pos rfl] at h
            injection h with h1 h2
            subst h1
            simp only
            rw [if_neg (by omega), e1]
            split at ih2' <;> simp_all <;> omega
        · rw [if_neg exy]
          have hnew : rowW (List.map item ((x, 1) :: (y, k) :: r0)) = ((code x).length + 5) + rowW (items xs) := by
            rw [items, e]
            simp [rowW, item]
          rw [hnew]
          refine ⟨by rw [e1]; omega, fun p r h => ?_⟩
          have h : gpush x (groups xs) = p :: r := h
          rw [e, gpush_cons, if_neg exy] at h
          injection h with h1 h2
          subst h1
          simp only
          rw [if_pos trivial, e1]
          omega
  exact (key row).1
theorem blocksW : ∀ (l : List (List Nd)), rowW (l.map Nd.block) + 5 * (l.flatten).length = 7 * l.length + rowW l.flatten
  | [] => rfl
  | ns :: l => by
    have ih := blocksW l
    have h := codeL_len ns
    have e : (code (.block ns)).length = (codeL ns).length + 2 := by rw [code]; simp
    rw [List.map_cons, List.flatten_cons, rowW_append, List.length_append, List.length_cons]
    have e2 : rowW (Nd.block ns :: l.map Nd.block) = ((code (.block ns)).length + 5) + rowW (l.map Nd.block) := by simp [rowW]
    rw [e2, e]
    omega
theorem next_W (row : List Nd) : rowW (next row) ≤ rowW row := by
  have h1 := items_W row
  have h2 := next_length row
  unfold next at h2 ⊢
  split
  · simp [rowW]
  · rename_i h
    rw [if_neg h] at h2
    have hc : cols (items row) ≠ [] := by
      intro z
      have := cols_length (items row)
      rw [z] at this
      simp at this; omega
    have hf := cut_flatten (items row) (cols (items row)) (cols_length _) hc
    have := blocksW (cut (items row) (starts (cols (items row))))
    rw [hf] at this
    unfold blocks at h2 ⊢
    rw [List.length_map] at h2
    omega
theorem rows_W {c : List NestedKey} (hc : ∀ e ∈ c, OkEl e) : ∀ l, rowW (rows c l) ≤ 50 * c.length
  | 0 => by
    have : ∀ c : List NestedKey, (∀ e ∈ c, OkEl e) → rowW (c.map Nd.leaf) ≤ 50 * c.length := by
      intro c
      induction c with
      | nil => intro _; simp [rowW]
      | cons e c ih =>
        intro h
        have := ih fun e he => h e (List.mem_cons_of_mem _ he)
        have h1 := el_len (h e (by simp))
        unfold rowW at this ⊢
        simp only [List.map_cons, List.sum_cons, List.length_cons, code]
        omega
    exact this c hc
  | l + 1 => Nat.le_trans (next_W _) (rows_W hc l)
theorem rows_code {c : List NestedKey} (hc : ∀ e ∈ c, OkEl e) (l : Nat) {n : Nd} (h : n ∈ rows c l) : (code n).length ≤ 50 * c.length := by
  have := rowW_mem _ n h
  have := rows_W hc l
  omega
theorem items_code {c : List NestedKey} (hc : ∀ e ∈ c, OkEl e) (l : Nat) {n : Nd} (h : n ∈ items (rows c l)) : (code n).length ≤ 50 * c.length := by
  have := rowW_mem _ n h
  have := items_W (rows c l)
  have := rows_W hc l
  omega
end Sh

namespace Sh
open PySem
/-! ### what occurs -/
inductive Sub : Nd → Nd → Prop
  | refl (n : Nd) : Sub n n
  | run {m n : Nd} (k : Nat) : Sub m n → Sub m (.run n k)
  | block {m c : Nd} {ns : List Nd} : c ∈ ns → Sub m c → Sub m (.block ns)
theorem Sub.kid {m n c : Nd} (hc : c ∈ n.kids) (h : Sub m c) : Sub m n := by
  cases n with
  | leaf e => cases hc
  | run n k =>
    have : c = n := by simpa [Nd.kids] using hc
    subst this; exact .run k h
  | block ns => exact .block hc h
theorem Sub.cases' {m n : Nd} (h : Sub m n) : m = n ∨ ∃ c ∈ n.kids, Sub m c := by
  cases h with
  | refl => exact .inl rfl
  | run k h => exact .inr ⟨_, by simp [Nd.kids], h⟩
  | block hc h => exact .inr ⟨_, hc, h⟩
/-- it occurs on some level -/
def Occ (c : List NestedKey) (n : Nd) : Prop := ∃ l, n ∈ rows c l ∨ n ∈ items (rows c l)
theorem rows_kids {c : List NestedKey} {l : Nat} {n m : Nd} (h : n ∈ rows c l ∨ n ∈ items (rows c l)) (hm : m ∈ n.kids) : Occ c m := by
  have row : ∀ l n, n ∈ rows c l → m ∈ n.kids → Occ c m := by
    intro l n hn hm
    cases l with
    | zero =>
      obtain ⟨e, _, rfl⟩ := List.mem_map.mp hn
      cases hm
    | succ l =>
      obtain ⟨ns, rfl, _, _, h4⟩ := next_mem hn
      exact ⟨l, .inr (h4 m hm)⟩
  rcases h with h | h
  · exact row l n h hm
  · obtain ⟨p, k, hp, hpm, h1, z | z⟩ := item_of_mem h
    · rw [z.2] at hm; exact row l p hpm hm
    · rw [z.2] at hm
      have : m = p := by simpa [Nd.kids] using hm
      subst this; exact ⟨l, .inl hpm⟩
theorem sub_occ {c : List NestedKey} {m n : Nd} (h : Sub m n) : Occ c n → Occ c m := by
  induction h with
  | refl => exact fun h => h
  | run k h ih => rintro ⟨l, hl⟩; exact ih (rows_kids hl (by simp [Nd.kids]))
  | block hc h ih => rintro ⟨l, hl⟩; exact ih (rows_kids hl hc)
/-- the rows end, and the last one is a single item -/
theorem rows_end (c : List NestedKey) (hc : c ≠ []) : ∃ M root, (∀ l, l ≤ M → rows c l ≠ []) ∧ (∀ l, M < l → rows c l = []) ∧ items (rows c M) = [root] ∧ 2 ^ M ≤ c.length := by
  have stay : ∀ l, rows c l = [] → ∀ j, rows c (l + j) = [] := by
    intro l h j
    induction j with
    | zero => exact h
    | succ j ih => rw [← Nat.add_assoc]; show next (rows c (l + j)) = []; rw [ih, next_nil]; simp [items, groups]
  -- some row is empty
  have ex : ∃ l, rows c l = [] := by
    refine ⟨c.length + 1, ?_⟩
    have := rows_length c (c.length + 1)
    cases h : rows c (c.length + 1) with
    | nil => rfl
    | cons x xs =>
      rw [h] at this
      have h2 : c.length + 1 < 2 ^ (c.length + 1) := Nat.lt_two_pow_self
      have h3 : 2 ^ (c.length + 1) * 1 ≤ 2 ^ (c.length + 1) * (x :: xs).length := Nat.mul_le_mul_left _ (by simp)
      omega
  obtain ⟨l0, h0⟩ := ex
  have : ∀ k, rows c k = [] → ∃ M, rows c M ≠ [] ∧ rows c (M + 1) = [] := by
    intro k
    induction k with
    | zero => intro h; simp [rows] at h; exact absurd h hc
    | succ k ih =>
      intro h
      by_cases hk : rows c k = []
      · exact ih hk
      · exact ⟨k, hk, h⟩
  obtain ⟨M, hM, hM1⟩ := this l0 h0
  have hi : (items (rows c M)).length = 1 := by
    have h1 : (items (rows c M)).length ≤ 1 := next_nil.mp hM1
    have h2 : items (rows c M) ≠ [] := fun z => hM (items_nil.mp z)
    have := List.length_pos_iff.mpr h2
    omega
  obtain ⟨root, hr⟩ := List.length_eq_one_iff.mp hi
  refine ⟨M, root, fun l hl z => ?_, fun l hl => ?_, hr, ?_⟩
  · have := stay l z (M - l)
    rw [show l + (M - l) = M by omega] at this
    exact hM this
  · have := stay (M + 1) hM1 (l - (M + 1))
    rwa [show M + 1 + (l - (M + 1)) = l by omega] at this
  · have := rows_length c M
    have h2 := List.length_pos_iff.mpr hM
    exact Nat.le_trans (Nat.le_mul_of_pos_right _ h2) this
theorem root_occ {c : List NestedKey} {M : Nat} {root : Nd} (h1 : ∀ l, M < l → rows c l = []) (h2 : items (rows c M) = [root]) (m : Nd) : Sub m root ↔ Occ c m := by
  constructor
  · intro h; exact sub_occ h ⟨M, .inr (by rw [h2]; simp)⟩
  · -- from the top down
    have one : ∀ l, ∀ m ∈ rows c l, ∃ it ∈ items (rows c l), Sub m it := by
      intro l m hm
      obtain ⟨k, hk⟩ := groups_cover _ m hm
      refine ⟨item (m, k), List.mem_map.mpr ⟨_, hk, rfl⟩, ?_⟩
      unfold item
      split
      · exact .refl _
      · exact .run _ (.refl _)
    have trans : ∀ {a b d : Nd}, Sub b d → Sub a b → Sub a d := by
      intro a b d h
      induction h with
      | refl => exact fun h => h
      | run k h ih => exact fun z => .run k (ih z)
      | block hc h ih => exact fun z => .block hc (ih z)
    have down : ∀ j l, l + j = M → ∀ it ∈ items (rows c l), Sub it root := by
      intro j
      induction j with
      | zero =>
        intro l hl it hit
        have : l = M := by omega
        subst this
        rw [h2] at hit
        have : it = root := by simpa using hit
        subst this; exact .refl _
      | succ j ih =>
        intro l hl it hit
        have up := ih (l + 1) (by omega)
        by_cases hs : (items (rows c l)).length ≤ 1
        · exfalso
          have hn : rows c (l + 1) = [] := next_nil.mpr hs
          have stay : ∀ i, rows c (l + 1 + i) = [] := by
            intro i
            induction i with
            | zero => exact hn
            | succ i ih => rw [← Nat.add_assoc]; show next (rows c (l + 1 + i)) = []; rw [ih, next_nil]; simp [items, groups]
          have := stay j
          rw [show l + 1 + j = M by omega] at this
          rw [this] at h2
          simp [items, groups] at h2
        · obtain ⟨ns, hb, hn⟩ := blocks_cover hit
          have hb' : Nd.block ns ∈ rows c (l + 1) := by
            show _ ∈ next (rows c l)
            unfold next; rw [if_neg hs]; exact hb
          obtain ⟨it2, h3, h4⟩ := one (l + 1) _ hb'
          exact trans (up it2 h3) (trans h4 (.block hn (.refl _)))
    have le : ∀ l, rows c l ≠ [] → l ≤ M := by
      intro l h
      rcases Nat.lt_or_ge M l with z | z
      · exact absurd (h1 l z) h
      · exact z
    rintro ⟨l, h | h⟩
    · have := le l (fun z => by rw [z] at h; cases h)
      obtain ⟨it, h3, h4⟩ := one l m h
      exact trans (down (M - l) l (by omega) it h3) h4
    · have := le l (fun z => by rw [z] at h; simp [items, groups] at h)
      exact down (M - l) l (by omega) m h

/-! ### heights -/
def hgt : Nd → Nat
  | .leaf _ => 0
  | .run n _ => hgt n
  | .block [] => 1
  | .block (n :: _) => hgt n + 1
theorem items_hgt {row : List Nd} {l : Nat} (h : ∀ n ∈ row, hgt n = l) : ∀ n ∈ items row, hgt n = l := by
  intro n hn
  obtain ⟨p, k, hp, hpm, h1, z | z⟩ := item_of_mem hn
  · rw [z.2]; exact h p hpm
  · rw [z.2, hgt]; exact h p hpm
theorem rows_hgt (c : List NestedKey) : ∀ l, ∀ n ∈ rows c l, hgt n = l
  | 0 => by
    intro n hn
    obtain ⟨e, _, rfl⟩ := List.mem_map.mp hn
    rfl
  | l + 1 => by
    intro n hn
    obtain ⟨ns, rfl, h2, _, h4⟩ := next_mem hn
    cases ns with
    | nil => exact absurd rfl h2
    | cons m ms => rw [hgt, items_hgt (rows_hgt c l) m (h4 m (by simp))]

/-! ### the depth of a recursion -/
mutual
def deep : Nd → Nat
  | .leaf _ => 0
  | .run n _ => deep n + 1
  | .block ns => deepL ns + 1
def deepL : List Nd → Nat
  | [] => 0
  | n :: ns => max (deep n) (deepL ns)
end
theorem deepL_le : ∀ (ns : List Nd) (d : Nat), deepL ns ≤ d ↔ ∀ n ∈ ns, deep n ≤ d
  | [], d => by simp [deepL]
  | n :: ns, d => by simp [deepL, Nat.max_le, deepL_le ns d]
theorem kids_deep {n c : Nd} (h : c ∈ n.kids) : deep c + 1 ≤ deep n := by
  cases n with
  | leaf e => cases h
  | run n k =>
    have : c = n := by simpa [Nd.kids] using h
    subst this; rw [deep]; exact Nat.le_refl _
  | block ns =>
    rw [deep]
    have := (deepL_le ns (deepL ns)).mp (Nat.le_refl _) c h
    omega
theorem items_deep {row : List Nd} {d : Nat} (h : ∀ n ∈ row, deep n ≤ d) : ∀ n ∈ items row, deep n ≤ d + 1 := by
  intro n hn
  obtain ⟨p, k, hp, hpm, h1, z | z⟩ := item_of_mem hn
  · rw [z.2]; exact Nat.le_succ_of_le (h p hpm)
  · rw [z.2, deep]; exact Nat.succ_le_succ (h p hpm)
theorem rows_deep (c : List NestedKey) : ∀ l, ∀ n ∈ rows c l, deep n ≤ 2 * l
  | 0 => by
    intro n hn
    obtain ⟨e, _, rfl⟩ := List.mem_map.mp hn
    exact Nat.le_refl _
  | l + 1 => by
    intro n hn
    obtain ⟨ns, rfl, _, _, h4⟩ := next_mem hn
    rw [deep]
    have := (deepL_le ns (2 * l + 1)).mpr fun m hm => items_deep (rows_deep c l) m (h4 m hm)
    omega
theorem root_deep {c : List NestedKey} {M : Nat} {root : Nd} (h : items (rows c M) = [root]) : deep root ≤ 2 * M + 1 :=
  items_deep (rows_deep c M) root (by rw [h]; simp)

/-! ### two contents that share a stretch share most nodes -/
theorem items_shared (A G B X Y : List Nd) (hA : A.length ≤ 7) (hB : B.length ≤ 3) :
    ∃ IA IG IB IX IY, items (A ++ G ++ B) = IA.map item ++ IG ++ IB.map item ∧ items (X ++ G ++ Y) = IX ++ IG ++ IY ∧ IA.length ≤ 8 ∧ IB.length ≤ 4 ∧ nruns IA + nruns IB ≤ 6 := by
  obtain ⟨IA, IG, IB, IX, IY, h1, h2, h3, h4, h5⟩ := groups_shared A G B X Y hA hB
  exact ⟨IA, IG.map item, IB, IX.map item, IY.map item, by rw [items, h1]; simp, by rw [items, h2]; simp, h3, h4, h5⟩
theorem next_shared (A G B X Y : List Nd) (hA : A.length ≤ 7) (hB : B.length ≤ 3) :
    ∃ A' G' B' X' Y', next (A ++ G ++ B) = A' ++ G' ++ B' ∧ next (X ++ G ++ Y) = X' ++ G' ++ Y' ∧ A'.length ≤ 7 ∧ B'.length ≤ 3 := by
  obtain ⟨IA, IG, IB, IX, IY, h1, h2, h3, h4, h5⟩ := items_shared A G B X Y hA hB
  have small : (next (A ++ G ++ B)).length ≤ 10 → ∃ A' G' B' X' Y', next (A ++ G ++ B) = A' ++ G' ++ B' ∧ next (X ++ G ++ Y) = X' ++ G' ++ Y' ∧ A'.length ≤ 7 ∧ B'.length ≤ 3 := by
    intro h
    refine ⟨(next (A ++ G ++ B)).take 7, [], (next (A ++ G ++ B)).drop 7, next (X ++ G ++ Y), [], by simp, by simp, List.length_take_le _ _, ?_⟩
    rw [List.length_drop]; omega
  have hlen := next_length (A ++ G ++ B)
  by_cases h8 : 8 ≤ IG.length
  · have hP : ¬ (items (A ++ G ++ B)).length ≤ 1 := by rw [h1]; simp; omega
    have hF : ¬ (items (X ++ G ++ Y)).length ≤ 1 := by rw [h2]; simp; omega
    have hm := ((Mid.of_append (IA.map item) IG (IB.map item) IX IY).map code).colors h8
    rw [← h1, ← h2] at hm
    obtain ⟨A', G', B', X', Y', e1, e2, e3, e4⟩ := cut_shared (IA.map item) IG (IB.map item) IX IY (cols (items (A ++ G ++ B))) (cols (items (X ++ G ++ Y)))
      (by rw [cols_length, h1]) (by rw [cols_length, h2]) (fun _ => hm) (by simpa using h3) (by simpa using h4)
    rw [← h1] at e1
    rw [← h2] at e2
    refine ⟨A'.map Nd.block, G'.map Nd.block, B'.map Nd.block, X'.map Nd.block, Y'.map Nd.block, ?_, ?_, by simpa using e3, by simpa using e4⟩
    · unfold next; rw [if_neg hP, blocks, e1]; simp
    · unfold next; rw [if_neg hF, blocks, e2]; simp
  · refine small ?_
    rw [h1] at hlen
    simp only [List.length_append, List.length_map] at hlen
    omega
theorem rows_shared {p c : List NestedKey} (h : ∃ s t, c = s ++ p ++ t) : ∀ l, ∃ A G B X Y, rows p l = A ++ G ++ B ∧ rows c l = X ++ G ++ Y ∧ A.length ≤ 7 ∧ B.length ≤ 3
  | 0 => by
    obtain ⟨s, t, rfl⟩ := h
    exact ⟨[], p.map Nd.leaf, [], s.map Nd.leaf, t.map Nd.leaf, by simp [rows], by simp [rows], by simp, by simp⟩
  | l + 1 => by
    obtain ⟨A, G, B, X, Y, h1, h2, h3, h4⟩ := rows_shared h l
    obtain ⟨A', G', B', X', Y', e1, e2, e3, e4⟩ := next_shared A G B X Y h3 h4
    rw [← h1] at e1
    rw [← h2] at e2
    exact ⟨A', G', B', X', Y', e1, e2, e3, e4⟩
theorem nodup_subset {α : Type} : ∀ (F L : List α), F.Nodup → (∀ x ∈ F, x ∈ L) → F.length ≤ L.length
  | [], L, _, _ => Nat.zero_le _
  | x :: F, L, hn, hs => by
    obtain ⟨s, t, rfl⟩ := List.append_of_mem (hs x (by simp))
    have hx := (List.nodup_cons.mp hn)
    have := nodup_subset F (s ++ t) hx.2 fun y hy => by
      have hy2 := hs y (List.mem_cons_of_mem _ hy)
      rcases List.mem_append.mp hy2 with z | z
      · exact List.mem_append_left _ z
      · rcases List.mem_cons.mp z with z | z
        · subst z; exact absurd hy hx.1
        · exact List.mem_append_right _ z
    simp only [List.length_cons, List.length_append] at this ⊢
    omega
theorem occ_block {c : List NestedKey} {n : Nd} (h : Occ c n) (hb : n.isBlock = true) : n ∈ rows c (hgt n) := by
  obtain ⟨l, h | h⟩ := h
  · rw [rows_hgt c l n h]; exact h
  · obtain ⟨m, k, hp, hpm, h1, z | z⟩ := item_of_mem h
    · rw [z.2, rows_hgt c l m hpm]; exact hpm
    · rw [z.2] at hb; cases hb
theorem occ_leaf {c : List NestedKey} {n : Nd} (h : Occ c n) (hb : n.isLeaf = true) : n ∈ rows c 0 := by
  have row : ∀ l, n ∈ rows c l → n ∈ rows c 0 := by
    intro l h
    cases l with
    | zero => exact h
    | succ l =>
      obtain ⟨ns, rfl, _⟩ := next_mem h
      cases hb
  obtain ⟨l, h | h⟩ := h
  · exact row l h
  · obtain ⟨m, k, hp, hpm, h1, z | z⟩ := item_of_mem h
    · rw [z.2]; rw [z.2] at hb row; exact row l hpm
    · rw [z.2] at hb; cases hb
theorem occ_run {c : List NestedKey} {n : Nd} (h : Occ c n) (hb : n.isRun = true) : n ∈ items (rows c (hgt n)) := by
  obtain ⟨l, h | h⟩ := h
  · have := rows_plain c l n h
    rw [hb] at this; cases this
  · rw [items_hgt (rows_hgt c l) n h]; exact h
theorem law_blocks {p c : List NestedKey} (h : ∃ s t, c = s ++ p ++ t) (l : Nat) (F : List Nd) (hn : F.Nodup) (hF : ∀ n ∈ F, n.isBlock = true ∧ hgt n = l ∧ Occ p n ∧ ¬ Occ c n) : F.length ≤ 10 := by
  obtain ⟨A, G, B, X, Y, h1, h2, h3, h4⟩ := rows_shared h l
  have := nodup_subset F (A ++ B) hn fun n hn => by
    obtain ⟨a, b, d, e⟩ := hF n hn
    have hm := occ_block d a
    rw [b, h1] at hm
    rcases List.mem_append.mp hm with z | z
    · rcases List.mem_append.mp z with z | z
      · exact List.mem_append_left _ z
      · exact absurd ⟨l, .inl (by rw [h2]; simp [z])⟩ e
    · exact List.mem_append_right _ z
  simp only [List.length_append] at this
  omega
theorem runs_count : ∀ (l : List (Nd × Nat)), (∀ p ∈ l, 1 ≤ p.2 ∧ p.1.isRun = false) → ((l.map item).filter Nd.isRun).length = nruns l
  | [], _ => rfl
  | p :: l, h => by
    have ih := runs_count l fun q hq => h q (List.mem_cons_of_mem _ hq)
    obtain ⟨h1, h2⟩ := h p (by simp)
    rw [List.map_cons, List.filter_cons, nruns_cons]
    by_cases e : p.2 = 1
    · have : (item p).isRun = false := by rw [item, if_pos e]; exact h2
      rw [this, if_neg (by simp), if_neg (by omega), ih]; omega
    · have : (item p).isRun = true := by rw [item, if_neg e]; rfl
      rw [if_pos this, if_pos (by omega), List.length_cons, ih]; omega
theorem law_runs {p c : List NestedKey} (h : ∃ s t, c = s ++ p ++ t) (l : Nat) (F : List Nd) (hn : F.Nodup) (hF : ∀ n ∈ F, n.isRun = true ∧ hgt n = l ∧ Occ p n ∧ ¬ Occ c n) : F.length ≤ 6 := by
  obtain ⟨A, G, B, X, Y, h1, h2, h3, h4⟩ := rows_shared h l
  obtain ⟨IA, IG, IB, IX, IY, g1, g2, g3, g4, g5⟩ := groups_shared A G B X Y h3 h4
  have hp := rows_plain p l
  rw [h1] at hp
  have ok : ∀ q ∈ IA ++ IG ++ IB, 1 ≤ q.2 ∧ q.1.isRun = false := by
    intro q hq
    rw [← g1] at hq
    exact ⟨groups_pos _ q hq, hp _ (groups_mem _ q hq)⟩
  have := nodup_subset F (((IA ++ IB).map item).filter Nd.isRun) hn fun n hn => by
    obtain ⟨a, b, d, e⟩ := hF n hn
    have hm := occ_run d a
    rw [b, h1, items, g1] at hm
    refine List.mem_filter.mpr ⟨?_, a⟩
    rw [List.map_append, List.map_append] at hm
    rw [List.map_append]
    rcases List.mem_append.mp hm with z | z
    · rcases List.mem_append.mp z with z | z
      · exact List.mem_append_left _ z
      · refine absurd ⟨l, .inr ?_⟩ e
        rw [h2, items, g2, List.map_append, List.map_append]
        simp only [List.mem_append]
        exact .inl (.inr z)
    · exact List.mem_append_right _ z
  rw [runs_count _ (fun q hq => ok q (by
    rcases List.mem_append.mp hq with z | z
    · simp [z]
    · simp [z])), nruns_append] at this
  omega
theorem law_leaves {p c : List NestedKey} (h : ∃ s t, c = s ++ p ++ t) (n : Nd) (hl : n.isLeaf = true) (ho : Occ p n) : Occ c n := by
  obtain ⟨s, t, rfl⟩ := h
  have := occ_leaf ho hl
  refine ⟨0, .inl ?_⟩
  simp only [rows, List.map_append, List.mem_append] at this ⊢
  exact .inl (.inr this)
end Sh

namespace Sh
open PySem PySem.Spec PyProof.Rows L2
/-! ### keys of any depth -/
mutual
inductive NK (H : Hp) : NestedKey → V → Prop
  | num (i : Int) : NK H (.num i) (.int i)
  | text (x : Str) : NK H (.text x) (.str x)
  | tup {a : Addr} {vs : List V} {ks : List NestedKey} : H a = some (.tup vs) → NKs H ks vs → NK H (.tup ks) (.ref a)
inductive NKs (H : Hp) : List NestedKey → List V → Prop
  | nil : NKs H [] []
  | cons {k v ks vs} : NK H k v → NKs H ks vs → NKs H (k :: ks) (v :: vs)
end
/-- tuples stay -/
def Tups (H H' : Hp) : Prop := ∀ a xs, H a = some (.tup xs) → H' a = some (.tup xs)
mutual
theorem NK.keep {H H' : Hp} (t : Tups H H') : ∀ (k : NestedKey) (v : V), NK H k v → NK H' k v
  | .none, _, h => nomatch h
  | .num i, _, h => by cases h; exact .num i
  | .text x, _, h => by cases h; exact .text x
  | .tup ks, _, h => by cases h with | tup e r => exact .tup (t _ _ e) (NKs.keep t ks _ r)
theorem NKs.keep {H H' : Hp} (t : Tups H H') : ∀ (ks : List NestedKey) (vs : List V), NKs H ks vs → NKs H' ks vs
  | [], _, h => by cases h; exact .nil
  | k :: ks, _, h => by cases h with | cons a b => exact .cons (NK.keep t k _ a) (NKs.keep t ks _ b)
end
mutual
theorem NK.to {P : Program} {w : World} {H : Hp} {h : Heap} (ok : HOk P w H h) : ∀ (k : NestedKey) (v : V) (u : Value), NK H k v → RelV v u → NestedIs h k u
  | .none, _, _, h, _ => nomatch h
  | .num i, _, _, h, r => by cases h; obtain ⟨t, rfl⟩ := r; exact .int i t
  | .text x, _, _, h, r => by cases h; obtain ⟨t, rfl⟩ := r; exact .text x t
  | .tup ks, _, _, h, r => by
    cases h with
    | tup e q =>
      cases r
      obtain ⟨_, its, rv, o, h1, h2, n, h3⟩ := ok _ _ e
      exact .tup h1 h2 h3 (by simpa using NKs.to ok ks _ its q rv)
theorem NKs.to {P : Program} {w : World} {H : Hp} {h : Heap} (ok : HOk P w H h) : ∀ (ks : List NestedKey) (vs : List V) (us : List Value), NKs H ks vs → Vals vs us → NestedAll h ks us
  | [], _, _, h, r => by cases h; cases r; exact .nil
  | k :: ks, _, _, h, r => by
    cases h with
    | cons a b =>
      cases r with
      | cons c d => exact .cons (NK.to ok k _ _ a c) (NKs.to ok ks _ _ b d)
end
theorem NKs.length {H : Hp} : ∀ {ks : List NestedKey} {vs : List V}, NKs H ks vs → ks.length = vs.length
  | [], _, h => by cases h; rfl
  | _ :: _, _, h => by cases h with | cons a b => simp [NKs.length b]
theorem NKs.get {H : Hp} : ∀ {ks : List NestedKey} {vs : List V} {i : Nat} {v : V}, NKs H ks vs → vs[i]? = some v → ∃ k, ks[i]? = some k ∧ NK H k v
  | [], _, i, v, h, e => by cases h; simp at e
  | k :: ks, _, i, v, h, e => by
    cases h with
    | cons a b =>
      cases i with
      | zero => simp at e; subst e; exact ⟨k, rfl, a⟩
      | succ i =>
        obtain ⟨k', h1, h2⟩ := NKs.get b (i := i) (by simpa using e)
        exact ⟨k', by simpa using h1, h2⟩
theorem NKs.of {H : Hp} : ∀ {ks : List NestedKey} {vs : List V}, ks.length = vs.length → (∀ (i : Nat) (k : NestedKey) (v : V), ks[i]? = some k → vs[i]? = some v → NK H k v) → NKs H ks vs
  | [], [], _, _ => .nil
  | [], _ :: _, e, _ => by simp at e
  | _ :: _, [], e, _ => by simp at e
  | k :: ks, v :: vs, e, h => .cons (h 0 k v rfl rfl) (NKs.of (by simpa using e) fun i k v a b => h (i + 1) k v (by simpa using a) (by simpa using b))
theorem NKs.append {H : Hp} : ∀ {ks ls : List NestedKey} {vs us : List V}, NKs H ks vs → NKs H ls us → NKs H (ks ++ ls) (vs ++ us)
  | [], _, _, _, h, g => by cases h; exact g
  | _ :: _, _, _, _, h, g => by cases h with | cons a b => exact .cons a (NKs.append b g)
theorem NKs.take {H : Hp} : ∀ {ks : List NestedKey} {vs : List V} (n : Nat), NKs H ks vs → NKs H (ks.take n) (vs.take n)
  | _, _, 0, _ => by simpa using NKs.nil
  | [], _, _ + 1, h => by cases h; exact .nil
  | _ :: _, _, n + 1, h => by cases h with | cons a b => exact .cons a (NKs.take n b)
theorem NKs.drop {H : Hp} : ∀ {ks : List NestedKey} {vs : List V} (n : Nat), NKs H ks vs → NKs H (ks.drop n) (vs.drop n)
  | _, _, 0, h => h
  | [], _, _ + 1, h => by cases h; exact .nil
  | _ :: _, _, n + 1, h => by cases h with | cons a b => exact NKs.drop n b
theorem NKs.nums {H : Hp} : ∀ (is : List Int), NKs H (is.map NestedKey.num) (is.map V.int)
  | [] => .nil
  | i :: is => .cons (.num i) (NKs.nums is)
mutual
theorem NK.inj {H : Hp} : ∀ (k j : NestedKey) (v : V), NK H k v → NK H j v → k = j
  | .none, _, _, h, _ => nomatch h
  | .num i, j, _, h, g => by cases h; cases g; rfl
  | .text x, j, _, h, g => by cases h; cases g; rfl
  | .tup ks, j, _, h, g => by
    cases h with
    | tup e q =>
      cases g with
      | tup e2 q2 => rw [e] at e2; cases e2; rw [NKs.inj ks _ _ q q2]
theorem NKs.inj {H : Hp} : ∀ (ks js : List NestedKey) (vs : List V), NKs H ks vs → NKs H js vs → ks = js
  | [], js, _, h, g => by cases h; cases g; rfl
  | k :: ks, js, _, h, g => by
    cases h with
    | cons a b =>
      cases g with
      | cons c d => rw [NK.inj k _ _ a c, NKs.inj ks _ _ b d]
end

/-! ### a dict with such keys -/
abbrev NX := List (NestedKey × Addr × V)
abbrev NEnt : NX → List (NestedKey × Addr × Value) → Prop := Paired fun p q => p.1 = q.1 ∧ p.2.1 = q.2.1 ∧ RelV p.2.2 q.2.2
def nPhi (P : Program) (w : World) (d : Addr) (xs : NX) : Heap → Prop := fun h => ∃ ys, NEnt xs ys ∧ ∃ o es ep, h.get? d = some o ∧ o.ExactDict ∧ o.data = .dict es ep ∧ es.toList = ys.map (entryOfKey (nestedKind P w)) ∧ (ys.map (·.1)).Nodup
def NO (P : Program) (w : World) (d : Addr) (xs : NX) : HO := .ext (nPhi P w d xs)
structure ND (P : Program) (w : World) (H : Hp) (d : Addr) (xs : NX) : Prop where
  here : H d = some (NO P w d xs)
  len : xs.length ≤ sizeLine
  low : (d == sysModules) = false
  keys : ∀ x ∈ xs, NK H x.1 (.ref x.2.1) ∧ x.1.depth ≤ 8
def nAt (xs : NX) (k : NestedKey) : Option V := (xs.find? fun x => decide (x.1 = k)).map (·.2.2)
theorem NEnt.at {xs : NX} {ys : List (NestedKey × Addr × Value)} (r : NEnt xs ys) (k : NestedKey) : RelO (nAt xs k) ((atKey ys k).map (·.2)) := by
  induction r with
  | nil => exact True.intro
  | @cons p q ps qs h t ih =>
    obtain ⟨h1, _, h2⟩ := h
    by_cases e : p.1 = k
    · have e' : q.1 = k := h1.symm.trans e
      have a : nAt (p :: ps) k = some p.2.2 := by simp [nAt, List.find?_cons, e]
      have b : atKey (q :: qs) k = some q.2 := by simp [atKey, List.find?_cons, e']
      rw [a, b]; exact h2
    · have e' : ¬ q.1 = k := fun z => e (h1.trans z)
      have a : nAt (p :: ps) k = nAt ps k := by simp [nAt, List.find?_cons, e]
      have b : atKey (q :: qs) k = atKey qs k := by simp [atKey, List.find?_cons, e']
      rw [a, b]; exact ih
theorem ND.get {P : Program} {w : World} {H : Hp} {h : Heap} {d : Addr} {xs : NX} (n : ND P w H d xs) (ok : HOk P w H h) : ∃ ys, NEnt xs ys ∧ h.DictOfH (nestedKind P w) d ys := by
  obtain ⟨⟨ys, r, o, es, ep, h1, h2, h3, h4, h5⟩, _, _⟩ := ok d _ n.here
  refine ⟨ys, r, o, es, ep, h1, h2, h3, h4, ?_, h5⟩
  have all : ∀ {l : NX} {m : List (NestedKey × Addr × Value)}, NEnt l m → (∀ x ∈ l, NK H x.1 (.ref x.2.1) ∧ x.1.depth ≤ 8) → ∀ x ∈ m, (nestedKind P w).is h x.1 x.2.1 := by
    intro l m q
    induction q with
    | nil => intro _ x hx; exact nomatch hx
    | @cons p q ps qs hq t ih =>
      intro hk x hx
      rcases List.mem_cons.mp hx with e | hx
      · subst e
        have := hk p (List.mem_cons_self ..)
        rw [hq.1, hq.2.1] at this
        exact ⟨NK.to ok _ _ _ this.1 rfl, this.2⟩
      · exact ih (fun y hy => hk y (List.mem_cons_of_mem _ hy)) x hx
  exact all r n.keys
theorem nPhi_stay {P : Program} {w : World} {d : Addr} {xs : NX} : ∀ h1 h2 : Heap, nPhi P w d xs h1 → (∀ o, h1.get? d = some o → h2.get? d = some o) → nPhi P w d xs h2 := fun h1 h2 ⟨ys, r, o, es, ep, e, q⟩ k => ⟨ys, r, o, es, ep, k _ e, q⟩
theorem ND.keep {P : Program} {w : World} {H H' : Hp} {d : Addr} {xs : NX} (n : ND P w H d xs) (e : H' d = H d) (t : Tups H H') : ND P w H' d xs :=
  ⟨e.trans n.here, n.len, n.low, fun x hx => ⟨NK.keep t _ _ (n.keys x hx).1, (n.keys x hx).2⟩⟩
section
variable {X : Cx} {pins : List (Addr × Obj)} {σ : L2.St} {H : Hp} {s : Shared} {a b : Addr} {k : NestedKey} {xs : NX} {v : V} {u r : Value} {A : Around} {E : Value → Shared → Prop}
theorem nroom (hu : A.units + 64 < cLine) : (nestedKind X.prog X.w).room A.in1 := by
  show A.in1.units + 8 < cLine
  simp only [Around.in1_units]; omega
theorem nkeyIs (I : Inv X pins σ H s) (g : NK H k (.ref b)) (hd : k.depth ≤ 8) : (nestedKind X.prog X.w).is s.heap k b := ⟨NK.to I.hok _ _ _ g rfl, hd⟩
theorem n_get {Q : Value → Shared → Prop} (hu : A.units + 64 < cLine) (I : Inv X pins σ H s) (n : ND X.prog X.w H a xs) (g : NK H k (.ref b)) (hd : k.depth ≤ 8) (h : ∀ w' s', Inv X pins σ H s' → RelV ((nAt xs k).getD .non) w' → Q w' s') :
    wpAny (model X.prog X.w) A (call (.builtin "dict.get") [.ref a, .ref b]) Q E s := by
  obtain ⟨ys, rel, dd⟩ := n.get I.hok
  refine call_meetsIn PySem.F.slot_dict_get dd.typeIs PySem.F.entry_dict_get (PySem.F.args_dict_get_2 _ _) (meetsH_dict_get (nestedKind X.prog X.w) a b n.low) ⟨nroom hu, k, ys, nkeyIs I g hd, dd, h _ _ (I.tok _) ?_⟩
  exact (rel.at k).getD rfl
theorem n_getItem {Q : Value → Shared → Prop} (hu : A.units + 64 < cLine) (I : Inv X pins σ H s) (n : ND X.prog X.w H a xs) (g : NK H k (.ref b)) (hd : k.depth ≤ 8) (l : nAt xs k = some v) (h : ∀ w' s', Inv X pins σ H s' → RelV v w' → Q w' s') :
    wpAny (model X.prog X.w) A (getItem (.ref a) (.ref b)) Q E s := by
  obtain ⟨ys, rel, dd⟩ := n.get I.hok
  obtain ⟨w', hw, rw'⟩ := RelO.some_of (v := v) (o := (atKey ys k).map (·.2)) (by rw [← l]; exact rel.at k)
  obtain ⟨p, hp, hp2⟩ := Option.map_eq_some_iff.mp hw
  refine wpAny_getItem_heap (nroom hu) (nkeyIs I g hd) dd hp ?_
  rw [hp2]
  exact h w' _ (I.tok _) rw'
theorem n_notIn {Q : Value → Shared → Prop} (hu : A.units + 64 < cLine) (I : Inv X pins σ H s) (n : ND X.prog X.w H a xs) (g : NK H k (.ref b)) (hd : k.depth ≤ 8) (h : ∀ s', Inv X pins σ H s' → Q (.bool (!(nAt xs k).isSome)) s') :
    wpAny (model X.prog X.w) A (compareOp .NotIn (.ref b) (.ref a)) Q E s := by
  obtain ⟨ys, rel, dd⟩ := n.get I.hok
  refine wpAny_notIn_heap (nroom hu) (nkeyIs I g hd) n.low dd ?_
  have q := (rel.at k).isSome_eq
  rw [Option.isSome_map] at q
  rw [← q]
  exact h _ (I.tok _)
theorem NEnt.snoc {xs : NX} {ys : List (NestedKey × Addr × Value)} (r : NEnt xs ys) (k : NestedKey) (b : Addr) {v : V} {u : Value} (rv : RelV v u) : NEnt (xs ++ [(k, b, v)]) (ys ++ [(k, b, u)]) := Paired.snoc r ⟨rfl, rfl, rv⟩
theorem n_put {Q : Unit → Shared → Prop} (hu : A.units + 64 < cLine) (I : Inv X pins σ H s) (n : ND X.prog X.w H a xs) (g : NK H k (.ref b)) (hd : k.depth ≤ 8) (l : nAt xs k = none) (hz : xs.length < sizeLine) (rv : RelV v r)
    (h : ∀ s', Inv X pins σ (upd H a (NO X.prog X.w a (xs ++ [(k, b, v)]))) s' → Q () s') :
    wpAny (model X.prog X.w) A (setItem (.ref a) (.ref b) r) Q E s := by
  obtain ⟨ys, rel, dd⟩ := n.get I.hok
  have hl := Paired.length rel
  have hn : atKey ys k = none := by
    have q := (rel.at k).isSome_eq
    rw [l, Option.isSome_map] at q
    cases e : atKey ys k with
    | none => rfl
    | some p => rw [e] at q; simp at q
  refine wpAny_setItem_heap (hsz := by rw [← hl]; exact n.len) (nroom hu) (nkeyIs I g hd) dd fun h' dd' hs => h _ ?_
  rw [storedH_new hn] at dd'
  obtain ⟨q, es, ep, hq, h2, h3, h4, _, h5⟩ := dd'
  refine d_write I (by rw [n.here]; exact True.intro) hs ⟨q, hq⟩ ⟨⟨ys ++ [(k, b, r)], rel.snoc k b rv, q, es, ep, hq, h2, h3, h4, h5⟩, ⟨q, hq⟩, nPhi_stay⟩
theorem nd_put {P : Program} {w : World} {H : Hp} {a b : Addr} {k : NestedKey} {xs : NX} {v : V} (n : ND P w H a xs) (g : NK H k (.ref b)) (hd : k.depth ≤ 8) (hz : xs.length < sizeLine) : ND P w (upd H a (NO P w a (xs ++ [(k, b, v)]))) a (xs ++ [(k, b, v)]) := by
  have t : Tups H (upd H a (NO P w a (xs ++ [(k, b, v)]))) := fun c ys e => by
    rw [upd_ne (ne_of e n.here (fun z => nomatch z))]; exact e
  refine ⟨upd_same, by rw [List.length_append]; simp; omega, n.low, fun x hx => ?_⟩
  rcases List.mem_append.mp hx with z | z
  · exact ⟨NK.keep t _ _ (n.keys x z).1, (n.keys x z).2⟩
  · have : x = (k, b, v) := by simpa using z
    subst this
    exact ⟨NK.keep t _ _ g, hd⟩
theorem nd_typeIs (I : Inv X pins σ H s) (n : ND X.prog X.w H a xs) : s.TypeIs (.ref a) "dict" := by
  obtain ⟨ys, rel, dd⟩ := n.get I.hok
  exact dd.typeIs
theorem nd_noDict (I : Inv X pins σ H s) (n : ND X.prog X.w H a xs) : ∀ b, Value.ref a = .ref b → ∃ ob, s.heap.get? b = some ob ∧ ob.dict = none := fun b q => by
  cases q
  obtain ⟨ys, rel, ob, _, _, h1, h2, _⟩ := n.get I.hok
  exact ⟨ob, h1, h2.2.1⟩
end
/-- {} whose keys will be nested tuples -/
def tNNew (P : Program) (w : World) : TE := fun _ H Q => ∀ p, H p = none → (p == sysModules) = false → Q (.ref p) (upd H p (NO P w p []))
/-- d.get(k) -/
def tNGet (P : Program) (w : World) (td ty : TE) : TE := fun σ H Q => td σ H fun x H1 => ∃ a, x = .ref a ∧ (∃ xs, ND P w H1 a xs) ∧ ty σ H1 fun y H2 => ∃ xs k b, y = .ref b ∧ ND P w H2 a xs ∧ NK H2 k (.ref b) ∧ k.depth ≤ 8 ∧ Q ((nAt xs k).getD .non) H2
/-- d[k], there -/
def tNItem (P : Program) (w : World) (td ty : TE) : TE := fun σ H Q => td σ H fun x H1 => ty σ H1 fun y H2 => ∃ a xs k b v, x = .ref a ∧ y = .ref b ∧ ND P w H2 a xs ∧ NK H2 k (.ref b) ∧ k.depth ≤ 8 ∧ nAt xs k = some v ∧ Q v H2
/-- k not in d -/
def tNNotIn (P : Program) (w : World) (ty td : TE) : TE := fun σ H Q => ty σ H fun y H1 => td σ H1 fun x H2 => ∃ a xs k b, x = .ref a ∧ y = .ref b ∧ ND P w H2 a xs ∧ NK H2 k (.ref b) ∧ k.depth ≤ 8 ∧ Q (.bl (!(nAt xs k).isSome)) H2
/-- d[k] = v, not there yet -/
def sNPut (P : Program) (w : World) (td ty tv : TE) : TS := fun D σ H => tv σ H fun v H1 => td σ H1 fun x H2 => ty σ H2 fun y H3 => ∃ a xs k b, x = .ref a ∧ y = .ref b ∧ ND P w H3 a xs ∧ NK H3 k (.ref b) ∧ k.depth ≤ 8 ∧ nAt xs k = none ∧ xs.length < sizeLine ∧ D.nx σ (upd H3 a (NO P w a (xs ++ [(k, b, v)])))
section
variable {X : Cx} {o e i value : Expr} {apos cpos pos pos' : Pos} {td ty tv : TE}
theorem pe_nnew : PE X (.Dict [] [] pos) (tNNew X.prog X.w) := ⟨fun pins s σ H Q I h => by
  have hlow : (s.heap.objs.size == sysModules) = false := beq_eq_false_iff_ne.mpr (Ne.symm (Nat.ne_of_lt I.big))
  refine wpAny_Dict_empty ⟨.ref s.heap.objs.size, _, I.laid (a := s.heap.objs.size) (o := NO X.prog X.w s.heap.objs.size []) (t' := s.toks) (fun _ _ q => Heap.get?_push_of_some _ q) (Nat.le_refl _) ?_, rfl, h _ (I.hok.fresh (Nat.le_refl _)) hlow⟩
  exact ⟨⟨[], .nil, _, #[], 0, Heap.get?_push_size _ rfl, ⟨rfl, rfl, rfl⟩, rfl, rfl, List.nodup_nil⟩, ⟨_, Heap.get?_push_size _ rfl⟩, nPhi_stay⟩⟩
theorem pe_nget (hu : X.A.units + 64 < cLine) (ho : PE X o td) (he : PE X e ty) (m : M1 X o "get" apos e cpos) : PE X (.Call (.Attribute o "get" apos) [e] [] cpos) (tNGet X.prog X.w td ty) := by
  refine ⟨fun pins s σ H Q I h => ?_⟩
  refine wpAny_Call_method m.base m.few m.line PySem.F.plainAttrs_dict PySem.F.slot_dict_get PySem.F.type_dict_get (thn (ho.run pins s σ H _ I h) fun u s1 ⟨x, H1, I1, rx, a, ex, ⟨xs0, d⟩, q1⟩ => ?_)
  subst ex
  obtain rfl : u = Value.ref a := rx
  refine ⟨nd_typeIs I1 d, nd_noDict I1 d, ?_⟩
  rw [m.trees]
  refine Calls.callWith_builtin rfl (Calls.evalArgs_plain (Calls.spliced_cons (thn (he.run pins s1 σ H1 _ I1 q1) fun iv s2 ⟨y, H2, I2, ry, xs, k, b, ey, n, g, hd, q2⟩ => Calls.spliced_nil ?_)))
  subst ey
  obtain rfl : iv = Value.ref b := ry
  exact n_get hu I2 n g hd fun w' s3 I3 rw' => ⟨_, H2, I3, rw', q2⟩
theorem pe_nitem (hu : X.A.units + 64 < cLine) (ho : PE X o td) (hi : PE X i ty) (hs : NoSl i) : PE X (.Subscript o i pos) (tNItem X.prog X.w td ty) := by
  refine ⟨fun pins s σ H Q I h => ?_⟩
  refine subD_of PySem.F.slot_dict_getitem.lookup hs (thn (ho.run pins s σ H _ I h) fun u s1 ⟨x, H1, I1, rx, q1⟩ => thn (hi.run pins s1 σ H1 _ I1 q1) fun iv s2 ⟨y, H2, I2, ry, a, xs, k, b, v, ex, ey, n, g, hd, l, q2⟩ => ?_)
  subst ex; subst ey
  obtain rfl : u = Value.ref a := rx
  obtain rfl : iv = Value.ref b := ry
  exact ⟨nd_typeIs I2 n, n_getItem hu I2 n g hd l fun w' s3 I3 rw' => ⟨v, H2, I3, rw', q2⟩⟩
theorem pc_nnotin (hu : X.A.units + 64 < cLine) (hi : PE X i ty) (ho : PE X o td) : PC X .NotIn i o (tNNotIn X.prog X.w ty td) := by
  refine ⟨fun pins s σ H Q I h => ?_⟩
  refine thn (hi.run pins s σ H _ I h) fun iv s1 ⟨y, H1, I1, ry, q1⟩ => thn (ho.run pins s1 σ H1 _ I1 q1) fun u s2 ⟨x, H2, I2, rx, a, xs, k, b, ex, ey, n, g, hd, q2⟩ => ?_
  subst ex; subst ey
  obtain rfl : u = Value.ref a := rx
  obtain rfl : iv = Value.ref b := ry
  exact n_notIn hu I2 n g hd fun s3 I3 => ⟨.bl (!(nAt xs k).isSome), H2, I3, rfl, q2⟩
theorem ps_nput (hu : X.A.units + 64 < cLine) (ho : PE X o td) (hi : PE X i ty) (hv : PE X value tv) (hs : swapsWith value (some (.Subscript o i pos')) pos.line X.env = pure false) :
    PS X (.Assign [.Subscript o i pos'] value pos) (sNPut X.prog X.w td ty tv) := by
  refine ⟨fun pins s σ H D I h => ?_⟩
  refine wpAny_Assign_Subscript (thn (hv.run pins s σ H _ I h) fun r s1 ⟨v, H1, I1, rv, q1⟩ => thn (ho.run pins s1 σ H1 _ I1 q1) fun u s2 ⟨x, H2, I2, rx, q2⟩ => thn (hi.run pins s2 σ H2 _ I2 q2) fun iv s3 ⟨y, H3, I3, ry, a, xs, k, b, ex, ey, n, g, hd, l, hz, q3⟩ => ?_) hs
  subst ex; subst ey
  obtain rfl : u = Value.ref a := rx
  obtain rfl : iv = Value.ref b := ry
  exact n_put hu I3 n g hd l hz rv fun s4 I4 => ⟨σ, _, I4, q3⟩
end
def rLenN (P : Program) (w : World) : List V → Hp → VK → Prop := fun xs H Q => ∃ (p : Addr) (ks : NX), xs = [.ref p] ∧ ND P w H p ks ∧ Q (.int ((ks.length : Nat) : Int)) H
theorem call_lenN {X : Cx} : CallR X (.builtin "len") (rLenN X.prog X.w) := by
  intro pins s σ H xs us Q I r h
  obtain ⟨p, ks, rfl, n, q⟩ := h
  obtain ⟨u, rfl, rx⟩ := vals1 r
  obtain rfl : u = .ref p := rx
  obtain ⟨ys, rel, dd⟩ := n.get I.hok
  have hl : ks.length = ys.length := Paired.length rel
  have hz := n.len
  rw [sizeLine_eq] at hz
  have key : wpAny (model X.prog X.w) X.A (call (.builtin "dict.__len__") [.ref p]) (fun r' s' => ∃ t, r' = .int ys.length t ∧ Inv X pins σ H s') X.xe s :=
    len_keyed (knd := nestedKind X.prog X.w) n.low ⟨ys, dd, rfl⟩ (by rw [pairsH_length]; exact ⟨_, rfl, I.tok _⟩)
  refine PyProof.Rows.call_len_slot (n := ys.length) dd.typeIs F.slot_dict_len (fun Q' hq => len_keyed (knd := nestedKind X.prog X.w) n.low ⟨ys, dd, rfl⟩ (by rw [pairsH_length]; exact hq)) (by omega) (by omega) ?_
  rw [← hl]
  exact ⟨.int ((ks.length : Nat) : Int), H, I.tok _, ⟨_, rfl⟩, q⟩
/-! ### xs.extend(t), t a tuple -/
theorem meets_extend_tup {prog : Program} {w : World} (l b : Addr) :
    MeetsIn prog w (Builtin.«list.extend» ⟨[.ref l, .ref b], []⟩) (fun _ R s => ∃ (o : Obj) (its its2 : Array Value) (n : Nat), s.heap.get? l = some o ∧ o.cls = .type "list" ∧ o.data = .seq its n ∧ IsTup s.heap b its2 ∧ its.size + its2.size ≤ sizeLine ∧
      R (.ok (.ret .none)) { s with heap := s.heap.update l (Obj.mapSeq (· ++ its2)) }) := by
  rintro A R s ⟨o, its, its2, n, h1, h2, h3, ⟨o2, e1, e2, m, e3⟩, hz, hR⟩
  show wpAny _ A.in1 (Builtin.List.listExtendWith (.ref l) (.ref b) .none) _ _ s
  unfold Builtin.List.listExtendWith
  refine wpAny_bind (wpAny_typeOf ⟨o2, e1, e2⟩ ?_)
  have h1' : (Builtin.List.listSameRef (.ref l) (.ref b) || Value.type "tuple" == Value.type "list" || Value.type "tuple" == Value.type "tuple") = true := by simp
  simp only [h1', if_true]
  refine wpAny_bind ?_
  unfold Builtin.List.listItems
  refine wpAny_bind (wpAny_seqItems e1 e3 (wpAny_pure ?_))
  refine wpAny_bind ?_
  refine wpAny_bind (wpAny_seqItems h1 h3 (wpAny_pure ?_))
  have hlong : (!its.isEmpty && Builtin.List.listTooLong (its.size + its2.size)) = false := by rw [notLongL hz, Bool.and_false]
  show wpAny _ A.in1 (if (!its.isEmpty && Builtin.List.listTooLong (its.size + its2.size)) = true then _ else _) _ _ s
  rw [hlong, if_neg (by decide)]
  show wpAny _ A.in1 (updateSeq l (· ++ its2) >>= fun _ => ret .none) _ _ s
  refine wpAny_bind (wpAny_updateSeq (hz := by omega) (_hz' := by rw [Array.size_append]; omega) h1 h3 ?_)
  exact wpAny_pure hR
def rExtendT (K : PySem.W.Frag) : V → List V → Hp → VK → Prop := fun x vs H Q => ∃ l b xs zs, x = .ref l ∧ vs = [.ref b] ∧ H l = some (.lst xs) ∧ SqT K H b zs ∧ xs.length + zs.length ≤ sizeLine ∧ Q .non (upd H l (.lst (xs ++ zs)))
theorem mt_extendT {X : Cx} : MtR X "list.extend" (rExtendT X.K) := by
  intro pins s σ H x vs v us Q I rx rv h
  obtain ⟨l, b, xs, zs, rfl, rfl, hH, hB, hz, q⟩ := h
  cases rx
  obtain ⟨u, rfl, ru⟩ := rv.one
  cases ru
  obtain ⟨z, its, n, r, hl, e⟩ := I.lstM hH
  obtain ⟨its2, r2, t2, z2⟩ := I.tuple hB
  have hl2 := r2.length
  refine call_meetsIn F.slot_list_extend ⟨_, e, rfl⟩ F.entry_list_extend (F.args_list_extend_2 _ _) (meets_extend_tup l b) ⟨_, its.toArray, its2.toArray, n, e, rfl, rfl, t2, by rw [List.size_toArray, List.size_toArray]; omega, ?_⟩
  refine ⟨.non, _, I.lset (its' := its ++ its2) (t' := s.toks) hH e (by simp) (r.append r2) ?_, rfl, q⟩
  rw [List.length_append]
  omega
/-! ### a comprehension over zip of two tuples of one length -/
theorem lc_zipT {K : PySem.W.Frag} {a b : Addr} {xs ys : List V} {g : TG} {tt : TT} {te : TE} {vs : List Nat} {σ : L2.St} {H1 : Hp} {D : Addr} {Qd : Hp → Prop} (hl : xs.length = ys.length) (Pv : Nat → Hp → Prop) (h0 : Pv 0 (upd H1 D (.lst []))) (hq : ∀ i H, Pv i H → SqT K H a xs ∧ SqT K H b ys)
    (hs : ∀ (i : Nat) (x y : V) (T : Addr) (H : Hp), xs[i]? = some x → ys[i]? = some y → Pv i H → H T = none → g (.ref T) (wipe σ vs) (upd H T (.tup [x, y])) fun σ2 H2 => wipe σ2 vs = wipe σ vs ∧ tt σ2 H2 fun b H3 =>
      if b = true then te σ2 H3 fun y H4 => ∃ acc, H4 D = some (.lst acc) ∧ acc.length < sizeLine ∧ Pv (i + 1) (upd H4 D (.lst (acc ++ [y]))) else Pv (i + 1) H3) (hd : ∀ H, Pv xs.length H → Qd H) :
    ∃ W : Nat → Nat → Hp → Prop, (∃ m, W 0 m (upd H1 D (.lst []))) ∧ ∀ i m H, W i m H →
      ((RZ.ItzT K a b).stop i H ∧ Qd H) ∨ ((RZ.ItzT K a b).go i H ∧ ∃ Nx : Hp → Prop, (∀ H', Nx H' → ∃ m', m' < m ∧ W (i + 1) m' H') ∧ ∀ x H', (RZ.ItzT K a b).yld i H x H' → g x (wipe σ vs) H' fun σ2 H2 => wipe σ2 vs = wipe σ vs ∧ tt σ2 H2 fun b H3 =>
        if b = true then te σ2 H3 fun y H4 => ∃ acc, H4 D = some (.lst acc) ∧ acc.length < sizeLine ∧ Nx (upd H4 D (.lst (acc ++ [y]))) else Nx H3) := by
  refine ⟨fun i m H => m = xs.length - i ∧ i ≤ xs.length ∧ Pv i H, ⟨xs.length, by simp, Nat.zero_le _, h0⟩, ?_⟩
  rintro i m H ⟨rfl, hi, p⟩
  obtain ⟨qx, qy⟩ := hq i H p
  by_cases hlt : i < xs.length
  · have hx : xs[i]? = some xs[i] := List.getElem?_eq_getElem hlt
    have hlt2 : i < ys.length := by omega
    have hy : ys[i]? = some ys[i] := List.getElem?_eq_getElem hlt2
    refine .inr ⟨⟨xs, ys, _, _, qx, qy, hx, hy⟩, Pv (i + 1), fun H' p' => ⟨xs.length - (i + 1), by omega, rfl, hlt, p'⟩, fun v H' y => ?_⟩
    obtain ⟨T, x', y', rfl, hT, rfl, f1, f2⟩ := y
    exact hs i x' y' T H (f1 xs qx) (f2 ys qy) p hT
  · have e : i = xs.length := by omega
    subst e
    exact .inl ⟨⟨xs, ys, qx, qy, Or.inl (Nat.le_refl _)⟩, hd H p⟩
/-! ### any iterator of a known number of turns -/
theorem lc_gen {J : It} (n : Nat) {g : TG} {tt : TT} {te : TE} {vs : List Nat} {σ : L2.St} {H1 : Hp} {D : Addr} {Qd : Hp → Prop} (Pv : Nat → Hp → Prop) (h0 : Pv 0 (upd H1 D (.lst []))) (hgo : ∀ i H, i < n → Pv i H → J.go i H) (hstop : ∀ H, Pv n H → J.stop n H)
    (hs : ∀ i x H H', i < n → Pv i H → J.yld i H x H' → g x (wipe σ vs) H' fun σ2 H2 => wipe σ2 vs = wipe σ vs ∧ tt σ2 H2 fun b H3 =>
      if b = true then te σ2 H3 fun y H4 => ∃ acc, H4 D = some (.lst acc) ∧ acc.length < sizeLine ∧ Pv (i + 1) (upd H4 D (.lst (acc ++ [y]))) else Pv (i + 1) H3) (hd : ∀ H, Pv n H → Qd H) :
    ∃ W : Nat → Nat → Hp → Prop, (∃ m, W 0 m (upd H1 D (.lst []))) ∧ ∀ i m H, W i m H →
      (J.stop i H ∧ Qd H) ∨ (J.go i H ∧ ∃ Nx : Hp → Prop, (∀ H', Nx H' → ∃ m', m' < m ∧ W (i + 1) m' H') ∧ ∀ x H', J.yld i H x H' → g x (wipe σ vs) H' fun σ2 H2 => wipe σ2 vs = wipe σ vs ∧ tt σ2 H2 fun b H3 =>
        if b = true then te σ2 H3 fun y H4 => ∃ acc, H4 D = some (.lst acc) ∧ acc.length < sizeLine ∧ Nx (upd H4 D (.lst (acc ++ [y]))) else Nx H3) := by
  refine ⟨fun i m H => m = n - i ∧ i ≤ n ∧ Pv i H, ⟨n, by simp, Nat.zero_le _, h0⟩, ?_⟩
  rintro i m H ⟨rfl, hi, p⟩
  by_cases hlt : i < n
  · exact .inr ⟨hgo i H hlt p, Pv (i + 1), fun H' p' => ⟨n - (i + 1), by omega, rfl, hlt, p'⟩, fun v H' y => hs i v H H' hlt p y⟩
  · have e : i = n := by omega
    subst e
    exact .inl ⟨hstop H p, hd H p⟩
theorem for_gen {J : It} (n : Nat) {g : TG} {tb : TS} {D : Ends} {σ : L2.St} {H : Hp} (Pv : Nat → L2.St → Hp → Prop) (h0 : Pv 0 σ H) (hgo : ∀ i σ H, i < n → Pv i σ H → J.go i H) (hstop : ∀ σ H, Pv n σ H → J.stop n H)
    (hs : ∀ i x σ H H', i < n → Pv i σ H → J.yld i H x H' → g x σ H' fun σ2 H2 => tb { D with nx := Pv (i + 1), ct := Pv (i + 1), bk := D.nx } σ2 H2) (hd : ∀ σ H, Pv n σ H → D.nx σ H) :
    ∃ W : Nat → Nat → L2.St → Hp → Prop, (∃ m, W 0 m σ H) ∧ ∀ i m σ H, W i m σ H →
      (J.stop i H ∧ D.nx σ H) ∨ (J.go i H ∧ ∃ N : L2.St → Hp → Prop, (∀ σ' H', N σ' H' → ∃ m', m' < m ∧ W (i + 1) m' σ' H') ∧ ∀ x H', J.yld i H x H' → g x σ H' fun σ2 H2 => tb { D with nx := N, ct := N, bk := D.nx } σ2 H2) := by
  refine ⟨fun i m σ H => m = n - i ∧ i ≤ n ∧ Pv i σ H, ⟨n, by simp, Nat.zero_le _, h0⟩, ?_⟩
  rintro i m σ H ⟨rfl, hi, p⟩
  by_cases hlt : i < n
  · exact .inr ⟨hgo i σ H hlt p, Pv (i + 1), fun σ' H' p' => ⟨n - (i + 1), by omega, rfl, hlt, p'⟩, fun x H' y => hs i x σ H H' hlt p y⟩
  · have e : i = n := by omega
    subst e
    exact .inl ⟨hstop σ H p, hd σ H p⟩
end Sh

namespace Sh
open PySem PySem.Spec PyProof.Rows L2
/-! ### the text by places -/
def topS (i : Nat) : Stmt := PySem.Challenge.pw_sameshape_k26_whole_parts_keep_nodes.main.body.getD i (.Pass ⟨0, 0, 0, 0⟩)
abbrev sDigits : Stmt := topS 3
abbrev sCode : Stmt := topS 4
abbrev sRunCode : Stmt := topS 6
abbrev sBlockCode : Stmt := topS 7
/-- what the module's names hold -/
structure Txt (mg : Str → Option Value) : Prop where
  digit : ∃ t, mg "DIGIT" = some (.int 65536 t)
  rounds : ∃ t, mg "ROUNDS" = some (.int 4 t)
  range : mg "range" = none
  len : mg "len" = none
  tuple : mg "tuple" = none
  isinstance : mg "isinstance" = none
  str : mg "str" = none
  sum : mg "sum" = none
  zip : mg "zip" = none
  int : mg "int" = none
  abs : mg "abs" = none
  list : mg "list" = none
  max : mg "max" = none
  min : mg "min" = none
  ord : mg "ord" = none
/-! ### heaps -/
theorem same_upd {H : Hp} {p : Addr} {o : HO} (h : H p = none) : Same H (upd H p o) := fun b x e => by
  rw [upd_ne (ne_of_none e h)]
  exact e
theorem tups_of {H H' : Hp} (s : Same H H') : Tups H H' := fun a xs e => s a _ e
theorem seqT_of {K : PySem.W.Frag} {H H' : Hp} {a : Addr} {xs : List V} (e : Same H H') (h : SqT K H a xs) : SqT K H' a xs := by
  rcases h with (h | ⟨o, h⟩) | h
  · exact .inl (.inl (e _ _ h))
  · exact .inl (.inr ⟨o, e _ _ h⟩)
  · exact .inr h
theorem sqT_upd {K : PySem.W.Frag} {H : Hp} {a D : Addr} {xs ys : List V} {o : HO} (h : SqT K H a xs) (hD : H D = some (.lst ys)) : SqT K (upd H D o) a xs := by
  rcases h with (h | ⟨u, h⟩) | h
  · exact .inl (.inl (by rw [upd_ne (ne_of h hD (fun z => nomatch z))]; exact h))
  · exact .inl (.inr ⟨u, by rw [upd_ne (ne_of h hD (fun z => nomatch z))]; exact h⟩)
  · exact .inr h
/-- a slice of a tuple: some tuple of these items -/
def rSlN (K : PySem.W.Frag) : V → Option Int → Option Int → Hp → VK → Prop := fun x lo hi H Q => ∃ a xs, x = .ref a ∧ SqT K H a xs ∧ ∀ (H' : Hp) (p : Addr), Same H H' → SqT K H' p (cutV xs lo hi) → Q (.ref p) H'
theorem sl_tupN {X : Cx} : SlR X (rSlN X.K) := by
  intro pins s σ H x v vl vu lo hi sl Q I rx hs pl pu h
  obtain ⟨a, xs, rfl, hx, q⟩ := h
  refine sl_tupA pins s σ H _ v vl vu lo hi sl Q I rx hs pl pu ⟨a, xs, rfl, hx, fun hw => q H a (Same.refl H) ?_, fun _ p np => q _ p (same_upd np) (SqT.of upd_same)⟩
  have e : cutV xs lo hi = xs := by
    unfold cutV
    rw [hw.1, hw.2, List.drop_zero, Nat.sub_zero, List.take_length]
  rw [e]; exact hx
def rSlM : V → Option Int → Option Int → Hp → VK → Prop := fun x lo hi H Q => ∃ a xs, x = .ref a ∧ H a = some (.tup xs) ∧ ∀ (H' : Hp) (p : Addr), Same H H' → H' p = some (.tup (cutV xs lo hi)) → Q (.ref p) H'
theorem sl_tupM {X : Cx} : SlR X rSlM := by
  intro pins s σ H x v vl vu lo hi sl Q I rx hs pl pu h
  obtain ⟨a, xs, rfl, hx, q⟩ := h
  refine sl_tupA pins s σ H _ v vl vu lo hi sl Q I rx hs pl pu ⟨a, xs, rfl, SqT.of hx, fun hw => q H a (Same.refl H) ?_, fun _ p np => q _ p (same_upd np) upd_same⟩
  have e : cutV xs lo hi = xs := by
    unfold cutV
    rw [hw.1, hw.2, List.drop_zero, Nat.sub_zero, List.take_length]
  rw [e]; exact hx
/-- t + u of tuples: some tuple of both -/
def rCatN (K : PySem.W.Frag) : R2 := fun x y H Q => ∃ a b xs ys, x = .ref a ∧ y = .ref b ∧ SqT K H a xs ∧ SqT K H b ys ∧ xs.length + ys.length ≤ sizeLine ∧ ∀ (H' : Hp) (p : Addr), Same H H' → SqT K H' p (xs ++ ys) → Q (.ref p) H'
theorem op_catN {X : Cx} : OpR X (binaryOp .Add) (rCatN X.K) := by
  intro pins s σ H x y v u Q I rx ry h
  obtain ⟨a, b, xs, ys, rfl, rfl, hx, hy, hz, q⟩ := h
  refine op_catA pins s σ H _ _ v u Q I rx ry ⟨a, b, xs, ys, rfl, rfl, hx, hy, hz, fun e => ?_, fun _ e => ?_, fun _ _ p np => q _ p (same_upd np) (SqT.of upd_same)⟩
  · refine q H b (Same.refl H) ?_
    rw [e]; exact hy
  · refine q H a (Same.refl H) ?_
    rw [e, List.append_nil]; exact hx
/-- numbers as values -/
def nI (l : List Nat) : List V := l.map fun (n : Nat) => V.int (n : Int)
theorem nI_len (l : List Nat) : (nI l).length = l.length := by simp [nI]
theorem line_big {n : Nat} (h : n ≤ 16000000) : n ≤ sizeLine := by rw [sizeLine_eq]; omega
theorem line_lt {n : Nat} (h : n ≤ 16000000) : n < sizeLine := by rw [sizeLine_eq]; omega
section
variable {P : Program} {w : World} {K : PySem.W.Frag} {mg : Str → Option Value} {base : Heap}
/-! ### digits_of -/
theorem scDigits : FnScope ["number", "count", "digits", "_"] ["number", "count"] (defScope sDigits) := ⟨rfl, rfl, rfl, by decide +kernel, rfl, by decide +kernel, by decide +kernel⟩
def spDigits : Sp := fun vs H Q _ => ∃ (n k : Nat), vs = [.int n, .int k] ∧ k ≤ 10 ∧ ∀ (H' : Hp) (p : Addr), Same H H' → H' p = some (.tup (nI (digs k n))) → Q (.ref p) H'
theorem ok_digits {f : Addr} {fd : FuncData} {k : Nat} (F : Fun K "digits_of" "digits_of" sDigits f fd) (T : Txt mg) : FnOk P w K mg base CX0 (k + 1) f fd ["number", "count"] spDigits := by
  refine F.ok scDigits (fun vs H Q E h => ?_) (fun cdv A outer s H vs Q E hr h => ?_)
  · obtain ⟨n, k, rfl, _⟩ := h
    rfl
  · obtain ⟨n, k, rfl, hk, q⟩ := h
    obtain ⟨td, hd⟩ := T.digit
    refine ⟨_, pss_cons (ps_set (i := 2) scDigits.nd rfl (.inl rfl) (pe_tup pa_nil))
      (pss_cons (ps_for PassesOwn.never rfl (pi_range1 rfl T.range (pa_cons (pv 1) pa_nil)) (pg_name (i := 3) scDigits.nd rfl (.inl rfl))
        (pss_cons (ps_set (i := 2) scDigits.nd rfl (.inl rfl) (pe_op op_catT (pe_tup (pa_cons (pe_op op_mod (pv 0) (pe_glob (v := .int 65536) rfl hd ⟨_, rfl⟩)) pa_nil)) (pv 2)))
        (pss_one (ps_set (i := 0) scDigits.nd rfl (.inl rfl) (pe_op op_fdiv (pv 0) (pe_glob (v := .int 65536) rfl hd ⟨_, rfl⟩))))))
      (pss_one (ps_ret (pv 2)))), ?_⟩
    refine ⟨Nat.zero_le _, fun p np => ?_⟩
    refine ⟨_, rfl, k, rfl, by omega, by omega, ?_⟩
    refine for_range (lo := 0) (n := (k : Int).toNat) (fun i σ H' => ∃ (p : Addr) (y : Option V), σ = [some (.int ((n / 65536 ^ i : Nat) : Int)), some (.int k), some (.ref p), y] ∧ Same H H' ∧ H' p = some (.tup (nI (digs i n)))) ?_ ?_ ?_
    · exact ⟨p, none, by rw [Nat.pow_zero, Nat.div_one]; rfl, same_upd np, by rw [upd_same]; rfl⟩
    · rintro i σ H1 hi ⟨p1, y, rfl, sm, hp⟩
      refine ⟨_, rfl, _, _, rfl, rfl, (by show (0 : Int) < 65536; decide), (by show 1 ≤ sizeLine; decide), fun p2 np2 => ?_⟩
      have sm2 : Same H1 (upd H1 p2 (.tup [.int ((n / 65536 ^ i : Nat) % 65536 : Int)])) := same_upd np2
      have hlen : (nI (digs i n)).length = i := by rw [nI_len, digs_length]
      have hi' : i ≤ 10 := by omega
      have fin : ∀ (H3 : Hp) (p3 : Addr), Same H H3 → H3 p3 = some (.tup (V.int ((n / 65536 ^ i : Nat) % 65536 : Int) :: nI (digs i n))) → H3 p3 = some (.tup (nI (digs (i + 1) n))) := by
        intro H3 p3 _ e
        rw [e, digs]
        show _ = some (HO.tup (V.int ((n / 65536 ^ i % 65536 : Nat) : Int) :: nI (digs i n)))
        rw [Int.natCast_emod]
        rfl
      have nxt : ((n / 65536 ^ i : Nat) : Int) / 65536 = ((n / 65536 ^ (i + 1) : Nat) : Int) := by
        rw [Nat.pow_succ, ← Nat.div_div_eq_div_mul]; omega
      refine ⟨_, rfl, p2, p1, _, _, rfl, rfl, SqT.of upd_same, SqT.of (sm2 _ _ hp), by simp, by rw [hlen]; exact line_big (by simp; omega), fun e => ?_, fun e p3 np3 => ?_⟩
      · refine ⟨_, rfl, _, _, rfl, rfl, ⟨by decide, by decide⟩, ?_⟩
        refine ⟨p2, some (.int (0 + i)), congrArg (fun z => [some (V.int z), some (V.int k), some (V.ref p2), some (V.int (0 + i))]) nxt, sm.trans sm2, ?_⟩
        refine fin _ p2 (sm.trans sm2) ?_
        rw [upd_same, e]
      · have sm3 : Same _ (upd _ p3 (.tup ([.int ((n / 65536 ^ i : Nat) % 65536 : Int)] ++ nI (digs i n)))) := same_upd np3
        refine ⟨_, rfl, _, _, rfl, rfl, ⟨by decide, by decide⟩, ?_⟩
        refine ⟨p3, some (.int (0 + i)), congrArg (fun z => [some (V.int z), some (V.int k), some (V.ref p3), some (V.int (0 + i))]) nxt, (sm.trans sm2).trans sm3, ?_⟩
        refine fin _ p3 ((sm.trans sm2).trans sm3) ?_
        rw [upd_same]; rfl
    · rintro σ H1 ⟨p1, y, rfl, sm, hp⟩
      refine ⟨_, rfl, ?_⟩
      rw [Int.toNat_natCast] at hp
      exact q H1 p1 sm hp
end
end Sh

namespace Sh
open PySem PySem.Spec PyProof.Rows L2
section
variable {P : Program} {w : World} {K : PySem.W.Frag} {mg : Str → Option Value} {base : Heap}
/-! ### code_of -/
theorem scCode : FnScope ["element", "character"] ["element"] (defScope sCode) := ⟨rfl, rfl, rfl, by decide +kernel, rfl, by decide +kernel, by decide +kernel⟩
def spCodeSc : Sp := fun vs H Q _ => ∃ (e : NestedKey) (v : V), vs = [v] ∧ NK H e v ∧ OkSc e ∧ ∀ (H' : Hp) (p : Addr), Same H H' → H' p = some (.tup (nI (sccode e))) → Q (.ref p) H'
def spCode : Sp := fun vs H Q _ => ∃ (e : NestedKey) (v : V), vs = [v] ∧ NK H e v ∧ OkEl e ∧ ∀ (H' : Hp) (p : Addr), Same H H' → H' p = some (.tup (nI (elcode e))) → Q (.ref p) H'
theorem nI_cons (n : Nat) (l : List Nat) : nI (n :: l) = .int n :: nI l := rfl
theorem nI_append (l m : List Nat) : nI (l ++ m) = nI l ++ nI m := by simp [nI]
theorem body_sc {f fD : Addr} {fdD : FuncData} {k : Nat} {cdv : Value} {A : Around} {outer : List Env} {s : Shared} {H : Hp} {E : XK} {Q : VK} {e : NestedKey} {v : V} (FD : Fun K "digits_of" "digits_of" sDigits fD fdD) (bD : Binds K fdD ["number", "count"] []) (gD : mg "digits_of" = some (.ref fD)) (T : Txt mg)
    (hr : Room (k + 1) (A.deeper (envOfC "code_of" (defScope sCode) s.heap.objs.size f cdv))) (nk : NK H e v) (ok : OkSc e) (q : ∀ (H' : Hp) (p : Addr), Same H H' → H' p = some (.tup (nI (sccode e))) → Q (.ref p) H') :
    ∃ t, PSs (cxOf CX0 P w K mg base ["element", "character"] "code_of" (defScope sCode) f cdv A outer s H E).nox (defBody sCode) t ∧ t { nx := fun _ H' => Q .non H', rt := Q } (start ["element", "character"] [v]) H := by
    have GD : FnOk P w K mg base CX0 (k + 1) fD fdD ["number", "count"] spDigits := ok_digits FD T
    refine ⟨_, pss_cons (ps_if (pt_val (pe_callB call_isi (by rfl) T.isinstance boot_isinstance (pa_cons (pv 0) (pa_cons (pe_bltn (v := .ty "tuple") (by rfl) T.tuple boot_tuple rfl) pa_nil)))) pss_never pss_nil)
      (pss_cons (ps_if (pt_val (pe_callB call_isi (by rfl) T.isinstance boot_isinstance (pa_cons (pv 0) (pa_cons (pe_bltn (v := .ty "str") (by rfl) T.str boot_str rfl) pa_nil))))
        (pss_one (ps_ret (pe_op op_catA (pe_tup (pa_cons pe_int (pa_cons (pe_callB call_len (by rfl) T.len PySem.boot_len (pa_cons (pv 0) pa_nil)) pa_nil)))
          (pe_callTy call_tuple_of (by rfl) T.tuple boot_tuple (pa_cons (pe_lc (own := [("character", 1)]) (g := gName 1) (tt := tYes) rfl scCode.nd (pi_str (pv 0)) (blkOk_by (N := ["element", "character"]) (sc := defScope sCode) (by decide +kernel))
            (fun _ _ _ _ _ => pg_name (i := 1) scCode.nd rfl (Or.inl rfl)) (fun _ _ _ _ _ => pts_nil) (fun _ _ _ _ _ => pe_callB call_ord (by rfl) T.ord boot_ord (pa_cons (pv 1) pa_nil))) pa_nil))))) pss_nil)
      (pss_cons (ps_if (pt_cmpR op_lt (pv 0) pe_int (nomark _)) (pss_one (ps_ret (pe_op op_catA (pe_tup (pa_cons pe_int pa_nil)) (pe_call GD hr (by rfl) gD FD.kp bD .nil pass0 (pa_cons (pe_un un_neg (pv 0)) (pa_cons pe_int pa_nil)))))) pss_nil)
      (pss_one (ps_ret (pe_op op_catA (pe_tup (pa_cons pe_int pa_nil)) (pe_call GD hr (by rfl) gD FD.kp bD .nil pass0 (pa_cons (pv 0) (pa_cons pe_int pa_nil)))))))), ?_⟩
    cases nk with
    | tup _ _ => exact ok.elim
    | num i =>
      have hi : i.natAbs ≤ 1000000000000000 := ok
      refine ⟨_, rfl, .int i, .ty "tuple", .type "int", .type "tuple", false, rfl, .ty "tuple", .base (.int i), kit_ty (by decide +kernel), _, rfl, iteF ?_⟩
      refine ⟨_, rfl, .int i, .ty "str", .type "int", .type "str", false, rfl, .ty "str", .base (.int i), kit_ty (by decide +kernel), _, rfl, iteF ?_⟩
      refine ⟨_, rfl, _, _, rfl, rfl, _, rfl, ite2 (fun hlt => ?_) (fun hlt => ?_)⟩
      · have hlt : i < 0 := of_decide_eq_true hlt
        refine ⟨by show 1 ≤ sizeLine; decide, fun p1 np1 => ⟨_, rfl, i, rfl, (-i).toNat, 4, ?_, by decide, fun H2 p2 sm2 hp2 => ?_⟩⟩
        · show [V.int (-i), V.int 4] = _
          rw [Int.toNat_of_nonneg (by omega)]; rfl
        · have e1 : H2 p1 = some (.tup [.int 2]) := sm2 _ _ upd_same
          refine ⟨p1, p2, _, _, rfl, rfl, SqT.of e1, SqT.of hp2, by rw [nI_len, digs_length]; exact line_big (by simp), fun e => (nomatch e), fun _ e => ?_, fun _ _ p3 np3 => ?_⟩
          · exact (nomatch e)
          · refine q _ p3 (((same_upd np1).trans sm2).trans (same_upd np3)) ?_
            rw [upd_same, sccode_num, if_pos hlt]; rfl
      · have hlt : ¬ i < 0 := fun z => hlt (decide_eq_true z)
        refine ⟨by show 1 ≤ sizeLine; decide, fun p1 np1 => ⟨_, rfl, i.toNat, 4, ?_, by decide, fun H2 p2 sm2 hp2 => ?_⟩⟩
        · show [V.int i, V.int 4] = _
          rw [Int.toNat_of_nonneg (by omega)]; rfl
        · have e1 : H2 p1 = some (.tup [.int 1]) := sm2 _ _ upd_same
          refine ⟨p1, p2, _, _, rfl, rfl, SqT.of e1, SqT.of hp2, by rw [nI_len, digs_length]; exact line_big (by simp), fun e => (nomatch e), fun _ e => ?_, fun _ _ p3 np3 => ?_⟩
          · exact (nomatch e)
          · refine q _ p3 (((same_upd np1).trans sm2).trans (same_upd np3)) ?_
            rw [upd_same, sccode_num, if_neg hlt]; rfl
    | text x =>
      obtain ⟨hx, hc⟩ := ok
      refine ⟨_, rfl, .str x, .ty "tuple", .type "str", .type "tuple", false, rfl, .ty "tuple", .base (.str x), kit_ty (by decide +kernel), _, rfl, iteF ?_⟩
      refine ⟨_, rfl, .str x, .ty "str", .type "str", .type "str", true, rfl, .ty "str", .base (.str x), kit_ty (by decide +kernel), _, rfl, iteT ?_⟩
      refine ⟨_, rfl, _, x.length, rfl, ⟨line_big (by omega), rfl⟩, by show 2 ≤ sizeLine; decide, fun p1 np1 => ⟨_, rfl, x, rfl, fun D nD => ?_⟩⟩
      have hl : x.cps.toList.length = x.length := str_len x
      refine lc_gen (J := Its x) x.length (fun i H' => Same H H' ∧ H' p1 = some (.tup [.int 3, .int x.length]) ∧ H' D = some (.lst (nI (x.cps.toList.take i)))) ?_ (fun i H' hi _ => hi) (fun H' _ => Nat.le_refl _) ?_ ?_
      · have n1 : p1 ≠ D := ne_of_none upd_same nD
        exact ⟨(same_upd np1).trans (same_upd nD), by rw [upd_ne n1, upd_same], by rw [upd_same]; rfl⟩
      · rintro i y H1 H2 hi ⟨sm, e1, eD⟩ ⟨rfl, c, hcp, rfl⟩
        refine ⟨rfl, ?_⟩
        refine ⟨_, rfl, _, rfl, rfl, _, eD, by rw [nI_len]; exact line_lt (Nat.le_trans (List.length_take_le _ _) (by have : i < x.length := hi; omega)), ?_⟩
        have nD2 : H D = none := by
          have h2 := (same_upd (o := HO.tup [.int 3, .int x.length]) np1).free nD
          exact h2
        refine ⟨fun b o hb => ?_, ?_, ?_⟩
        · rw [upd_ne (ne_of_none hb nD2)]; exact sm b o hb
        · rw [upd_ne (ne_of e1 eD (fun z => nomatch z))]; exact e1
        · rw [upd_same, List.take_add_one, nI_append]
          have : x.cps.toList[i]? = some c := by rw [Array.getElem?_toList]; exact hcp
          rw [this]
          rfl
      · rintro H1 ⟨sm, e1, eD⟩
        rw [List.take_of_length_le (by omega)] at eD
        refine ⟨D, _, rfl, .inl ⟨SqL.of eD, fun p2 np2 => ?_⟩⟩
        have e2 : (upd H1 p2 (.tup (nI x.cps.toList))) p1 = some (.tup [.int 3, .int x.length]) := same_upd np2 _ _ e1
        refine ⟨p1, p2, _, _, rfl, rfl, SqT.of e2, SqT.of upd_same, by rw [nI_len, hl]; exact line_big (by simp only [List.length_cons, List.length_nil]; omega), fun e => (nomatch e), fun _ e => ?_, fun _ _ p3 np3 => ?_⟩
        · have ex : x.cps.toList = [] := List.length_eq_zero_iff.mp (by have := congrArg List.length e; rw [nI_len] at this; exact this)
          refine q _ p1 (sm.trans (same_upd np2)) ?_
          rw [e2, sccode_text, ex]; rfl
        · refine q _ p3 ((sm.trans (same_upd np2)).trans (same_upd np3)) ?_
          rw [upd_same, sccode_text]; rfl
theorem ok_codeSc {f fD : Addr} {fd fdD : FuncData} {k : Nat} (F : Fun K "code_of" "code_of" sCode f fd) (FD : Fun K "digits_of" "digits_of" sDigits fD fdD) (bD : Binds K fdD ["number", "count"] []) (gD : mg "digits_of" = some (.ref fD)) (T : Txt mg) :
    FnOk P w K mg base CX0 (k + 2) f fd ["element"] spCodeSc := by
  refine F.ok scCode (fun vs H Q E h => ?_) (fun cdv A outer s H vs Q E hr h => ?_)
  · obtain ⟨e, v, rfl, _⟩ := h
    rfl
  · obtain ⟨e, v, rfl, nk, ok, q⟩ := h
    exact body_sc FD bD gD T hr nk ok q
theorem ok_code {f fD : Addr} {fd fdD : FuncData} {k : Nat} (F : Fun K "code_of" "code_of" sCode f fd) (b : Binds K fd ["element"] []) (g : mg "code_of" = some (.ref f)) (FD : Fun K "digits_of" "digits_of" sDigits fD fdD) (bD : Binds K fdD ["number", "count"] []) (gD : mg "digits_of" = some (.ref fD)) (T : Txt mg) :
    FnOk P w K mg base CX0 (k + 3) f fd ["element"] spCode := by
  have GS : FnOk P w K mg base CX0 (k + 2) f fd ["element"] spCodeSc := ok_codeSc F FD bD gD T
  have two : ∀ vs H Q E, spCode vs H Q E → (∃ e v, vs = [v] ∧ NK H e v ∧ OkSc e ∧ ∀ (H' : Hp) (p : Addr), Same H H' → H' p = some (.tup (nI (sccode e))) → Q (.ref p) H') ∨ (∃ (a : Addr) (x y : V) (e1 e2 : NestedKey), vs = [.ref a] ∧ H a = some (.tup [x, y]) ∧ NK H e1 x ∧ NK H e2 y ∧ OkSc e1 ∧ OkSc e2 ∧ ∀ (H' : Hp) (p : Addr), Same H H' → H' p = some (.tup (nI (4 :: (sccode e1 ++ sccode e2)))) → Q (.ref p) H') := by
    rintro vs H Q E ⟨e, v, rfl, nk, ok, q⟩
    rcases ok_cases ok with ⟨ok, ee⟩ | ⟨e1, e2, rfl, o1, o2⟩
    · exact .inl ⟨e, v, rfl, nk, ok, by rw [← ee]; exact q⟩
    · cases nk with
      | tup ha r =>
        cases r with
        | cons n1 r =>
          cases r with
          | cons n2 r =>
            cases r
            exact .inr ⟨_, _, _, e1, e2, rfl, ha, n1, n2, o1, o2, q⟩
  refine F.ok scCode (fun vs H Q E h => ?_) (fun cdv A outer s H vs Q E hr h => ?_)
  · obtain ⟨e, v, rfl, _⟩ := h
    rfl
  · rcases two _ _ _ _ h with ⟨e, v, rfl, nk, ok, q⟩ | ⟨a, x, y, e1, e2, rfl, ha, n1, n2, o1, o2, q⟩
    · -- a scalar: as one level below, the whole body once more
      exact (body_sc (k := k + 1) (E := E) FD bD gD T hr nk ok q)
    · refine ⟨_, pss_cons (ps_if (pt_val (pe_callB call_isi (by rfl) T.isinstance boot_isinstance (pa_cons (pv 0) (pa_cons (pe_bltn (v := .ty "tuple") (by rfl) T.tuple boot_tuple rfl) pa_nil))))
          (pss_one (ps_ret (pe_op op_catA (pe_op op_catA (pe_tup (pa_cons pe_int pa_nil)) (pe_call GS hr (by rfl) g F.kp b .nil pass0 (pa_cons (pe_ix ix_tup (pv 0) pe_int (fun _ _ => rfl)) pa_nil)))
            (pe_call GS hr (by rfl) g F.kp b .nil pass0 (pa_cons (pe_ix ix_tup (pv 0) pe_int (fun _ _ => rfl)) pa_nil))))) pss_nil) pss_never, ?_⟩
      refine ⟨_, rfl, .ref a, .ty "tuple", .type "tuple", .type "tuple", true, rfl, .ty "tuple", .base (.tup ha), kit_ty (by decide +kernel), _, rfl, iteT ?_⟩
      refine ⟨by show 1 ≤ sizeLine; decide, fun p1 np1 => ?_⟩
      have s1 := same_upd (o := HO.tup [.int 4]) np1
      refine ⟨_, rfl, a, _, 0, x, rfl, rfl, SqT.of (s1 _ _ ha), atI_nat (j := 0) rfl, e1, x, rfl, NK.keep (tups_of s1) _ _ n1, o1, fun H2 p2 s2 h2 => ?_⟩
      have l1 := sc_len o1
      have l2 := sc_len o2
      obtain ⟨d1, r1, c1, _⟩ := sc_head o1
      obtain ⟨d2, r2, c2, _⟩ := sc_head o2
      have e11 : H2 p1 = some (.tup [.int 4]) := s2 _ _ upd_same
      refine ⟨p1, p2, _, _, rfl, rfl, SqT.of e11, SqT.of h2, by rw [nI_len]; exact line_big (by simp; omega), fun e => (nomatch e), fun _ e => ?_, fun _ _ p3 np3 => ?_⟩
      · rw [c1] at e; exact (nomatch e)
      · have s3 := same_upd (o := HO.tup ([.int 4] ++ nI (sccode e1))) np3
        have sm := (s1.trans s2).trans s3
        refine ⟨_, rfl, a, _, 1, y, rfl, rfl, SqT.of (sm _ _ ha), atI_nat (j := 1) rfl, e2, y, rfl, NK.keep (tups_of sm) _ _ n2, o2, fun H4 p4 s4 h4 => ?_⟩
        have e3 : H4 p3 = some (.tup ([.int 4] ++ nI (sccode e1))) := s4 _ _ upd_same
        refine ⟨p3, p4, _, _, rfl, rfl, SqT.of e3, SqT.of h4, by rw [List.length_append, nI_len, nI_len]; exact line_big (by simp; omega), fun e => (nomatch e), fun _ e => ?_, fun _ _ p5 np5 => ?_⟩
        · rw [c2] at e; exact (nomatch e)
        · refine q _ p5 ((sm.trans s4).trans (same_upd np5)) ?_
          rw [upd_same, nI_cons, nI_append]; rfl
end
end Sh

namespace Sh
open PySem PySem.Spec PyProof.Rows L2
abbrev sGroups : Stmt := topS 8
section
variable {P : Program} {w : World} {K : PySem.W.Frag} {mg : Str → Option Value} {base : Heap}
/-! ### run_code -/
theorem scRunCode : FnScope ["times", "child_code"] ["times", "child_code"] (defScope sRunCode) := ⟨rfl, rfl, rfl, by decide +kernel, rfl, by decide +kernel, by decide +kernel⟩
def spRunCode : Sp := fun vs H Q _ => ∃ (k : Nat) (a : Addr) (c : List Nat), vs = [.int k, .ref a] ∧ H a = some (.tup (nI c)) ∧ c ≠ [] ∧ c.length ≤ 1000000 ∧ ∀ (H' : Hp) (p : Addr), Same H H' → H' p = some (.tup (nI (5 :: (digs 2 k ++ c)))) → Q (.ref p) H'
theorem ok_runCode {f fD : Addr} {fd fdD : FuncData} {k : Nat} (F : Fun K "run_code" "run_code" sRunCode f fd) (FD : Fun K "digits_of" "digits_of" sDigits fD fdD) (bD : Binds K fdD ["number", "count"] []) (gD : mg "digits_of" = some (.ref fD)) (T : Txt mg) :
    FnOk P w K mg base CX0 (k + 2) f fd ["times", "child_code"] spRunCode := by
  have GD : FnOk P w K mg base CX0 (k + 1) fD fdD ["number", "count"] spDigits := ok_digits FD T
  refine F.ok scRunCode (fun vs H Q E h => ?_) (fun cdv A outer s H vs Q E hr h => ?_)
  · obtain ⟨k, a, c, rfl, _⟩ := h
    rfl
  · obtain ⟨k, a, c, rfl, ha, hc, hl, q⟩ := h
    refine ⟨_, pss_one (ps_ret (pe_op op_catA (pe_op op_catA (pe_tup (pa_cons pe_int pa_nil)) (pe_call GD hr (by rfl) gD FD.kp bD .nil pass0 (pa_cons (pv 0) (pa_cons pe_int pa_nil)))) (pv 1))), ?_⟩
    refine ⟨by show 1 ≤ sizeLine; decide, fun p1 np1 => ⟨_, rfl, k, 2, rfl, by decide, fun H2 p2 s2 h2 => ?_⟩⟩
    have s1 := same_upd (o := HO.tup [.int 5]) np1
    have e1 : H2 p1 = some (.tup [.int 5]) := s2 _ _ upd_same
    refine ⟨p1, p2, _, _, rfl, rfl, SqT.of e1, SqT.of h2, by rw [nI_len, digs_length]; exact line_big (by simp), fun e => (nomatch e), fun _ e => (nomatch e), fun _ _ p3 np3 => ?_⟩
    have s3 := same_upd (o := HO.tup ([.int 5] ++ nI (digs 2 k))) np3
    have sm := (s1.trans s2).trans s3
    have hz : c ≠ [] := hc
    refine ⟨_, rfl, p3, a, _, _, rfl, rfl, SqT.of upd_same, SqT.of (sm _ _ ha), by rw [List.length_append, nI_len, nI_len, digs_length]; exact line_big (by simp only [List.length_cons, List.length_nil]; omega), fun e => (nomatch e), fun _ e => ?_, fun _ _ p5 np5 => ?_⟩
    · cases c with
      | nil => exact absurd rfl hz
      | cons d r => exact (nomatch e)
    · refine q _ p5 (sm.trans (same_upd np5)) ?_
      rw [upd_same, nI_cons, nI_append]; rfl

/-! ### block_code -/
theorem scBlockCode : FnScope ["child_codes", "code", "child_code"] ["child_codes"] (defScope sBlockCode) := ⟨rfl, rfl, rfl, by decide +kernel, rfl, by decide +kernel, by decide +kernel⟩
def spBlockCode (K : PySem.W.Frag) : Sp := fun vs H Q _ => ∃ (a : Addr) (ps : List (Addr × List Nat)), vs = [.ref a] ∧ SqL K H a (ps.map fun p => V.ref p.1) ∧ (∀ p ∈ ps, H p.1 = some (.tup (nI p.2))) ∧ (ps.map (·.2)).flatten.length ≤ 15000000 ∧
  ∀ (H' : Hp) (p : Addr), Same H H' → H' p = some (.tup (nI (6 :: ps.length :: (ps.map (·.2)).flatten))) → Q (.ref p) H'
theorem ok_blockCode {f : Addr} {fd : FuncData} {k : Nat} (F : Fun K "block_code" "block_code" sBlockCode f fd) (T : Txt mg) : FnOk P w K mg base CX0 (k + 1) f fd ["child_codes"] (spBlockCode K) := by
  refine F.ok scBlockCode (fun vs H Q E h => ?_) (fun cdv A outer s H vs Q E hr h => ?_)
  · obtain ⟨a, ps, rfl, _⟩ := h
    rfl
  · obtain ⟨a, ps, rfl, hS, hp, hl, q⟩ := h
    refine ⟨_, pss_cons (ps_set (i := 1) scBlockCode.nd rfl (.inl rfl) (pe_lst (pa_cons pe_int (pa_cons (pe_callB call_len_seq (by rfl) T.len PySem.boot_len (pa_cons (pv 0) pa_nil)) pa_nil))))
      (pss_cons (ps_for PassesOwn.never rfl (pi_list (pv 0)) (pg_name (i := 2) scBlockCode.nd rfl (.inl rfl))
        (pss_one (ps_expr (pe_bm PySem.F.plainAttrs_list PySem.F.slot_list_extend PySem.F.type_list_extend mt_extendT (pv 1) (pa_cons (pv 2) pa_nil)))))
      (pss_one (ps_ret (pe_callTy call_tuple_of (by rfl) T.tuple boot_tuple (pa_cons (pv 1) pa_nil))))), ?_⟩
    refine ⟨_, rfl, a, _, rfl, .inl hS, by show 2 ≤ sizeLine; decide, fun l nl => ?_⟩
    have s1 := same_upd (o := HO.lst [.int 6, .int ((ps.map fun p => V.ref p.1).length : Nat)]) nl
    refine ⟨_, rfl, a, rfl, ⟨_, s1.seq hS⟩, ?_⟩
    have flat_le : ∀ i, ((ps.take i).map (·.2)).flatten.length ≤ 15000000 := by
      intro i
      have e : (ps.map (·.2)).flatten = ((ps.take i).map (·.2)).flatten ++ ((ps.drop i).map (·.2)).flatten := by
        rw [← List.flatten_append, ← List.map_append, List.take_append_drop]
      rw [e, List.length_append] at hl
      omega
    refine for_list (K := K) (a := a) (xs := ps.map fun p => V.ref p.1) (fun i σ H' => ∃ y : Option V, σ = [some (.ref a), some (.ref l), y] ∧ Same H H' ∧ H' l = some (.lst (nI (6 :: ps.length :: ((ps.take i).map (·.2)).flatten)))) ?_ (fun i σ H' _ ⟨_, _, sm, _⟩ => sm.seq hS) ?_ ?_
    · exact ⟨none, rfl, s1, by rw [upd_same, List.length_map]; rfl⟩
    · rintro i x σ H1 hx ⟨y, rfl, sm, hL⟩
      rw [List.getElem?_map] at hx
      obtain ⟨p, ep, rfl⟩ := Option.map_eq_some_iff.mp hx
      have hpi := sm _ _ (hp p (List.mem_of_getElem? ep))
      have step : ((ps.take (i + 1)).map (·.2)).flatten = ((ps.take i).map (·.2)).flatten ++ p.2 := by
        rw [List.take_add_one, ep]; simp
      have hz := flat_le (i + 1)
      rw [step, List.length_append] at hz
      refine ⟨_, rfl, .inl ⟨rfl, _, SqL.of hL⟩, _, rfl, l, p.1, _, _, rfl, rfl, hL, SqT.of hpi, ?_, ?_⟩
      · rw [nI_len, nI_len]
        refine line_big ?_
        simp only [List.length_cons]; omega
      · refine ⟨some (.ref p.1), rfl, fun b o hb => ?_, ?_⟩
        · rw [upd_ne (ne_of_none hb nl)]; exact sm b o hb
        · rw [upd_same, step, ← nI_append]; rfl
    · rintro σ H1 ⟨y, rfl, sm, hL⟩
      rw [List.length_map, List.take_length] at hL
      exact ⟨_, rfl, l, _, rfl, .inl ⟨SqL.of hL, fun p np => q _ p (sm.trans (same_upd np)) upd_same⟩⟩

/-! ### groups_of -/
theorem scGroups : FnScope ["row", "groups", "start", "end"] ["row"] (defScope sGroups) := ⟨rfl, rfl, rfl, by decide +kernel, rfl, by decide +kernel, by decide +kernel⟩
def spGroups (K : PySem.W.Frag) : Sp := fun vs H Q _ => ∃ (a : Addr) (rs : List Nat), vs = [.ref a] ∧ SqL K H a (nI rs) ∧ rs.length ≤ 1000000 ∧
  ∀ (H' : Hp) (p : Addr) (ps : List (Addr × (Nat × Nat))), Same H H' → H p = none → H' p = some (.lst (ps.map fun e => V.ref e.1)) → ps.map (·.2) = groups rs → (∀ e ∈ ps, H' e.1 = some (.tup [.int e.2.1, .int e.2.2])) → Q (.ref p) H'
theorem nI_get {l : List Nat} {i : Nat} (h : i < l.length) : (nI l)[i]? = some (.int (l[i] : Nat)) := by
  unfold nI
  rw [List.getElem?_map, List.getElem?_eq_getElem h]; rfl
theorem groups_from (rs : List Nat) (st en : Nat) (h1 : st < en) (h2 : en ≤ rs.length) (hs : st < rs.length) (heq : ∀ j, st ≤ j → j < en → rs[j]? = some rs[st]) (hne : rs[en]? ≠ some rs[st]) :
    groups (rs.drop st) = (rs[st], en - st) :: groups (rs.drop en) := by
  obtain ⟨k, hk⟩ : ∃ k, en - st = k + 1 := ⟨en - st - 1, by omega⟩
  have e : rs.drop st = List.replicate (k + 1) rs[st] ++ rs.drop en := by
    apply List.ext_getElem?
    intro i
    by_cases hi : i < k + 1
    · rw [List.getElem?_append_left (by simpa using hi), List.getElem?_drop, List.getElem?_replicate, if_pos hi, heq (st + i) (by omega) (by omega)]
    · rw [List.getElem?_append_right (by simp; omega), List.getElem?_drop, List.getElem?_drop, List.length_replicate]
      congr 1; omega
  rw [e, groups_step, hk]
  rw [List.head?_eq_getElem?, List.getElem?_drop]
  simpa using hne
theorem ok_groups {f : Addr} {fd : FuncData} {k : Nat} (F : Fun K "groups_of" "groups_of" sGroups f fd) (T : Txt mg) : FnOk P w K mg base CX0 (k + 1) f fd ["row"] (spGroups K) := by
  refine F.ok scGroups (fun vs H Q E h => ?_) (fun cdv A outer s H vs Q E hr h => ?_)
  · obtain ⟨a, rs, rfl, _⟩ := h
    rfl
  · obtain ⟨a, rs, rfl, hS, hl, q⟩ := h
    refine ⟨_, pss_cons (ps_set (i := 1) scGroups.nd rfl (.inl rfl) (pe_lst pa_nil))
      (pss_cons (ps_set (i := 2) scGroups.nd rfl (.inl rfl) pe_int)
      (pss_cons (ps_while PassesOwn.never (pt_cmpR op_lt (pv 2) (pe_callB call_len_seq (by rfl) T.len PySem.boot_len (pa_cons (pv 0) pa_nil)) (nomark _))
        (pss_cons (ps_set (i := 3) scGroups.nd rfl (.inl rfl) (pe_op op_add (pv 2) pe_int))
        (pss_cons (ps_while PassesOwn.never (PW.pt (pw_and (pt_cmpR op_lt (pv 3) (pe_callB call_len_seq (by rfl) T.len PySem.boot_len (pa_cons (pv 0) pa_nil)) (nomark _))
            (pw_and1 (pt_cmpR op_eq (pe_ix ix_list (pv 0) (pv 3) (fun _ _ => rfl)) (pe_ix ix_list (pv 0) (pv 2) (fun _ _ => rfl)) (nomark _)))))
          (pss_one (ps_aug (i := 3) scGroups.nd rfl (.inl rfl) pe_int ip_add)))
        (pss_cons (ps_expr (pe_bm PySem.F.plainAttrs_list PySem.F.slot_list_append PySem.F.type_list_append mt_append (pv 1) (pa_cons (pe_tup (pa_cons (pe_ix ix_list (pv 0) (pv 2) (fun _ _ => rfl)) (pa_cons (pe_op op_sub (pv 3) (pv 2)) pa_nil))) pa_nil)))
        (pss_one (ps_set (i := 2) scGroups.nd rfl (.inl rfl) (pv 3)))))))
      (pss_one (ps_ret (pv 1))))), ?_⟩
    refine ⟨Nat.zero_le _, fun g ng => ?_⟩
    have hlen : (nI rs).length = rs.length := nI_len rs
    refine ⟨fun m σ H' => ∃ (st : Nat) (ps : List (Addr × (Nat × Nat))) (y : Option V), m = rs.length - st ∧ st ≤ rs.length ∧ σ = [some (.ref a), some (.ref g), some (.int st), y] ∧ Same H H' ∧ H' g = some (.lst (ps.map fun e => V.ref e.1)) ∧ ps.map (·.2) ++ groups (rs.drop st) = groups rs ∧ ps.length ≤ st ∧ ∀ e ∈ ps, H' e.1 = some (.tup [.int e.2.1, .int e.2.2]),
      ⟨_, 0, [], none, rfl, Nat.zero_le _, rfl, same_upd ng, by rw [upd_same]; rfl, rfl, Nat.le_refl _, by simp⟩, ?_⟩
    rintro m σ H1 ⟨st, ps, y, rfl, hst, rfl, sm, hg, hgr, hpl, hps⟩
    refine ⟨_, rfl, _, rfl, a, _, rfl, .inl (sm.seq hS), _, _, rfl, rfl, _, rfl, ?_⟩
    rw [hlen]
    refine ite2 (fun hlt => ?_) (fun hlt => ?_)
    · have hlt : st < rs.length := Int.ofNat_lt.mp (of_decide_eq_true hlt)
      refine ⟨fun σ' H' => ∃ (en : Nat) (ps : List (Addr × (Nat × Nat))) (y : Option V), rs.length - en < rs.length - st ∧ en ≤ rs.length ∧ σ' = [some (.ref a), some (.ref g), some (.int en), y] ∧ Same H H' ∧ H' g = some (.lst (ps.map fun e => V.ref e.1)) ∧ ps.map (·.2) ++ groups (rs.drop en) = groups rs ∧ ps.length ≤ en ∧ ∀ e ∈ ps, H' e.1 = some (.tup [.int e.2.1, .int e.2.2]), ?_, ?_⟩
      · rintro σ' H' ⟨en, ps', y', h1, h2, h3, h4, h5, h6, h7, h8⟩
        exact ⟨_, h1, en, ps', y', rfl, h2, h3, h4, h5, h6, h7, h8⟩
      · refine ⟨_, rfl, _, _, rfl, rfl, ?_⟩
        refine ⟨fun m σ H' => ∃ en : Nat, m = rs.length - en ∧ st < en ∧ en ≤ rs.length ∧ σ = [some (.ref a), some (.ref g), some (.int st), some (.int en)] ∧ H' = H1 ∧ ∀ j, st ≤ j → j < en → rs[j]? = some rs[st],
          ⟨_, st + 1, rfl, Nat.lt_succ_self _, hlt, rfl, rfl, fun j h1 h2 => by rw [show j = st by omega]; exact List.getElem?_eq_getElem hlt⟩, ?_⟩
        rintro m σ H2 ⟨en, rfl, hse, hen, rfl, rfl, heq⟩
        refine ⟨_, rfl, _, rfl, a, _, rfl, .inl (sm.seq hS), _, _, rfl, rfl, _, rfl, ?_⟩
        rw [hlen]
        -- what follows the inner loop
        have fin : rs[en]? ≠ some rs[st] → (tSeq (tDrop (tBM K "list" rAppend (tVar 1) (tCons (tTup (tCons (tOp (rIxL K) (tVar 0) (tVar 2)) (tCons (tOp (rI0 fun i j => .int (i - j)) (tVar 3) (tVar 2)) tNil))) tNil))) (tAsg (tVar 3) (gName 2)))
            { nx := fun σ' H' => ∃ (en : Nat) (ps : List (Addr × (Nat × Nat))) (y : Option V), rs.length - en < rs.length - st ∧ en ≤ rs.length ∧ σ' = [some (.ref a), some (.ref g), some (.int en), y] ∧ Same H H' ∧ H' g = some (.lst (ps.map fun e => V.ref e.1)) ∧ ps.map (·.2) ++ groups (rs.drop en) = groups rs ∧ ps.length ≤ en ∧ ∀ e ∈ ps, H' e.1 = some (.tup [.int e.2.1, .int e.2.2]), rt := Q, bk := fun _ _ => False, ct := fun _ _ => False } [some (.ref a), some (.ref g), some (.int st), some (.int en)] H2 := by
          intro hne
          have e1 : (nI rs)[st]? = some (.int (rs[st] : Nat)) := nI_get hlt
          refine ⟨_, rfl, .inl ⟨rfl, _, SqL.of hg⟩, ?_⟩
          refine ⟨_, rfl, _, rfl, a, _, _, _, rfl, rfl, sm.seq hS, atI_nat e1, _, rfl, _, rfl, _, _, rfl, rfl, by show 2 ≤ sizeLine; decide, fun t nt => ?_⟩
          have s2 := same_upd (o := HO.tup [.int (rs[st] : Nat), .int ((en : Int) - st)]) nt
          refine ⟨g, _, _, rfl, rfl, s2 _ _ hg, by rw [List.length_map]; exact line_lt (by omega), ?_⟩
          refine ⟨_, rfl, ?_⟩
          have ntg : g ≠ t := ne_of_none hg nt
          refine ⟨en, ps ++ [(t, (rs[st], en - st))], some (.int en), by omega, hen, rfl, fun b o hb => ?_, ?_, ?_, ?_, ?_⟩
          · rw [upd_ne (ne_of_none hb ng)]; exact s2 _ _ (sm b o hb)
          · rw [upd_same, List.map_append]; rfl
          · rw [groups_from rs st en hse hen hlt heq hne] at hgr
            rw [List.map_append, ← hgr]; simp
          · rw [List.length_append]; simp; omega
          · intro e he
            rcases List.mem_append.mp he with z | z
            · have h1 := hps e z
              rw [upd_ne (ne_of h1 hg (fun z => nomatch z))]
              exact s2 _ _ h1
            · have : e = (t, (rs[st], en - st)) := by simpa using z
              subst this
              rw [upd_ne ntg.symm, upd_same]
              show _ = some (HO.tup [.int (rs[st] : Nat), .int ((en - st : Nat) : Int)])
              rw [Int.ofNat_sub (by omega)]
        refine ite2 (fun hlt2 => ?_) (fun hlt2 => ?_)
        · have hlt2 : en < rs.length := Int.ofNat_lt.mp (of_decide_eq_true hlt2)
          refine ⟨_, rfl, _, rfl, a, _, _, _, rfl, rfl, sm.seq hS, atI_nat (nI_get hlt2), _, rfl, _, rfl, a, _, _, _, rfl, rfl, sm.seq hS, atI_nat (nI_get hlt), rfl, _, rfl, ?_⟩
          refine ite2 (fun heq2 => ?_) (fun heq2 => ?_)
          · have heq2 : rs[en] = rs[st] := by
              have := of_decide_eq_true heq2
              injection this with this
              omega
            refine ⟨fun σ' H' => σ' = [some (.ref a), some (.ref g), some (.int st), some (.int ((en + 1 : Nat) : Int))] ∧ H' = H2, ?_, ?_⟩
            · rintro σ' H' ⟨rfl, rfl⟩
              refine ⟨rs.length - (en + 1), by omega, en + 1, rfl, by omega, hlt2, rfl, rfl, fun j h1 h2 => ?_⟩
              by_cases hj : j < en
              · exact heq j h1 hj
              · rw [show j = en by omega, List.getElem?_eq_getElem hlt2, heq2]
            · exact ⟨_, rfl, _, _, rfl, rfl, rfl, rfl⟩
          · refine fin ?_
            intro z
            rw [List.getElem?_eq_getElem hlt2] at z
            injection z with z
            exact heq2 (decide_eq_true (by rw [z]))
        · have hlt2 : ¬ en < rs.length := fun z => hlt2 (decide_eq_true (Int.ofNat_lt.mpr z))
          refine fin ?_
          rw [List.getElem?_eq_none (by omega)]
          simp
    · have hlt : ¬ st < rs.length := fun z => hlt (decide_eq_true (Int.ofNat_lt.mpr z))
      rw [List.drop_eq_nil_of_le (by omega)] at hgr
      exact ⟨_, rfl, q H1 g ps sm ng hg (by rw [← hgr]; simp [groups]) hps⟩
end
end Sh

namespace Sh
open PySem PySem.Spec PyProof.Rows L2
abbrev sFirst : Stmt := topS 11
abbrev sCoin : Stmt := topS 12
abbrev sCoins : Stmt := topS 13
abbrev sMix : Stmt := topS 14
abbrev sRound : Stmt := topS 15
abbrev sColors : Stmt := topS 16
/-- a code behind another: none, or one that can be told apart -/
def Beh (x y : List Nat) : Prop := (x = [] ∧ y ≠ []) ∨ Part x y
theorem fd_spec : ∀ (x y : List Nat) (i : Nat), i < fd x y → ∃ c, x[i]? = some c ∧ y[i]? = some c
  | [], _, i, h => by simp [fd] at h
  | _ :: _, [], i, h => by simp [fd] at h
  | a :: as, b :: bs, i, h => by
    unfold fd at h
    split at h
    · rename_i e
      subst e
      cases i with
      | zero => exact ⟨a, rfl, rfl⟩
      | succ i =>
        obtain ⟨c, h1, h2⟩ := fd_spec as bs i (by omega)
        exact ⟨c, by simpa using h1, by simpa using h2⟩
    · omega
theorem Beh.stop {x y : List Nat} (h : Beh x y) : x.length = fd x y ∨ ∃ a b, x[fd x y]? = some a ∧ y[fd x y]? = some b ∧ a ≠ b := by
  rcases h with ⟨rfl, _⟩ | h
  · exact .inl (by simp [fd])
  · exact .inr h.spec
theorem Beh.there {x y : List Nat} (h : Beh x y) : ∃ c, y[fd x y]? = some c ∧ coin x y = 65536 * fd x y + c := by
  rcases h with ⟨rfl, h⟩ | h
  · cases y with
    | nil => exact absurd rfl h
    | cons c r => exact ⟨c, by simp [fd], by simp [coin, fd]⟩
  · obtain ⟨a, b, _, h2, _⟩ := h.spec
    exact ⟨b, h2, by rw [coin, List.getD_eq_getElem?_getD, h2]; rfl⟩
theorem fd_le (x y : List Nat) : fd x y ≤ x.length ∧ fd x y ≤ y.length := by
  induction x generalizing y with
  | nil => simp [fd]
  | cons a as ih =>
    cases y with
    | nil => simp [fd]
    | cons b bs =>
      have := ih bs
      unfold fd
      split
      · simp only [List.length_cons]; omega
      · simp
theorem nI_some {l : List Nat} {i c : Nat} (h : l[i]? = some c) : (nI l)[i]? = some (.int (c : Nat)) := by
  unfold nI
  rw [List.getElem?_map, h]; rfl
section
variable {P : Program} {w : World} {K : PySem.W.Frag} {mg : Str → Option Value} {base : Heap}
/-! ### first_difference -/
theorem scFirst : FnScope ["before", "code", "place"] ["before", "code"] (defScope sFirst) := ⟨rfl, rfl, rfl, by decide +kernel, rfl, by decide +kernel, by decide +kernel⟩
def spFirst (K : PySem.W.Frag) : Sp := fun vs H Q _ => ∃ (a b : Addr) (x y : List Nat), vs = [.ref a, .ref b] ∧ SqT K H a (nI x) ∧ SqT K H b (nI y) ∧ Beh x y ∧ Q (.int (fd x y : Nat)) H
theorem ok_first {f : Addr} {fd' : FuncData} {k : Nat} (F : Fun K "first_difference" "first_difference" sFirst f fd') (T : Txt mg) : FnOk P w K mg base CX0 (k + 1) f fd' ["before", "code"] (spFirst K) := by
  refine F.ok scFirst (fun vs H Q E h => ?_) (fun cdv A outer s H vs Q E hr h => ?_)
  · obtain ⟨a, b, x, y, rfl, _⟩ := h
    rfl
  · obtain ⟨a, b, x, y, rfl, hx, hy, hb, q⟩ := h
    refine ⟨_, pss_cons (ps_set (i := 2) scFirst.nd rfl (.inl rfl) pe_int)
      (pss_cons (ps_while PassesOwn.never (PW.pt (pw_and (pt_cmpR op_lt (pv 2) (pe_callB call_len_seq (by rfl) T.len PySem.boot_len (pa_cons (pv 0) pa_nil)) (nomark _))
            (pw_and1 (pt_cmpR op_eq (pe_ix ix_tup (pv 0) (pv 2) (fun _ _ => rfl)) (pe_ix ix_tup (pv 1) (pv 2) (fun _ _ => rfl)) (nomark _)))))
          (pss_one (ps_aug (i := 2) scFirst.nd rfl (.inl rfl) pe_int ip_add)))
      (pss_one (ps_ret (pv 2)))), ?_⟩
    refine ⟨fun m σ H' => ∃ i : Nat, m = fd x y - i ∧ i ≤ fd x y ∧ σ = [some (.ref a), some (.ref b), some (.int i)] ∧ H' = H, ⟨_, 0, rfl, Nat.zero_le _, rfl, rfl⟩, ?_⟩
    rintro m σ H1 ⟨i, rfl, hi, rfl, rfl⟩
    refine ⟨_, rfl, _, rfl, a, _, rfl, .inr hx, _, _, rfl, rfl, _, rfl, ?_⟩
    rw [nI_len]
    have hle := fd_le x y
    by_cases hlt : i < fd x y
    · obtain ⟨c, h1, h2⟩ := fd_spec x y i hlt
      refine ite2 (fun _ => ?_) (fun z => absurd (decide_eq_true (Int.ofNat_lt.mpr (show i < x.length by omega))) z)
      refine ⟨_, rfl, _, rfl, a, _, _, _, rfl, rfl, hx, atI_nat (nI_some h1), _, rfl, _, rfl, b, _, _, _, rfl, rfl, hy, atI_nat (nI_some h2), rfl, _, rfl, ?_⟩
      refine ite2 (fun _ => ?_) (fun z => absurd (decide_eq_true rfl) z)
      refine ⟨fun σ' H' => σ' = [some (.ref a), some (.ref b), some (.int ((i + 1 : Nat) : Int))] ∧ H' = H1, ?_, ?_⟩
      · rintro σ' H' ⟨rfl, rfl⟩
        exact ⟨fd x y - (i + 1), by omega, i + 1, rfl, hlt, rfl, rfl⟩
      · exact ⟨_, rfl, _, _, rfl, rfl, rfl, rfl⟩
    · have e : i = fd x y := by omega
      subst e
      rcases hb.stop with z | ⟨c, d, h1, h2, h3⟩
      · refine ite2 (fun z2 => absurd (Int.ofNat_lt.mp (of_decide_eq_true z2)) (by omega)) (fun _ => ?_)
        exact ⟨_, rfl, q⟩
      · have hl : fd x y < x.length := (List.getElem?_eq_some_iff.mp h1).1
        refine ite2 (fun _ => ?_) (fun z => absurd (decide_eq_true (Int.ofNat_lt.mpr hl)) z)
        refine ⟨_, rfl, _, rfl, a, _, _, _, rfl, rfl, hx, atI_nat (nI_some h1), _, rfl, _, rfl, b, _, _, _, rfl, rfl, hy, atI_nat (nI_some h2), rfl, _, rfl, ?_⟩
        refine ite2 (fun z => ?_) (fun _ => ?_)
        · have := of_decide_eq_true z
          injection this with this
          exact absurd (Int.ofNat_inj.mp this) h3
        · exact ⟨_, rfl, q⟩
/-! ### coin_after -/
theorem scCoin : FnScope ["before", "code", "place"] ["before", "code"] (defScope sCoin) := ⟨rfl, rfl, rfl, by decide +kernel, rfl, by decide +kernel, by decide +kernel⟩
def spCoin (K : PySem.W.Frag) : Sp := fun vs H Q _ => ∃ (a b : Addr) (x y : List Nat), vs = [.ref a, .ref b] ∧ SqT K H a (nI x) ∧ SqT K H b (nI y) ∧ Beh x y ∧ Q (.int (coin x y : Nat)) H
theorem ok_coin {f fF : Addr} {fd' fdF : FuncData} {k : Nat} (F : Fun K "coin_after" "coin_after" sCoin f fd') (FF : Fun K "first_difference" "first_difference" sFirst fF fdF) (bF : Binds K fdF ["before", "code"] []) (gF : mg "first_difference" = some (.ref fF)) (T : Txt mg) :
    FnOk P w K mg base CX0 (k + 2) f fd' ["before", "code"] (spCoin K) := by
  have GF : FnOk P w K mg base CX0 (k + 1) fF fdF ["before", "code"] (spFirst K) := ok_first FF T
  obtain ⟨td, hd⟩ := T.digit
  refine F.ok scCoin (fun vs H Q E h => ?_) (fun cdv A outer s H vs Q E hr h => ?_)
  · obtain ⟨a, b, x, y, rfl, _⟩ := h
    rfl
  · obtain ⟨a, b, x, y, rfl, hx, hy, hb, q⟩ := h
    refine ⟨_, pss_cons (ps_set (i := 2) scCoin.nd rfl (.inl rfl) (pe_call GF hr (by rfl) gF FF.kp bF .nil pass0 (pa_cons (pv 0) (pa_cons (pv 1) pa_nil))))
      (pss_one (ps_ret (pe_op op_add (pe_op op_mul (pe_glob (v := .int 65536) rfl hd ⟨_, rfl⟩) (pv 2)) (pe_ix ix_tup (pv 1) (pv 2) (fun _ _ => rfl))))), ?_⟩
    obtain ⟨c, h1, h2⟩ := hb.there
    refine ⟨_, rfl, _, rfl, a, b, x, y, rfl, hx, hy, hb, ?_⟩
    refine ⟨_, rfl, _, _, rfl, rfl, .inl ⟨by decide, by decide⟩, _, rfl, _, rfl, b, _, _, _, rfl, rfl, hy, atI_nat (nI_some h1), _, _, rfl, rfl, ?_⟩
    rw [h2] at q
    exact q
/-! ### coins_of_codes -/
theorem scCoins : FnScope ["codes", "coins", "before", "code"] ["codes"] (defScope sCoins) := ⟨rfl, rfl, rfl, by decide +kernel, rfl, by decide +kernel, by decide +kernel⟩
def spCoins (K : PySem.W.Frag) : Sp := fun vs H Q _ => ∃ (a : Addr) (ps : List (Addr × List Nat)), vs = [.ref a] ∧ SqL K H a (ps.map fun p => V.ref p.1) ∧ (∀ p ∈ ps, H p.1 = some (.tup (nI p.2))) ∧ Codes (ps.map (·.2)) ∧ ps.length ≤ 1000000 ∧
  ∀ (H' : Hp) (p : Addr), Same H H' → H' p = some (.tup (nI (coins (ps.map (·.2))))) → Q (.ref p) H'
theorem pairs2_take {α β : Type} (f : α → α → β) : ∀ (p : α) (l : List α) (i : Nat), (pairs2 f p l).take i = pairs2 f p (l.take i)
  | _, _, 0 => by simp [pairs2]
  | _, [], i + 1 => by simp [pairs2]
  | p, c :: cs, i + 1 => by simp [pairs2, pairs2_take f c cs i]
theorem ok_coins {f fC fF : Addr} {fd' fdC fdF : FuncData} {k : Nat} (F : Fun K "coins_of_codes" "coins_of_codes" sCoins f fd') (FC : Fun K "coin_after" "coin_after" sCoin fC fdC) (bC : Binds K fdC ["before", "code"] []) (gC : mg "coin_after" = some (.ref fC))
    (FF : Fun K "first_difference" "first_difference" sFirst fF fdF) (bF : Binds K fdF ["before", "code"] []) (gF : mg "first_difference" = some (.ref fF)) (T : Txt mg) :
    FnOk P w K mg base CX0 (k + 3) f fd' ["codes"] (spCoins K) := by
  have GC : FnOk P w K mg base CX0 (k + 2) fC fdC ["before", "code"] (spCoin K) := ok_coin FC FF bF gF T
  refine F.ok scCoins (fun vs H Q E h => ?_) (fun cdv A outer s H vs Q E hr h => ?_)
  · obtain ⟨a, ps, rfl, _⟩ := h
    rfl
  · obtain ⟨a, ps, rfl, hS, hp, hc, hl, q⟩ := h
    refine ⟨_, pss_cons (ps_set (i := 1) scCoins.nd rfl (.inl rfl) (pe_lst pa_nil))
      (pss_cons (ps_set (i := 2) scCoins.nd rfl (.inl rfl) (pe_tup pa_nil))
      (pss_cons (ps_for PassesOwn.never rfl (pi_list (pv 0)) (pg_name (i := 3) scCoins.nd rfl (.inl rfl))
        (pss_cons (ps_expr (pe_bm PySem.F.plainAttrs_list PySem.F.slot_list_append PySem.F.type_list_append mt_append (pv 1) (pa_cons (pe_call GC hr (by rfl) gC FC.kp bC .nil pass0 (pa_cons (pv 2) (pa_cons (pv 3) pa_nil))) pa_nil)))
        (pss_one (ps_set (i := 2) scCoins.nd rfl (.inl rfl) (pv 3)))))
      (pss_one (ps_ret (pe_callTy call_tuple_of (by rfl) T.tuple boot_tuple (pa_cons (pv 1) pa_nil)))))), ?_⟩
    refine ⟨Nat.zero_le _, fun l nl => ⟨Nat.zero_le _, fun t nt => ?_⟩⟩
    have s1 := same_upd (o := HO.lst []) nl
    have s2 := s1.trans (same_upd (o := HO.tup []) nt)
    refine ⟨_, rfl, a, rfl, ⟨_, s2.seq hS⟩, ?_⟩
    let cs := ps.map (·.2)
    have hcs : cs.length = ps.length := List.length_map ..
    refine for_list (K := K) (a := a) (xs := ps.map fun p => V.ref p.1) (fun i σ H' => ∃ (bf : Addr) (y : Option V) (pv : List Nat), σ = [some (.ref a), some (.ref l), some (.ref bf), y] ∧ Same H H' ∧ H' l = some (.lst (nI ((coins cs).take i))) ∧ H' bf = some (.tup (nI pv)) ∧ (i = 0 ∧ pv = [] ∨ ∃ j, i = j + 1 ∧ cs[j]? = some pv)) ?_ (fun i σ H' _ ⟨_, _, _, _, sm, _⟩ => sm.seq hS) ?_ ?_
    · have n1 : l ≠ t := ne_of_none upd_same nt
      exact ⟨t, none, [], rfl, s2, by rw [upd_ne n1, upd_same]; rfl, by rw [upd_same]; rfl, .inl ⟨rfl, rfl⟩⟩
    · rintro i x σ H1 hx ⟨bf, y, pv, rfl, sm, hL, hB, hpv⟩
      rw [List.getElem?_map] at hx
      obtain ⟨p, ep, rfl⟩ := Option.map_eq_some_iff.mp hx
      have hpi := sm _ _ (hp p (List.mem_of_getElem? ep))
      have eci : cs[i]? = some p.2 := by show (ps.map (·.2))[i]? = _; rw [List.getElem?_map, ep]; rfl
      have hil : i < ps.length := (List.getElem?_eq_some_iff.mp ep).1
      have beh : Beh pv p.2 := by
        rcases hpv with ⟨_, rfl⟩ | ⟨j, rfl, hj⟩
        · exact .inl ⟨rfl, (hc.1 p.2 (List.mem_of_getElem? eci)).1⟩
        · exact .inr (hc.2 j pv p.2 hj eci)
      have val : (coins cs)[i]? = some (coin pv p.2) := by
        rcases hpv with ⟨rfl, rfl⟩ | ⟨j, rfl, hj⟩
        · cases hcs2 : cs with
          | nil => rw [hcs2] at eci; simp at eci
          | cons c r =>
            rw [hcs2] at eci
            have : c = p.2 := by simpa using eci
            subst this
            rfl
        · rw [coins, pairs2_get, hj, Option.bind_some, eci]; rfl
      refine ⟨_, rfl, .inl ⟨rfl, _, SqL.of hL⟩, _, rfl, _, rfl, bf, p.1, pv, p.2, rfl, SqT.of hB, SqT.of hpi, beh, ?_⟩
      refine ⟨l, _, _, rfl, rfl, hL, by rw [nI_len]; exact line_lt (Nat.le_trans (List.length_take_le _ _) (by omega)), ?_⟩
      refine ⟨_, rfl, p.1, _, p.2, rfl, fun b o hb => ?_, ?_, ?_, .inr ⟨i, rfl, eci⟩⟩
      · rw [upd_ne (ne_of_none hb nl)]; exact sm b o hb
      · rw [upd_same, List.take_add_one, val, nI_append]; rfl
      · rw [upd_ne (ne_of hpi hL (fun z => nomatch z))]; exact hpi
    · rintro σ H1 ⟨bf, y, pv, rfl, sm, hL, _⟩
      rw [List.length_map, List.take_of_length_le (by rw [coins, pairs2_length, hcs]; exact Nat.le_refl _)] at hL
      exact ⟨_, rfl, l, _, rfl, .inl ⟨SqL.of hL, fun p np => q _ p (sm.trans (same_upd np)) upd_same⟩⟩
/-! ### mix -/
theorem scMix : FnScope ["a", "b", "difference", "place"] ["a", "b"] (defScope sMix) := ⟨rfl, rfl, rfl, by decide +kernel, rfl, by decide +kernel, by decide +kernel⟩
def spMix : Sp := fun vs H Q _ => ∃ (a b : Nat), vs = [.int a, .int b] ∧ a ≠ b ∧ Q (.int (mix a b : Nat)) H
theorem bitAnd_neg (d : Nat) (h : 0 < d) : Builtin.bitAnd (d : Int) (-(d : Int)) = (low2 d : Int) := by
  unfold Builtin.bitAnd
  rw [decide_eq_true (show (0 : Int) ≤ d by omega), decide_eq_false (show ¬ (0 : Int) ≤ -(d : Int) by omega)]
  show (d : Int) - ((((d : Int).toNat &&& (Builtin.bitNot (-(d : Int))).toNat : Nat)) : Int) = _
  unfold Builtin.bitNot low2
  have e1 : (d : Int).toNat = d := Int.toNat_natCast d
  have e2 : (- -(d : Int) - 1).toNat = d - 1 := by omega
  rw [e1, e2]
  have := @Nat.and_le_left d (d - 1)
  omega
theorem ok_mix {f : Addr} {fd' : FuncData} {k : Nat} (F : Fun K "mix" "mix" sMix f fd') (T : Txt mg) : FnOk P w K mg base CX0 (k + 1) f fd' ["a", "b"] spMix := by
  refine F.ok scMix (fun vs H Q E h => ?_) (fun cdv A outer s H vs Q E hr h => ?_)
  · obtain ⟨a, b, rfl, _⟩ := h
    rfl
  · obtain ⟨a, b, rfl, hab, q⟩ := h
    refine ⟨_, pss_cons (ps_set (i := 2) scMix.nd rfl (.inl rfl) (pe_op op_xor (pv 0) (pv 1)))
      (pss_cons (ps_set (i := 3) scMix.nd rfl (.inl rfl) (pe_op op_sub (pe_bits (pe_op op_and (pv 2) (pe_un un_neg (pv 2)))) pe_int))
      (pss_one (ps_ret (pe_op op_add (pe_op op_mul pe_int (pv 3)) (pe_op op_odd (pe_op op_shrN (pv 1) (pv 3)) pe_int))))), ?_⟩
    have hd : 0 < a ^^^ b := xor_pos hab
    have ex : Builtin.bitXor (a : Int) (b : Int) = ((a ^^^ b : Nat) : Int) := by
      rw [Bits.bitXor_pp (by omega) (by omega), Int.toNat_natCast, Int.toNat_natCast]
    have hl := (low2_spec _ hd).1
    have ebits : Builtin.Int.intBits ((low2 (a ^^^ b) : Nat) : Int) = bitpos (a ^^^ b) + 1 := by
      unfold Builtin.Int.intBits bitpos
      rw [if_neg (by simp; omega), Int.natAbs_natCast]
    refine ⟨_, rfl, _, rfl, _, _, rfl, rfl, ?_⟩
    refine ⟨_, rfl, _, rfl, _, rfl, _, _, rfl, rfl, _, rfl, _, _, rfl, rfl, ?_⟩
    have e3 : ((Builtin.Int.intBits (Builtin.bitAnd (Builtin.bitXor (a : Int) (b : Int)) (-(Builtin.bitXor (a : Int) (b : Int)))) : Nat) : Int) - 1 = ((bitpos (a ^^^ b) : Nat) : Int) := by
      rw [ex, bitAnd_neg _ hd, ebits]; omega
    refine ⟨_, rfl, _, _, rfl, rfl, .inl ⟨by decide, by decide⟩, ?_⟩
    refine ⟨_, rfl, _, rfl, b, bitpos (a ^^^ b), rfl, congrArg V.int e3, b / 2 ^ bitpos (a ^^^ b), ?_, rfl, _, _, rfl, rfl, ?_⟩
    · show V.int ((b : Int) / 2 ^ bitpos (a ^^^ b)) = V.int ((b / 2 ^ bitpos (a ^^^ b) : Nat) : Int)
      rw [Int.natCast_ediv, Int.natCast_pow]; rfl
    · refine Eq.mp ?_ q
      have : ((mix a b : Nat) : Int) = 2 * (((Builtin.Int.intBits (Builtin.bitAnd (Builtin.bitXor (a : Int) (b : Int)) (-(Builtin.bitXor (a : Int) (b : Int)))) : Nat) : Int) - 1) + ((b / 2 ^ bitpos (a ^^^ b) % 2 : Nat) : Int) := by
        rw [e3, mix]; omega
      rw [this]
/-! ### one_round -/
theorem scRound : FnScope ["numbers", "mixed", "a", "b", "number"] ["numbers"] (defScope sRound) := ⟨rfl, rfl, rfl, by decide +kernel, rfl, by decide +kernel, by decide +kernel⟩
def spRound (K : PySem.W.Frag) : Sp := fun vs H Q _ => ∃ (a : Addr) (l : List Nat), vs = [.ref a] ∧ SqT K H a (nI l) ∧ Adj l ∧ l.length ≤ 1000000 ∧ ∀ (H' : Hp) (p : Addr), Same H H' → H' p = some (.tup (nI (round l))) → Q (.ref p) H'
theorem ok_round {f fM : Addr} {fd' fdM : FuncData} {k : Nat} (F : Fun K "one_round" "one_round" sRound f fd') (FM : Fun K "mix" "mix" sMix fM fdM) (bM : Binds K fdM ["a", "b"] []) (gM : mg "mix" = some (.ref fM)) (T : Txt mg) : FnOk P w K mg base CX0 (k + 2) f fd' ["numbers"] (spRound K) := by
  have GM : FnOk P w K mg base CX0 (k + 1) fM fdM ["a", "b"] spMix := ok_mix FM T
  refine F.ok scRound (fun vs H Q E h => ?_) (fun cdv A outer s H vs Q E hr h => ?_)
  · obtain ⟨a, l, rfl, _⟩ := h
    rfl
  · obtain ⟨a, l, rfl, hS, ha, hl, q⟩ := h
    refine ⟨_, pss_cons (ps_setLc (i := 1) (own := [("number", 4)]) (g := gName 4) (tt := tYes) rfl scRound.nd rfl rfl (sw_true rfl rfl rfl (by decide +kernel)) (pi_tup (pe_slice sl_tupN (pv 0) po_none (po_some pe_int))) (blkOk_by (N := ["numbers", "mixed", "a", "b", "number"]) (sc := defScope sRound) (by decide +kernel))
        (fun _ _ _ _ _ => pg_name (i := 4) scRound.nd rfl (Or.inl rfl)) (fun _ _ _ _ _ => pts_nil) (fun _ _ _ _ _ => pe_op op_odd (pv 4) pe_int))
      (pss_cons (ps_for PassesOwn.never rfl (RZ.pi_zipA (by rfl) T.zip (pa_cons (pv 0) (pa_cons (pe_slice sl_tupN (pv 0) (po_some pe_int) po_none) pa_nil)))
          (pg_tup rfl (pgs_cons (pg_name (i := 2) scRound.nd rfl (.inl rfl)) (pgs_cons (pg_name (i := 3) scRound.nd rfl (.inl rfl)) pgs_nil)))
        (pss_one (ps_expr (pe_bm PySem.F.plainAttrs_list PySem.F.slot_list_append PySem.F.type_list_append mt_append (pv 1) (pa_cons (pe_call GM hr (by rfl) gM FM.kp bM .nil pass0 (pa_cons (pv 2) (pa_cons (pv 3) pa_nil))) pa_nil)))))
      (pss_one (ps_ret (pe_callTy call_tuple_of (by rfl) T.tuple boot_tuple (pa_cons (pv 1) pa_nil))))), ?_⟩
    -- numbers[:1]
    have take1 : cutV (nI l) none (some 1) = nI (l.take 1) := by
      unfold cutV
      rw [show HT.sIx (nI l).length (nI l).length (some 1) = min 1 (nI l).length from HT.sIx_nat _ _ 1, HT.sIx_none, nI_len, Nat.sub_zero, List.drop_zero]
      unfold nI
      rw [← List.map_take]
      congr 1
      cases l with
      | nil => rfl
      | cons x r => simp
    have drop1 : cutV (nI l) (some 1) none = nI (l.drop 1) := by
      unfold cutV
      rw [show HT.sIx (nI l).length 0 (some 1) = min 1 (nI l).length from HT.sIx_nat _ _ 1, HT.sIx_none, nI_len]
      unfold nI
      rw [List.map_drop]
      cases l with
      | nil => rfl
      | cons x r => simp [List.take_of_length_le]
    refine ⟨_, rfl, 1, rfl, a, _, rfl, hS, fun H1 t sm1 ht => ?_⟩
    rw [take1] at ht
    refine ⟨t, rfl, ⟨_, ht⟩, fun D nD => ?_⟩
    have nDH : H D = none := sm1.free nD
    refine lc_tup (K := K) (a := t) (xs := nI (l.take 1)) (fun i H' => Same H1 H' ∧ H' D = some (.lst (nI (((l.take 1).map (· % 2)).take i)))) ⟨same_upd nD, by rw [upd_same]; rfl⟩ (fun i H' _ ⟨sm, _⟩ => seqT_of sm ht) ?_ ?_
    · rintro i x H2 hx ⟨sm, hD⟩
      have hx' : ∃ n, (l.take 1)[i]? = some n ∧ x = .int (n : Nat) := by
        unfold nI at hx
        rw [List.getElem?_map] at hx
        obtain ⟨n, e, rfl⟩ := Option.map_eq_some_iff.mp hx
        exact ⟨n, e, rfl⟩
      obtain ⟨n, en, rfl⟩ := hx'
      have hi : i < (l.take 1).length := (List.getElem?_eq_some_iff.mp en).1
      refine ⟨rfl, _, rfl, n, rfl, rfl, _, hD, by rw [nI_len]; exact line_lt (Nat.le_trans (List.length_take_le _ _) (by have := List.length_take_le 1 l; omega)), fun b o hb => ?_, ?_⟩
      · rw [upd_ne (ne_of_none hb nD)]; exact sm b o hb
      · rw [upd_same, List.take_add_one (i := i), List.getElem?_map, en, nI_append]; rfl
    · rintro H2 ⟨sm2, hD⟩
      have e0 : nI (((l.take 1).map (· % 2)).take (nI (l.take 1)).length) = nI ((round l).take 1) := by
        rw [nI_len, List.take_of_length_le (by simp)]
        cases l with
        | nil => rfl
        | cons x r => simp [round]
      rw [e0] at hD
      have smH2 : Same H H2 := sm1.trans sm2
      refine ⟨_, rfl, _, rfl, 1, rfl, a, _, rfl, seqT_of smH2 hS, fun H3 c sm3 hc => ?_⟩
      rw [drop1] at hc
      have smH3 := smH2.trans sm3
      refine ⟨a, c, _, _, rfl, .inr ⟨seqT_of smH3 hS, hc, ?_⟩⟩
      refine for_gen (J := RZ.ItzT K a c) (l.length - 1) (fun i σ H' => ∃ y2 y3 : Option V, σ = [some (.ref a), some (.ref D), y2, y3, none] ∧ Same H H' ∧ H' D = some (.lst (nI ((round l).take (i + 1)))) ∧ SqT K H' c (nI (l.drop 1)))
        ⟨none, none, rfl, smH3, sm3 _ _ hD, hc⟩ ?_ ?_ ?_ ?_
      · rintro i σ H' hi ⟨y2, y3, rfl, sm, hD', hc'⟩
        refine ⟨_, _, _, _, seqT_of sm hS, hc', nI_get (show i < l.length by omega), nI_get (show i < (l.drop 1).length by simp; omega)⟩
      · rintro σ H' ⟨y2, y3, rfl, sm, hD', hc'⟩
        exact ⟨_, _, seqT_of sm hS, hc', .inr (by rw [nI_len]; simp)⟩
      · rintro i x σ H4 H5 hi ⟨y2, y3, rfl, sm, hD', hc'⟩ ⟨Tp, x1, x2, rfl, nT, rfl, f1, f2⟩
        have e1 := Option.some.inj ((f1 _ (seqT_of sm hS)).symm.trans (nI_get (show i < l.length by omega)))
        have e2 := Option.some.inj ((f2 _ hc').symm.trans (nI_get (show i < (l.drop 1).length by simp; omega)))
        have e3 : (l.drop 1)[i]'(by simp; omega) = l[i + 1]'(by omega) := by rw [List.getElem_drop]; congr 1; omega
        rw [e3] at e2
        subst e1; subst e2
        refine ⟨Tp, _, rfl, SqT.of upd_same, rfl, _, _, rfl, _, _, rfl, rfl, ?_⟩
        have sT := same_upd (o := HO.tup [.int (l[i]'(by omega) : Nat), .int (l[i + 1]'(by omega) : Nat)]) nT
        have hDT := sT _ _ hD'
        refine ⟨_, rfl, .inl ⟨rfl, _, SqL.of hDT⟩, _, rfl, _, rfl, _, _, rfl, ha i _ _ (List.getElem?_eq_getElem _) (List.getElem?_eq_getElem _), ?_⟩
        refine ⟨D, _, _, rfl, rfl, hDT, by rw [nI_len]; exact line_lt (Nat.le_trans (List.length_take_le _ _) (by omega)), ?_⟩
        refine ⟨_, _, rfl, fun b o hb => ?_, ?_, sqT_upd (seqT_of sT hc') hDT⟩
        · rw [upd_ne (ne_of_none hb nDH)]; exact sT _ _ (sm b o hb)
        · rw [upd_same, List.take_add_one (i := i + 1), round_get, List.getElem?_eq_getElem (show i < l.length by omega), List.getElem?_eq_getElem (show i + 1 < l.length by omega), nI_append]; rfl
      · rintro σ H4 ⟨y2, y3, rfl, sm, hD', hc'⟩
        rw [List.take_of_length_le (by rw [round_length]; omega)] at hD'
        exact ⟨_, rfl, D, _, rfl, .inl ⟨SqL.of hD', fun p np => q _ p (sm.trans (same_upd np)) upd_same⟩⟩
/-! ### colors_of_coins -/
theorem scColors : FnScope ["coins", "numbers", "_"] ["coins"] (defScope sColors) := ⟨rfl, rfl, rfl, by decide +kernel, rfl, by decide +kernel, by decide +kernel⟩
def rounds4 : Nat → List Nat → List Nat
  | 0, l => l
  | n + 1, l => round (rounds4 n l)
def spColors (K : PySem.W.Frag) : Sp := fun vs H Q _ => ∃ (a : Addr) (l : List Nat), vs = [.ref a] ∧ SqT K H a (nI l) ∧ Adj l ∧ l.length ≤ 1000000 ∧ ∀ (H' : Hp) (p : Addr), Same H H' → SqT K H' p (nI (rounds4 4 l)) → Q (.ref p) H'
theorem rounds4_adj {l : List Nat} (h : Adj l) : ∀ n, Adj (rounds4 n l)
  | 0 => h
  | n + 1 => round_adj (rounds4_adj h n)
theorem rounds4_len (l : List Nat) : ∀ n, (rounds4 n l).length = l.length
  | 0 => rfl
  | n + 1 => by rw [rounds4, round_length, rounds4_len l n]
theorem ok_colors {f fR fM : Addr} {fd' fdR fdM : FuncData} {k : Nat} (F : Fun K "colors_of_coins" "colors_of_coins" sColors f fd') (FR : Fun K "one_round" "one_round" sRound fR fdR) (bR : Binds K fdR ["numbers"] []) (gR : mg "one_round" = some (.ref fR))
    (FM : Fun K "mix" "mix" sMix fM fdM) (bM : Binds K fdM ["a", "b"] []) (gM : mg "mix" = some (.ref fM)) (T : Txt mg) : FnOk P w K mg base CX0 (k + 3) f fd' ["coins"] (spColors K) := by
  have GR : FnOk P w K mg base CX0 (k + 2) fR fdR ["numbers"] (spRound K) := ok_round FR FM bM gM T
  obtain ⟨tr, hR⟩ := T.rounds
  refine F.ok scColors (fun vs H Q E h => ?_) (fun cdv A outer s H vs Q E hr h => ?_)
  · obtain ⟨a, l, rfl, _⟩ := h
    rfl
  · obtain ⟨a, l, rfl, hS, ha, hl, q⟩ := h
    refine ⟨_, pss_cons (ps_set (i := 1) scColors.nd rfl (.inl rfl) (pv 0))
      (pss_cons (ps_for PassesOwn.never rfl (pi_range1 rfl T.range (pa_cons (pe_glob (v := .int 4) rfl hR ⟨_, rfl⟩) pa_nil)) (pg_name (i := 2) scColors.nd rfl (.inl rfl))
        (pss_one (ps_set (i := 1) scColors.nd rfl (.inl rfl) (pe_call GR hr (by rfl) gR FR.kp bR .nil pass0 (pa_cons (pv 1) pa_nil)))))
      (pss_one (ps_ret (pv 1)))), ?_⟩
    refine ⟨_, rfl, 4, rfl, by decide, by decide, ?_⟩
    refine for_range (lo := 0) (n := 4) (fun i σ H' => ∃ (p : Addr) (y : Option V), σ = [some (.ref a), some (.ref p), y] ∧ Same H H' ∧ SqT K H' p (nI (rounds4 i l))) ⟨a, none, rfl, Same.refl H, hS⟩ ?_ ?_
    · rintro i σ H1 hi ⟨p, y, rfl, sm, hp⟩
      refine ⟨_, rfl, p, rounds4 i l, rfl, hp, rounds4_adj ha i, by rw [rounds4_len]; exact hl, fun H2 p2 sm2 h2 => ?_⟩
      exact ⟨p2, _, rfl, sm.trans sm2, SqT.of h2⟩
    · rintro σ H1 ⟨p, y, rfl, sm, hp⟩
      exact ⟨_, rfl, q H1 p sm hp⟩
end
end Sh

namespace Sh
open PySem PySem.Spec PyProof.Rows L2
abbrev sPeak : Stmt := topS 18
abbrev sStarts : Stmt := topS 19
abbrev sCut : Stmt := topS 20
section
variable {P : Program} {w : World} {K : PySem.W.Frag} {mg : Str → Option Value} {base : Heap}
/-! ### is_peak -/
theorem scPeak : FnScope ["colors", "place"] ["colors", "place"] (defScope sPeak) := ⟨rfl, rfl, rfl, by decide +kernel, rfl, by decide +kernel, by decide +kernel⟩
def spPeak (K : PySem.W.Frag) : Sp := fun vs H Q _ => ∃ (a : Addr) (cs : List Nat) (p : Nat), vs = [.ref a, .int p] ∧ SqT K H a (nI cs) ∧ 1 ≤ p ∧ p + 1 < cs.length ∧ Q (.bl (peak cs p)) H
theorem getD_at {cs : List Nat} {i : Nat} (h : i < cs.length) : cs.getD i 0 = cs[i] := by
  rw [List.getD_eq_getElem?_getD, List.getElem?_eq_getElem h]; rfl
theorem ok_peak {f : Addr} {fd' : FuncData} {k : Nat} (F : Fun K "is_peak" "is_peak" sPeak f fd') : FnOk P w K mg base CX0 (k + 1) f fd' ["colors", "place"] (spPeak K) := by
  refine F.ok scPeak (fun vs H Q E h => ?_) (fun cdv A outer s H vs Q E hr h => ?_)
  · obtain ⟨a, cs, p, rfl, _⟩ := h
    rfl
  · obtain ⟨a, cs, p, rfl, hS, h1, h2, q⟩ := h
    refine ⟨_, pss_one (ps_ret (pe_and (pe_cmpR op_lt (pe_ix ix_tup (pv 0) (pe_op op_sub (pv 1) pe_int) (fun _ _ => rfl)) (pe_ix ix_tup (pv 0) (pv 1) (fun _ _ => rfl)) (nomark _))
      (pe_one (pe_cmpR op_gt (pe_ix ix_tup (pv 0) (pv 1) (fun _ _ => rfl)) (pe_ix ix_tup (pv 0) (pe_op op_add (pv 1) pe_int) (fun _ _ => rfl)) (nomark _))))), ?_⟩
    have a0 : atI (nI cs) ((p : Int) - 1) = some (.int (cs[p - 1] : Nat)) := by
      rw [show (p : Int) - 1 = ((p - 1 : Nat) : Int) by omega]
      exact atI_nat (nI_get (by omega))
    have a1 : atI (nI cs) (p : Int) = some (.int (cs[p] : Nat)) := atI_nat (nI_get (by omega))
    have a2 : atI (nI cs) ((p : Int) + 1) = some (.int (cs[p + 1] : Nat)) := atI_nat (j := p + 1) (nI_get (by omega))
    have e : peak cs p = (decide ((cs[p - 1] : Nat) < cs[p]) && decide ((cs[p + 1] : Nat) < cs[p])) := by
      unfold peak
      rw [getD_at (show p - 1 < cs.length by omega), getD_at (show p < cs.length by omega), getD_at (show p + 1 < cs.length by omega)]
    rw [e] at q
    refine ⟨_, rfl, _, rfl, _, _, rfl, rfl, a, _, _, _, rfl, rfl, hS, a0, _, rfl, _, rfl, a, _, _, _, rfl, rfl, hS, a1, _, _, rfl, rfl, _, rfl, ?_⟩
    refine ite2 (fun hh => ?_) (fun hh => ?_)
    · have hh : cs[p - 1] < cs[p] := Int.ofNat_lt.mp (of_decide_eq_true hh)
      refine ⟨_, rfl, _, rfl, a, _, _, _, rfl, rfl, hS, a1, _, rfl, _, rfl, _, _, rfl, rfl, a, _, _, _, rfl, rfl, hS, a2, _, _, rfl, rfl, ?_⟩
      rw [decide_eq_true hh, Bool.true_and] at q
      refine Eq.mp ?_ q
      congr 2
      exact decide_eq_decide.mpr Int.ofNat_lt.symm
    · have hh : ¬ cs[p - 1] < cs[p] := fun z => hh (decide_eq_true (Int.ofNat_lt.mpr z))
      rw [decide_eq_false hh, Bool.false_and] at q
      exact q
/-! ### starts_of -/
theorem scStarts : FnScope ["colors", "place"] ["colors"] (defScope sStarts) := ⟨rfl, rfl, rfl, by decide +kernel, rfl, by decide +kernel, by decide +kernel⟩
def spStarts (K : PySem.W.Frag) : Sp := fun vs H Q _ => ∃ (a : Addr) (cs : List Nat), vs = [.ref a] ∧ SqT K H a (nI cs) ∧ cs.length ≤ 1000000 ∧ ∀ (H' : Hp) (p : Addr), Same H H' → SqT K H' p (nI (starts cs)) → Q (.ref p) H'
theorem ok_starts {f fP : Addr} {fd' fdP : FuncData} {k : Nat} (F : Fun K "starts_of" "starts_of" sStarts f fd') (FP : Fun K "is_peak" "is_peak" sPeak fP fdP) (bP : Binds K fdP ["colors", "place"] []) (gP : mg "is_peak" = some (.ref fP)) (T : Txt mg) :
    FnOk P w K mg base CX0 (k + 2) f fd' ["colors"] (spStarts K) := by
  have GP : FnOk P w K mg base CX0 (k + 1) fP fdP ["colors", "place"] (spPeak K) := ok_peak FP
  refine F.ok scStarts (fun vs H Q E h => ?_) (fun cdv A outer s H vs Q E hr h => ?_)
  · obtain ⟨a, cs, rfl, _⟩ := h
    rfl
  · obtain ⟨a, cs, rfl, hS, hl, q⟩ := h
    refine ⟨_, pss_cons (ps_if (pt_not (pt_truth (pv 0) (by intro _; rfl))) (pss_one (ps_ret (pe_tup pa_nil))) pss_nil)
      (pss_one (ps_ret (pe_op op_catN (pe_tup (pa_cons pe_int pa_nil)) (pe_callTy call_tuple_of (by rfl) T.tuple boot_tuple (pa_cons
        (pe_lc (own := [("place", 1)]) (g := gName 1) (tt := _) rfl scStarts.nd (pi_range2 (by rfl) T.range (pa_cons pe_int (pa_cons (pe_op op_sub (pe_callB call_len_seq (by rfl) T.len PySem.boot_len (pa_cons (pv 0) pa_nil)) pe_int) pa_nil))) (blkOk_by (N := ["colors", "place"]) (sc := defScope sStarts) (by decide +kernel))
          (fun _ _ _ _ _ => pg_name (i := 1) scStarts.nd rfl (Or.inl rfl)) (fun _ _ _ _ _ => pts_one (pt_val (pe_call GP hr (by rfl) gP FP.kp bP .nil pass0 (pa_cons (pv 0) (pa_cons (pv 1) pa_nil))))) (fun _ _ _ _ _ => pv 1)) pa_nil))))), ?_⟩
    have hlen : (nI cs).length = cs.length := nI_len cs
    by_cases hc : cs = []
    · subst hc
      refine ⟨_, rfl, false, .inr (.inl ⟨_, hS, rfl⟩), ?_⟩
      refine iteT ?_
      exact ⟨Nat.zero_le _, fun p np => q _ p (same_upd np) (SqT.of upd_same)⟩
    · have he : true = (!(nI cs).isEmpty) := by
        cases cs with
        | nil => exact absurd rfl hc
        | cons x r => rfl
      refine ⟨_, rfl, true, .inr (.inl ⟨_, hS, he⟩), ?_⟩
      refine iteF ?_
      refine ⟨by show 1 ≤ sizeLine; decide, fun p1 np1 => ?_⟩
      have s1 := same_upd (o := HO.tup [.int 0]) np1
      refine ⟨_, rfl, a, _, rfl, .inr (seqT_of s1 hS), _, _, rfl, rfl, 2, _, rfl, by rw [hlen]; omega, fun D nD => ?_⟩
      have e0 : ((((nI cs).length : Nat) : Int) - 1 - 2).toNat = cs.length - 3 := by rw [hlen]; omega
      have nDH : H D = none := s1.free nD
      refine lc_range (lo := 2) (n := _) (fun i H' => Same H H' ∧ H' p1 = some (.tup [.int 0]) ∧ H' D = some (.lst (nI (((List.range i).map (· + 2)).filter (peak cs))))) ?_ ?_ ?_
      · have n1 : p1 ≠ D := ne_of_none upd_same nD
        exact ⟨s1.trans (same_upd nD), by rw [upd_ne n1, upd_same], by rw [upd_same]; rfl⟩
      · rintro i H1 hi ⟨sm, e1, eD⟩
        rw [e0] at hi
        have ei : V.int (2 + (i : Int)) = V.int ((i + 2 : Nat) : Int) := by congr 1; omega
        refine ⟨rfl, ?_⟩
        refine ⟨_, rfl, _, rfl, a, cs, i + 2, by rw [ei]; rfl, seqT_of sm hS, by omega, by omega, peak cs (i + 2), rfl, ?_⟩
        have hr1 : (List.range (i + 1)).map (· + 2) = (List.range i).map (· + 2) ++ [i + 2] := by rw [List.range_succ, List.map_append]; rfl
        refine ite2 (fun hp => ?_) (fun hp => ?_)
        · refine ⟨_, rfl, _, eD, by
            rw [nI_len]
            refine line_lt ?_
            have := List.length_filter_le (peak cs) ((List.range i).map (· + 2))
            rw [List.length_map, List.length_range] at this
            omega, fun b o hb => ?_, ?_, ?_⟩
          · rw [upd_ne (ne_of_none hb nDH)]; exact sm b o hb
          · rw [upd_ne (ne_of e1 eD (fun z => nomatch z))]; exact e1
          · rw [upd_same, hr1, List.filter_append, nI_append, ei]
            simp [hp, nI]
        · refine ⟨sm, e1, ?_⟩
          rw [eD, hr1, List.filter_append]
          simp [hp]
      · rintro H1 ⟨sm, e1, eD⟩
        rw [e0] at eD
        refine ⟨D, _, rfl, .inl ⟨SqL.of eD, fun p2 np2 => ?_⟩⟩
        have s2 := same_upd (o := HO.tup (nI (((List.range (cs.length - 3)).map (· + 2)).filter (peak cs)))) np2
        refine ⟨p1, p2, _, _, rfl, rfl, SqT.of (s2 _ _ e1), SqT.of upd_same, by
          rw [nI_len]
          refine line_big ?_
          have := List.length_filter_le (peak cs) ((List.range (cs.length - 3)).map (· + 2))
          rw [List.length_map, List.length_range] at this
          simp only [List.length_cons, List.length_nil]; omega, fun H3 p3 sm3 h3 => q H3 p3 ((sm.trans s2).trans sm3) ?_⟩
        rw [starts_eq hc]
        exact h3
/-! ### cut -/
theorem scCut : FnScope ["items", "starts", "ends", "start", "end"] ["items", "starts"] (defScope sCut) := ⟨rfl, rfl, rfl, by decide +kernel, rfl, by decide +kernel, by decide +kernel⟩
def spCut (K : PySem.W.Frag) : Sp := fun vs H Q _ => ∃ (a b : Addr) (xs : List V) (ss : List Nat), vs = [.ref a, .ref b] ∧ H a = some (.tup xs) ∧ SqT K H b (nI ss) ∧ ss ≠ [] ∧ (ss ++ [xs.length]).Pairwise (· < ·) ∧ xs.length ≤ 1000000 ∧
  ∀ (H' : Hp) (p : Addr) (ps : List (Addr × List V)), Same H H' → H p = none → H' p = some (.lst (ps.map fun e => V.ref e.1)) → ps.map (·.2) = cut xs ss → (∀ e ∈ ps, H' e.1 = some (.tup e.2)) → Q (.ref p) H'
theorem segs_get : ∀ (l : List Nat) (i a b : Nat), l[i]? = some a → l[i + 1]? = some b → (segs l)[i]? = some (a, b)
  | [], i, a, b, h, _ => by simp at h
  | [_], i, a, b, _, h => by simp at h
  | s :: t :: r, 0, a, b, h1, h2 => by simp at h1 h2; subst h1; subst h2; rfl
  | s :: t :: r, i + 1, a, b, h1, h2 => by
    have := segs_get (t :: r) i a b (by simpa using h1) (by simpa using h2)
    simpa [segs] using this
theorem ok_cut {f : Addr} {fd' : FuncData} {k : Nat} (F : Fun K "cut" "cut" sCut f fd') (T : Txt mg) : FnOk P w K mg base CX0 (k + 1) f fd' ["items", "starts"] (spCut K) := by
  refine F.ok scCut (fun vs H Q E h => ?_) (fun cdv A outer s H vs Q E hr h => ?_)
  · obtain ⟨a, b, xs, ss, rfl, _⟩ := h
    rfl
  · obtain ⟨a, b, xs, ss, rfl, hS, hB, hne, hpw, hl, q⟩ := h
    refine ⟨_, pss_cons (ps_set (i := 2) scCut.nd rfl (.inl rfl) (pe_op op_catN (pe_slice sl_tupN (pv 1) (po_some pe_int) po_none) (pe_tup (pa_cons (pe_callB call_len_seq (by rfl) T.len PySem.boot_len (pa_cons (pv 0) pa_nil)) pa_nil))))
      (pss_one (ps_ret (pe_lc (own := [("start", 3), ("end", 4)]) (g := gTup K 2 (gCons (gName 3) (gCons (gName 4) gNil))) (tt := tYes) rfl scCut.nd (RZ.pi_zipA (by rfl) T.zip (pa_cons (pv 1) (pa_cons (pv 2) pa_nil))) (blkOk_by (N := ["items", "starts", "ends", "start", "end"]) (sc := defScope sCut) (by decide +kernel))
        (fun _ _ _ _ _ => pg_tup rfl (pgs_cons (pg_name (i := 3) scCut.nd rfl (.inl rfl)) (pgs_cons (pg_name (i := 4) scCut.nd rfl (.inl rfl)) pgs_nil))) (fun _ _ _ _ _ => pts_nil) (fun _ _ _ _ _ => pe_slice (r := rSlM) sl_tupM (pv 0) (po_some (pv 3)) (po_some (pv 4)))))), ?_⟩
    have hsl : ∀ p ∈ ss, p < xs.length := fun p hp => (List.pairwise_append.mp hpw).2.2 p hp xs.length (by simp)
    have hss : ss.length ≤ xs.length := by
      have h1 : ss.length ≤ (List.range xs.length).length := nodup_subset ss (List.range xs.length) ((List.pairwise_append.mp hpw).1.imp fun h => Nat.ne_of_lt h) fun p hp => List.mem_range.mpr (hsl p hp)
      simpa using h1
    have drop1 : cutV (nI ss) (some 1) none = nI (ss.drop 1) := by
      unfold cutV
      rw [show HT.sIx (nI ss).length 0 (some 1) = min 1 (nI ss).length from HT.sIx_nat _ _ 1, HT.sIx_none, nI_len]
      unfold nI
      rw [List.map_drop]
      cases ss with
      | nil => rfl
      | cons x r => simp [List.take_of_length_le]
    refine ⟨_, rfl, 1, rfl, b, _, rfl, hB, fun H1 c sm1 hc => ?_⟩
    rw [drop1] at hc
    refine ⟨_, rfl, a, _, rfl, .inr (SqT.of (sm1 _ _ hS)), by show 1 ≤ sizeLine; decide, fun t nt => ?_⟩
    have s2 := same_upd (o := HO.tup [.int (xs.length : Nat)]) nt
    refine ⟨c, t, _, _, rfl, rfl, seqT_of s2 hc, SqT.of upd_same, by rw [nI_len]; exact line_big (by simp only [List.length_drop, List.length_cons, List.length_nil]; omega), fun H3 e sm3 he => ?_⟩
    have smH3 := (sm1.trans s2).trans sm3
    have he' : SqT K H3 e (nI (ss.drop 1 ++ [xs.length])) := by rw [nI_append]; exact he
    have hle : (ss.drop 1 ++ [xs.length]).length = ss.length := by
      have := List.length_pos_iff.mpr hne
      simp; omega
    refine ⟨_, rfl, _, rfl, b, e, _, _, rfl, .inr ⟨seqT_of smH3 hB, he', fun D nD => ?_⟩⟩
    have nDH : H D = none := smH3.free nD
    refine lc_zipT (K := K) (a := b) (b := e) (xs := nI ss) (ys := nI (ss.drop 1 ++ [xs.length])) (by rw [nI_len, nI_len, hle]) (fun i H' => ∃ ps : List (Addr × List V), Same H H' ∧ SqT K H' e (nI (ss.drop 1 ++ [xs.length])) ∧ H' D = some (.lst (ps.map fun e => V.ref e.1)) ∧ ps.map (·.2) = (cut xs ss).take i ∧ ∀ e ∈ ps, H' e.1 = some (.tup e.2)) ?_ ?_ ?_ ?_
    · exact ⟨[], smH3.trans (same_upd nD), seqT_of (same_upd nD) he', by rw [upd_same]; rfl, by simp, by simp⟩
    · rintro i H' ⟨ps, sm, he2, _⟩
      exact ⟨seqT_of sm hB, he2⟩
    · rintro i x y Tp H4 hx hy ⟨ps, sm, he2, hD, hps, hall⟩ nT
      have hx' : ∃ n, ss[i]? = some n ∧ x = .int (n : Nat) := by
        unfold nI at hx
        rw [List.getElem?_map] at hx
        obtain ⟨n, e, rfl⟩ := Option.map_eq_some_iff.mp hx
        exact ⟨n, e, rfl⟩
      have hy' : ∃ n, (ss.drop 1 ++ [xs.length])[i]? = some n ∧ y = .int (n : Nat) := by
        unfold nI at hy
        rw [List.getElem?_map] at hy
        obtain ⟨n, e, rfl⟩ := Option.map_eq_some_iff.mp hy
        exact ⟨n, e, rfl⟩
      obtain ⟨n, en, rfl⟩ := hx'
      obtain ⟨m, em, rfl⟩ := hy'
      have hi : i < ss.length := (List.getElem?_eq_some_iff.mp en).1
      have e1 : (ss ++ [xs.length])[i]? = some n := by rw [List.getElem?_append_left hi]; exact en
      have e2 : (ss ++ [xs.length])[i + 1]? = some m := by
        rw [← em]
        cases ss with
        | nil => exact absurd rfl hne
        | cons s0 r => simp
      have eseg := segs_get _ i n m e1 e2
      have hnm : n < m := segs_lt _ hpw (n, m) (List.mem_of_getElem? eseg)
      have hm : m ≤ xs.length := by
        have := List.mem_of_getElem? e2
        rcases List.mem_append.mp this with z | z
        · exact Nat.le_of_lt (hsl m z)
        · simp at z; omega
      have ecut : (cut xs ss)[i]? = some (slice xs (n, m)) := by rw [cut, List.getElem?_map, eseg]; rfl
      have s5 := same_upd (o := HO.tup [.int (n : Nat), .int (m : Nat)]) nT
      refine ⟨Tp, _, rfl, SqT.of upd_same, rfl, _, _, rfl, _, _, rfl, rfl, rfl, ?_⟩
      refine ⟨_, rfl, _, rfl, n, rfl, _, rfl, m, rfl, a, _, rfl, s5 _ _ (sm _ _ hS), fun H6 q6 sm6 h6 => ?_⟩
      have esl : cutV xs (some (n : Int)) (some (m : Int)) = slice xs (n, m) := by
        unfold cutV slice
        rw [HT.sIx_nat, HT.sIx_nat, Nat.min_eq_left (show n ≤ xs.length by omega), Nat.min_eq_left hm]
      rw [esl] at h6
      have hD6 := sm6 _ _ (s5 _ _ hD)
      have hpl : ps.length = i := by
        have := congrArg List.length hps
        rw [List.length_map, List.length_take, cut_length] at this
        omega
      refine ⟨_, hD6, by rw [List.length_map]; exact line_lt (by omega), ps ++ [(q6, slice xs (n, m))], fun bb o hb => ?_, sqT_upd (seqT_of sm6 (seqT_of s5 he2)) hD6, ?_, ?_, ?_⟩
      · rw [upd_ne (ne_of_none hb nDH)]; exact sm6 _ _ (s5 _ _ (sm bb o hb))
      · rw [upd_same, List.map_append]; rfl
      · rw [List.map_append, hps, List.take_add_one, ecut]; rfl
      · intro e0 he0
        rcases List.mem_append.mp he0 with z | z
        · have h1 := sm6 _ _ (s5 _ _ (hall e0 z))
          rw [upd_ne (ne_of h1 hD6 (fun z => nomatch z))]; exact h1
        · have : e0 = (q6, slice xs (n, m)) := by simpa using z
          subst this
          rw [upd_ne (ne_of h6 hD6 (fun z => nomatch z))]; exact h6
    · rintro H4 ⟨ps, sm, he2, hD, hps, hall⟩
      rw [nI_len, List.take_of_length_le (by rw [cut_length]; exact Nat.le_refl _)] at hps
      exact q H4 D ps sm nDH hD hps hall
end
end Sh

namespace Sh
open PySem PySem.Spec PyProof.Rows L2
/-! ### numbers of nodes -/
noncomputable def idx (den : List Nd) (n : Nd) : Nat := den.idxOf n
theorem idx_lt {den : List Nd} {n : Nd} (h : n ∈ den) : idx den n < den.length := List.idxOf_lt_length_iff.mpr h
theorem idx_get {den : List Nd} {n : Nd} (h : n ∈ den) : den[idx den n]? = some n := by
  rw [List.getElem?_eq_getElem (idx_lt h)]
  exact congrArg some (List.getElem_idxOf (idx_lt h))
theorem idx_inj {den : List Nd} {n m : Nd} (hn : n ∈ den) (hm : m ∈ den) (e : idx den n = idx den m) : n = m := by
  have h1 := idx_get hn
  rw [e, idx_get hm] at h1
  exact (Option.some.inj h1).symm
theorem idx_eq {den : List Nd} {n : Nd} {i : Nat} (nd : den.Nodup) (h : den[i]? = some n) : idx den n = i := by
  have hm := List.mem_of_getElem? h
  have h1 := idx_get hm
  obtain ⟨a, e1⟩ := List.getElem?_eq_some_iff.mp h
  obtain ⟨b, e2⟩ := List.getElem?_eq_some_iff.mp h1
  exact ((List.getElem_inj nd).mp (e1.trans e2.symm)).symm
theorem idx_append {den : List Nd} {n : Nd} (ms : List Nd) (h : n ∈ den) : idx (den ++ ms) n = idx den n := by
  unfold idx
  rw [List.idxOf_append, if_pos h]
theorem idx_new {den : List Nd} {n : Nd} (h : n ∉ den) : idx (den ++ [n]) n = den.length := by
  unfold idx
  rw [List.idxOf_append, if_neg h]
  simp
def nkey (f : Nd → Nat) : Nd → NestedKey
  | .leaf e => .tup [.text "leaf", e]
  | .run c k => .tup [.text "run", .num (f c : Nat), .num (k : Nat)]
  | .block cs => .tup [.text "block", .tup (cs.map fun c => .num (f c : Nat))]
noncomputable def ekey (den : List Nd) (n : Nd) : NestedKey := nkey (idx den) n
theorem leaf_run : ¬ (("leaf" : Str) = "run") := by decide +kernel
theorem leaf_block : ¬ (("leaf" : Str) = "block") := by decide +kernel
theorem run_block : ¬ (("run" : Str) = "block") := by decide +kernel
theorem run_leaf : ¬ (("run" : Str) = "leaf") := by decide +kernel
theorem block_leaf : ¬ (("block" : Str) = "leaf") := by decide +kernel
theorem block_run : ¬ (("block" : Str) = "run") := by decide +kernel
theorem nkey_congr {f g : Nd → Nat} {n : Nd} (h : ∀ c ∈ n.kids, f c = g c) : nkey f n = nkey g n := by
  cases n with
  | leaf e => rfl
  | run c k => simp only [nkey]; rw [h c (by simp [Nd.kids])]
  | block cs =>
    simp only [nkey]
    rw [List.map_congr_left fun c hc => by rw [h c hc]]
theorem nkey_inj {f : Nd → Nat} {S : List Nd} (hf : ∀ a ∈ S, ∀ b ∈ S, f a = f b → a = b) {n m : Nd} (hn : ∀ c ∈ n.kids, c ∈ S) (hm : ∀ c ∈ m.kids, c ∈ S) (h : nkey f n = nkey f m) : n = m := by
  cases n with
  | leaf e =>
    cases m with
    | leaf e' => simp only [nkey] at h; injection h with h; injection h with _ h; injection h with h _; rw [h]
    | run c k => simp only [nkey] at h; injection h with h; injection h with h _; injection h with h; exact absurd h leaf_run
    | block cs => simp only [nkey] at h; injection h with h; injection h with h _; injection h with h; exact absurd h leaf_block
  | run c k =>
    cases m with
    | leaf e' => simp only [nkey] at h; injection h with h; injection h with h _; injection h with h; exact absurd h run_leaf
    | run c' k' =>
      simp only [nkey] at h; injection h with h; injection h with _ h; injection h with h1 h; injection h with h2 _
      injection h1 with h1; injection h2 with h2
      rw [hf c (hn c (by simp [Nd.kids])) c' (hm c' (by simp [Nd.kids])) (by omega), show k = k' by omega]
    | block cs => simp only [nkey] at h; injection h with h; injection h with h _; injection h with h; exact absurd h run_block
  | block cs =>
    cases m with
    | leaf e' => simp only [nkey] at h; injection h with h; injection h with h _; injection h with h; exact absurd h block_leaf
    | run c' k' => simp only [nkey] at h; injection h with h; injection h with h _; injection h with h; exact absurd h block_run
    | block ds =>
      simp only [nkey] at h; injection h with h; injection h with _ h; injection h with h _; injection h with h
      have key : ∀ (cs ds : List Nd), (∀ c ∈ cs, c ∈ S) → (∀ c ∈ ds, c ∈ S) → cs.map (fun c => NestedKey.num (f c : Nat)) = ds.map (fun c => NestedKey.num (f c : Nat)) → cs = ds := by
        intro cs
        induction cs with
        | nil => intro ds _ _ h; cases ds with
          | nil => rfl
          | cons d ds => cases h
        | cons c cs ih =>
          intro ds h1 h2 h
          cases ds with
          | nil => cases h
          | cons d ds =>
            simp only [List.map_cons] at h
            injection h with h3 h4
            injection h3 with h3
            rw [hf c (h1 c (by simp)) d (h2 d (by simp)) (by omega), ih ds (fun x hx => h1 x (List.mem_cons_of_mem _ hx)) (fun x hx => h2 x (List.mem_cons_of_mem _ hx)) h4]
      rw [key cs ds hn hm h]
theorem nkey_depth (f : Nd → Nat) (n : Nd) (hw : Wf n) : (nkey f n).depth ≤ 8 := by
  have sc : ∀ e, OkSc e → e.depth = 0 := by
    intro e h
    cases e with
    | none => exact h.elim
    | tup _ => exact h.elim
    | num i => rfl
    | text x => rfl
  cases n with
  | leaf e =>
    rw [Wf] at hw
    have : e.depth ≤ 1 := by
      rcases ok_cases hw with ⟨h, _⟩ | ⟨a, b, rfl, ha, hb⟩
      · rw [sc e h]; omega
      · simp [NestedKey.depth, NestedKey.depthAll, sc a ha, sc b hb]
    simp only [nkey, NestedKey.depth, NestedKey.depthAll]; omega
  | run c k => simp [nkey, NestedKey.depth, NestedKey.depthAll]
  | block cs =>
    have : ∀ cs : List Nd, NestedKey.depthAll (cs.map fun c => NestedKey.num (f c : Nat)) = 0 := by
      intro cs
      induction cs with
      | nil => rfl
      | cons c cs ih => simp [NestedKey.depthAll, NestedKey.depth, ih]
    simp [nkey, NestedKey.depth, NestedKey.depthAll, this]
/-- each node once, children ahead -/
structure Tbl (den : List Nd) : Prop where
  nd : den.Nodup
  kids : ∀ (i : Nat) (n : Nd), den[i]? = some n → ∀ c ∈ n.kids, ∃ j, j < i ∧ den[j]? = some c
theorem Tbl.kid {den : List Nd} (t : Tbl den) {n c : Nd} (hn : n ∈ den) (hc : c ∈ n.kids) : c ∈ den := by
  obtain ⟨i, hi⟩ := List.mem_iff_getElem?.mp hn
  obtain ⟨j, _, hj⟩ := t.kids i n hi c hc
  exact List.mem_of_getElem? hj
theorem Tbl.nil : Tbl [] := ⟨List.nodup_nil, fun i n h => by simp at h⟩
theorem Tbl.snoc {den : List Nd} (t : Tbl den) {n : Nd} (hn : n ∉ den) (hk : ∀ c ∈ n.kids, c ∈ den) : Tbl (den ++ [n]) := by
  refine ⟨?_, fun i m h c hc => ?_⟩
  · rw [List.nodup_append]
    exact ⟨t.nd, by simp, fun a ha b hb => by simp at hb; subst hb; intro e; subst e; exact hn ha⟩
  · by_cases hi : i < den.length
    · rw [List.getElem?_append_left hi] at h
      obtain ⟨j, h1, h2⟩ := t.kids i m h c hc
      exact ⟨j, h1, by rw [List.getElem?_append_left (by omega)]; exact h2⟩
    · have h2 := (List.getElem?_eq_some_iff.mp h).1
      simp at h2
      have ei : i = den.length := by omega
      subst ei
      simp at h
      subst h
      obtain ⟨j, hj⟩ := List.mem_iff_getElem?.mp (hk c hc)
      have hjl := (List.getElem?_eq_some_iff.mp hj).1
      exact ⟨j, hjl, by rw [List.getElem?_append_left hjl]; exact hj⟩
theorem ekey_inj {den : List Nd} {n m : Nd} (hn : ∀ c ∈ n.kids, c ∈ den) (hm : ∀ c ∈ m.kids, c ∈ den) (h : ekey den n = ekey den m) : n = m :=
  nkey_inj (fun _ ha _ hb e => idx_inj ha hb e) hn hm h
theorem ekey_append {den : List Nd} (ms : List Nd) {n : Nd} (hn : ∀ c ∈ n.kids, c ∈ den) : ekey (den ++ ms) n = ekey den n :=
  nkey_congr fun c hc => idx_append ms (hn c hc)
/-! ### how an entry stands -/
theorem nk_leaf {H : Hp} {f : Nd → Nat} {e : NestedKey} {a : Addr} (h : NK H (nkey f (.leaf e)) (.ref a)) : ∃ v, H a = some (.tup [.str "leaf", v]) ∧ NK H e v := by
  cases h with
  | tup e1 r =>
    cases r with
    | cons a b =>
      cases b with
      | cons c d => cases d; cases a; exact ⟨_, e1, c⟩
theorem nk_run {H : Hp} {f : Nd → Nat} {c : Nd} {k : Nat} {a : Addr} (h : NK H (nkey f (.run c k)) (.ref a)) : H a = some (.tup [.str "run", .int (f c : Nat), .int (k : Nat)]) := by
  cases h with
  | tup e1 r =>
    cases r with
    | cons a b =>
      cases b with
      | cons c d =>
        cases d with
        | cons x y => cases y; cases a; cases c; cases x; exact e1
theorem nks_nums {H : Hp} : ∀ (is : List Nat) (vs : List V), NKs H (is.map fun i => .num (i : Nat)) vs → vs = nI is
  | [], _, h => by cases h; rfl
  | i :: is, _, h => by
    cases h with
    | cons a b => cases a; rw [nks_nums is _ b]; rfl
theorem nk_block {H : Hp} {f : Nd → Nat} {cs : List Nd} {a : Addr} (h : NK H (nkey f (.block cs)) (.ref a)) : ∃ b, H a = some (.tup [.str "block", .ref b]) ∧ H b = some (.tup (nI (cs.map f))) := by
  cases h with
  | tup e1 r =>
    cases r with
    | cons x y =>
      cases y with
      | cons c d =>
        cases d
        cases x
        cases c with
        | tup e2 r2 =>
          have := nks_nums (cs.map f) _ (by rw [List.map_map]; exact r2)
          subst this
          exact ⟨_, e1, e2⟩
theorem nk_of_leaf {H : Hp} {f : Nd → Nat} {e : NestedKey} {a : Addr} {v : V} (h : H a = some (.tup [.str "leaf", v])) (hv : NK H e v) : NK H (nkey f (.leaf e)) (.ref a) :=
  .tup h (.cons (.text _) (.cons hv .nil))
theorem nk_of_run {H : Hp} {f : Nd → Nat} {c : Nd} {k : Nat} {a : Addr} (h : H a = some (.tup [.str "run", .int (f c : Nat), .int (k : Nat)])) : NK H (nkey f (.run c k)) (.ref a) :=
  .tup h (.cons (.text _) (.cons (.num _) (.cons (.num _) .nil)))
theorem nks_of_nums {H : Hp} : ∀ (is : List Nat), NKs H (is.map fun i => .num (i : Nat)) (nI is)
  | [] => .nil
  | i :: is => .cons (.num _) (nks_of_nums is)
theorem nk_of_block {H : Hp} {f : Nd → Nat} {cs : List Nd} {a b : Addr} (h : H a = some (.tup [.str "block", .ref b])) (hb : H b = some (.tup (nI (cs.map f)))) : NK H (nkey f (.block cs)) (.ref a) := by
  refine .tup h (.cons (.text _) (.cons (.tup hb ?_) .nil))
  have := nks_of_nums (H := H) (cs.map f)
  rwa [List.map_map] at this
/-! ### the table as it stands -/
structure TbA where
  d : Addr
  le : Addr
  lc : Addr
  ls : Addr
def flds (t : TbA) : List (Str × V) := [("numbers", .ref t.d), ("entries", .ref t.le), ("codes", .ref t.lc), ("sizes", .ref t.ls)]
def CodesAt (H : Hp) (lc : Addr) (den : List Nd) : Prop := ∃ cs : List Addr, H lc = some (.lst (cs.map V.ref)) ∧ cs.length = den.length ∧ ∀ (i : Nat) (a : Addr) (n : Nd), cs[i]? = some a → den[i]? = some n → H a = some (.tup (nI (code n)))
def SizesAt (H : Hp) (ls : Addr) (den : List Nd) : Prop := ∃ zs : List Int, H ls = some (.lst (zs.map V.int)) ∧ zs.length = den.length
def EntsAt (H : Hp) (le : Addr) (den : List Nd) : Prop := ∃ as : List Addr, H le = some (.lst (as.map V.ref)) ∧ as.length = den.length ∧ ∀ (i : Nat) (a : Addr) (n : Nd), as[i]? = some a → den[i]? = some n → NK H (ekey den n) (.ref a)
def NumsAt (P : Program) (w : World) (H : Hp) (d : Addr) (den : List Nd) : Prop := ∃ xs : NX, ND P w H d xs ∧ xs.map (·.1) = den.map (ekey den) ∧ xs.map (·.2.2) = nI (List.range den.length)
structure Tab (P : Program) (w : World) (C : Addr) (H : Hp) (p : Addr) (t : TbA) (den : List Nd) : Prop where
  ob : ∃ dx, H p = some (.ins C dx (flds t))
  nums : NumsAt P w H t.d den
  ents : EntsAt H t.le den
  codes : CodesAt H t.lc den
  sizes : SizesAt H t.ls den
  ne1 : t.le ≠ t.lc
  ne2 : t.le ≠ t.ls
  ne3 : t.lc ≠ t.ls
  tbl : Tbl den
  wf : ∀ n ∈ den, Wf n ∧ (code n).length ≤ 200000
/-- what is no part of the table stands -/
def KeepT (t : TbA) (H H' : Hp) : Prop := ∀ b o, H b = some o → b ≠ t.d → b ≠ t.le → b ≠ t.lc → b ≠ t.ls → H' b = some o
theorem lookup_numbers (t : TbA) : (flds t).lookup ("numbers" : Str) = some (.ref t.d) := by
  unfold flds; rw [List.lookup_cons]; simp
theorem n_en : (("entries" : Str) == "numbers") = false := by decide +kernel
theorem n_cn : (("codes" : Str) == "numbers") = false := by decide +kernel
theorem n_ce : (("codes" : Str) == "entries") = false := by decide +kernel
theorem n_sn : (("sizes" : Str) == "numbers") = false := by decide +kernel
theorem n_se : (("sizes" : Str) == "entries") = false := by decide +kernel
theorem n_sc : (("sizes" : Str) == "codes") = false := by decide +kernel
theorem lookup_entries (t : TbA) : (flds t).lookup ("entries" : Str) = some (.ref t.le) := by
  unfold flds; rw [List.lookup_cons, n_en, List.lookup_cons]; simp
theorem lookup_codes (t : TbA) : (flds t).lookup ("codes" : Str) = some (.ref t.lc) := by
  unfold flds; rw [List.lookup_cons, n_cn, List.lookup_cons, n_ce, List.lookup_cons]; simp
theorem lookup_sizes (t : TbA) : (flds t).lookup ("sizes" : Str) = some (.ref t.ls) := by
  unfold flds; rw [List.lookup_cons, n_sn, List.lookup_cons, n_se, List.lookup_cons, n_sc, List.lookup_cons]; simp
/-- the class -/
structure TxtC (K : PySem.W.Frag) (C : Addr) : Prop where
  cl : Cls K C
  nN : NoAttr K C "numbers"
  nE : NoAttr K C "entries"
  nC : NoAttr K C "codes"
  nS : NoAttr K C "sizes"
theorem CodesAt.keep {H H' : Hp} {lc : Addr} {den : List Nd} (h : CodesAt H lc den) (e : ∀ o, H lc = some o → H' lc = some o) (t : Tups H H') : CodesAt H' lc den := by
  obtain ⟨cs, h1, h2, h3⟩ := h
  exact ⟨cs, e _ h1, h2, fun i a n ha hn => t _ _ (h3 i a n ha hn)⟩
theorem SizesAt.keep {H H' : Hp} {ls : Addr} {den : List Nd} (h : SizesAt H ls den) (e : ∀ o, H ls = some o → H' ls = some o) : SizesAt H' ls den := by
  obtain ⟨zs, h1, h2⟩ := h
  exact ⟨zs, e _ h1, h2⟩
theorem EntsAt.keep {H H' : Hp} {le : Addr} {den : List Nd} (h : EntsAt H le den) (e : ∀ o, H le = some o → H' le = some o) (t : Tups H H') : EntsAt H' le den := by
  obtain ⟨cs, h1, h2, h3⟩ := h
  exact ⟨cs, e _ h1, h2, fun i a n ha hn => NK.keep t _ _ (h3 i a n ha hn)⟩
theorem NumsAt.keep {P : Program} {w : World} {H H' : Hp} {d : Addr} {den : List Nd} (h : NumsAt P w H d den) (e : ∀ o, H d = some o → H' d = some o) (t : Tups H H') : NumsAt P w H' d den := by
  obtain ⟨xs, n, h1, h2⟩ := h
  exact ⟨xs, n.keep (by rw [e _ n.here, n.here]) t, h1, h2⟩
theorem Tab.keep {P : Program} {w : World} {C : Addr} {H H' : Hp} {p : Addr} {t : TbA} {den : List Nd} (h : Tab P w C H p t den) (hp : ∀ o, H p = some o → H' p = some o) (hd : ∀ o, H t.d = some o → H' t.d = some o) (he : ∀ o, H t.le = some o → H' t.le = some o) (hc : ∀ o, H t.lc = some o → H' t.lc = some o) (hs : ∀ o, H t.ls = some o → H' t.ls = some o) (tu : Tups H H') : Tab P w C H' p t den :=
  ⟨let ⟨dx, e⟩ := h.ob; ⟨dx, hp _ e⟩, h.nums.keep hd tu, h.ents.keep he tu, h.codes.keep hc tu, h.sizes.keep hs, h.ne1, h.ne2, h.ne3, h.tbl, h.wf⟩
theorem Tab.same {P : Program} {w : World} {C : Addr} {H H' : Hp} {p : Addr} {t : TbA} {den : List Nd} (h : Tab P w C H p t den) (s : Same H H') : Tab P w C H' p t den :=
  h.keep (fun o => s _ o) (fun o => s _ o) (fun o => s _ o) (fun o => s _ o) (fun o => s _ o) (tups_of s)
/-- a list that is no part of the table is written -/
theorem Tab.upd {P : Program} {w : World} {C : Addr} {H : Hp} {p D : Addr} {t : TbA} {den : List Nd} {o : HO} {xs : List V} (h : Tab P w C H p t den) (hD : H D = some (.lst xs)) (h1 : D ≠ t.le) (h2 : D ≠ t.lc) (h3 : D ≠ t.ls) : Tab P w C (upd H D o) p t den := by
  obtain ⟨dx, e⟩ := id h.ob
  obtain ⟨xs, n, _⟩ := id h.nums
  refine h.keep (fun o he => ?_) (fun o he => ?_) (fun o he => ?_) (fun o he => ?_) (fun o he => ?_) (fun a ys he => ?_)
  · rw [upd_ne (ne_of e hD (fun z => nomatch z))]; exact he
  · rw [upd_ne (ne_of n.here hD (fun z => nomatch z))]; exact he
  · rw [upd_ne h1.symm]; exact he
  · rw [upd_ne h2.symm]; exact he
  · rw [upd_ne h3.symm]; exact he
  · rw [upd_ne (ne_of he hD (fun z => nomatch z))]; exact he
theorem KeepT.refl (t : TbA) (H : Hp) : KeepT t H H := fun _ _ h _ _ _ _ => h
theorem KeepT.trans {t : TbA} {H H1 H2 : Hp} (a : KeepT t H H1) (b : KeepT t H1 H2) : KeepT t H H2 := fun c o h h1 h2 h3 h4 => b c o (a c o h h1 h2 h3 h4) h1 h2 h3 h4
theorem KeepT.of {t : TbA} {H H' : Hp} (s : Same H H') : KeepT t H H' := fun b o h _ _ _ _ => s b o h
/-- tuples stand -/
theorem KeepT.tups {P : Program} {w : World} {C : Addr} {H H' : Hp} {p : Addr} {t : TbA} {den : List Nd} (k : KeepT t H H') (h : Tab P w C H p t den) : Tups H H' := fun a xs e => by
  obtain ⟨ys, n, _⟩ := h.nums
  obtain ⟨as, h1, _⟩ := h.ents
  obtain ⟨cs, h2, _⟩ := h.codes
  obtain ⟨zs, h3, _⟩ := h.sizes
  exact k a _ e (ne_of e n.here (fun z => nomatch z)) (ne_of e h1 (fun z => nomatch z)) (ne_of e h2 (fun z => nomatch z)) (ne_of e h3 (fun z => nomatch z))
end Sh

namespace Sh
open PySem PySem.Spec PyProof.Rows L2
abbrev sTInit : Stmt := inClass (topS 22) 0
abbrev sTNum : Stmt := inClass (topS 22) 1
abbrev sTMeas : Stmt := inClass (topS 22) 2
abbrev sTItem : Stmt := inClass (topS 22) 3
section
variable {P : Program} {w : World} {K : PySem.W.Frag} {mg : Str → Option Value} {base : Heap}
/-! ### measure -/
theorem scMeas : FnScope ["self", "entry", "child"] ["self", "entry"] (defScope sTMeas) := ⟨rfl, rfl, rfl, by decide +kernel, rfl, by decide +kernel, by decide +kernel⟩
def spMeas (C : Addr) : Sp := fun vs H Q _ => ∃ (p dx a : Addr) (t : TbA) (den : List Nd) (n : Nd), vs = [.ref p, .ref a] ∧ H p = some (.ins C dx (flds t)) ∧ CodesAt H t.lc den ∧ SizesAt H t.ls den ∧ t.lc ≠ t.ls ∧ (∀ c ∈ n.kids, c ∈ den) ∧ NK H (ekey den n) (.ref a) ∧
  Wf n ∧ (code n).length ≤ 200000 ∧ den.length ≤ 1000000 ∧ ∀ (H' : Hp), (∀ b o, H b = some o → b ≠ t.lc → b ≠ t.ls → H' b = some o) → CodesAt H' t.lc (den ++ [n]) → SizesAt H' t.ls (den ++ [n]) → Q .non H'
theorem CodesAt.get {H : Hp} {lc : Addr} {den : List Nd} {cs : List Addr} (h2 : cs.length = den.length) {n : Nd} (hn : n ∈ den) : ∃ a, cs[idx den n]? = some a := by
  have := idx_lt hn
  exact ⟨_, List.getElem?_eq_getElem (by omega)⟩
theorem CodesAt.snoc {H H' : Hp} {lc q : Addr} {den : List Nd} {n : Nd} {cs : List Addr} (h2 : cs.length = den.length) (h3 : ∀ (i : Nat) (a : Addr) (n : Nd), cs[i]? = some a → den[i]? = some n → H a = some (.tup (nI (code n)))) (t : Tups H H') (hl : H' lc = some (.lst (cs.map V.ref ++ [.ref q]))) (hq : H' q = some (.tup (nI (code n)))) : CodesAt H' lc (den ++ [n]) := by
  refine ⟨cs ++ [q], by rw [hl, List.map_append]; rfl, by simp [h2], fun i a m ha hm => ?_⟩
  by_cases hi : i < den.length
  · rw [List.getElem?_append_left (by omega)] at ha
    rw [List.getElem?_append_left hi] at hm
    exact t _ _ (h3 i a m ha hm)
  · have hz := (List.getElem?_eq_some_iff.mp hm).1
    simp at hz
    have ei : i = den.length := by omega
    subst ei
    rw [← h2] at ha
    simp at ha hm
    subst ha; subst hm
    exact hq
theorem SizesAt.snoc {H' : Hp} {ls : Addr} {den : List Nd} {n : Nd} {zs : List Int} {z : Int} (h2 : zs.length = den.length) (hl : H' ls = some (.lst (zs.map V.int ++ [.int z]))) : SizesAt H' ls (den ++ [n]) :=
  ⟨zs ++ [z], by rw [hl, List.map_append]; rfl, by simp [h2]⟩
theorem ok_measure {C f fC fD fR fB : Addr} {fd fdC fdD fdR fdB : FuncData} {k : Nat} (F : Fun K "measure" "NodeTable.measure" sTMeas f fd) (TC : TxtC K C) (T : Txt mg)
    (FC : Fun K "code_of" "code_of" sCode fC fdC) (bC : Binds K fdC ["element"] []) (gC : mg "code_of" = some (.ref fC)) (FD : Fun K "digits_of" "digits_of" sDigits fD fdD) (bD : Binds K fdD ["number", "count"] []) (gD : mg "digits_of" = some (.ref fD))
    (FR : Fun K "run_code" "run_code" sRunCode fR fdR) (bR : Binds K fdR ["times", "child_code"] []) (gR : mg "run_code" = some (.ref fR)) (FB : Fun K "block_code" "block_code" sBlockCode fB fdB) (bB : Binds K fdB ["child_codes"] []) (gB : mg "block_code" = some (.ref fB)) :
    FnOk P w K mg base CX0 (k + 4) f fd ["self", "entry"] (spMeas C) := by
  have GC : FnOk P w K mg base CX0 (k + 3) fC fdC ["element"] spCode := ok_code FC bC gC FD bD gD T
  have GR : FnOk P w K mg base CX0 (k + 1 + 2) fR fdR ["times", "child_code"] spRunCode := ok_runCode FR FD bD gD T
  have GB : FnOk P w K mg base CX0 (k + 2 + 1) fB fdB ["child_codes"] (spBlockCode K) := ok_blockCode FB T
  refine F.ok scMeas (fun vs H Q E h => ?_) (fun cdv A outer s H vs Q E hr h => ?_)
  · obtain ⟨p, dx, a, t, den, n, rfl, _⟩ := h
    rfl
  · obtain ⟨p, dx, a, t, den, n, rfl, hp, ⟨cs, c1, c2, c3⟩, ⟨zs, z1, z2⟩, ne, hk, nk, wf, hl, hdl, q⟩ := h
    refine ⟨_, pss_one (ps_if (pt_cmpR op_eq (pe_ix ix_tup (pv 1) pe_int (fun _ _ => rfl)) pe_str (nomark _))
      (pss_cons (ps_expr (pe_bm PySem.F.plainAttrs_list PySem.F.slot_list_append PySem.F.type_list_append mt_append (pe_fld (pv 0) rfl) (pa_cons (pe_call GC hr (by rfl) gC FC.kp bC .nil pass0 (pa_cons (pe_ix ix_tup (pv 1) pe_int (fun _ _ => rfl)) pa_nil)) pa_nil)))
        (pss_one (ps_expr (pe_bm PySem.F.plainAttrs_list PySem.F.slot_list_append PySem.F.type_list_append mt_append (pe_fld (pv 0) rfl) (pa_cons pe_int pa_nil)))))
      (pss_one (ps_if (pt_cmpR op_eq (pe_ix ix_tup (pv 1) pe_int (fun _ _ => rfl)) pe_str (nomark _))
        (pss_cons (ps_expr (pe_bm PySem.F.plainAttrs_list PySem.F.slot_list_append PySem.F.type_list_append mt_append (pe_fld (pv 0) rfl) (pa_cons (pe_call GR hr (by rfl) gR FR.kp bR .nil pass0
            (pa_cons (pe_ix ix_tup (pv 1) pe_int (fun _ _ => rfl)) (pa_cons (pe_ix ix_list (pe_fld (pv 0) rfl) (pe_ix ix_tup (pv 1) pe_int (fun _ _ => rfl)) (fun _ _ => rfl)) pa_nil))) pa_nil)))
          (pss_one (ps_expr (pe_bm PySem.F.plainAttrs_list PySem.F.slot_list_append PySem.F.type_list_append mt_append (pe_fld (pv 0) rfl) (pa_cons (pe_op op_mul (pe_ix ix_list (pe_fld (pv 0) rfl) (pe_ix ix_tup (pv 1) pe_int (fun _ _ => rfl)) (fun _ _ => rfl)) (pe_ix ix_tup (pv 1) pe_int (fun _ _ => rfl))) pa_nil)))))
        (pss_cons (ps_expr (pe_bm PySem.F.plainAttrs_list PySem.F.slot_list_append PySem.F.type_list_append mt_append (pe_fld (pv 0) rfl) (pa_cons (pe_call GB hr (by rfl) gB FB.kp bB .nil pass0
            (pa_cons (pe_lc (own := [("child", 2)]) (g := gName 2) (tt := tYes) (te := tOp (rIxL K) (tFld K (tVar 0) "codes") (tVar 2)) rfl scMeas.nd (pi_tup (pe_ix ix_tup (pv 1) pe_int (fun _ _ => rfl))) (blkOk_by (N := ["self", "entry", "child"]) (sc := defScope sTMeas) (by decide +kernel))
              (fun _ _ _ _ _ => pg_name (i := 2) scMeas.nd rfl (Or.inl rfl)) (fun _ _ _ _ _ => pts_nil) (fun _ _ _ _ _ => pe_ix ix_list (pe_fld (pv 0) rfl) (pv 2) (fun _ _ => rfl))) pa_nil)) pa_nil)))
          (pss_one (ps_expr (pe_bm PySem.F.plainAttrs_list PySem.F.slot_list_append PySem.F.type_list_append mt_append (pe_fld (pv 0) rfl) (pa_cons (pe_callB (cr_sum rfl) (by rfl) T.sum boot_sum
            (pa_cons (pe_lc (own := [("child", 2)]) (g := gName 2) (tt := tYes) (te := tOp (rIxL K) (tFld K (tVar 0) "sizes") (tVar 2)) rfl scMeas.nd (pi_tup (pe_ix ix_tup (pv 1) pe_int (fun _ _ => rfl))) (blkOk_by (N := ["self", "entry", "child"]) (sc := defScope sTMeas) (by decide +kernel))
              (fun _ _ _ _ _ => pg_name (i := 2) scMeas.nd rfl (Or.inl rfl)) (fun _ _ _ _ _ => pts_nil) (fun _ _ _ _ _ => pe_ix ix_list (pe_fld (pv 0) rfl) (pv 2) (fun _ _ => rfl))) pa_nil)) pa_nil)))))))), ?_⟩
    have hclen : (cs.map V.ref).length < sizeLine := by rw [List.length_map]; exact line_lt (by omega)
    have hzlen : (zs.map V.int).length < sizeLine := by rw [List.length_map]; exact line_lt (by omega)
    have npc : p ≠ t.lc := ne_of hp c1 (fun z => nomatch z)
    have nps : p ≠ t.ls := ne_of hp z1 (fun z => nomatch z)
    -- both appends done
    have fin : ∀ (H1 H2 : Hp) (c : Addr) (z : Int), Same H H1 → H1 c = some (.tup (nI (code n))) → (∀ b o, H1 b = some o → H2 b = some o) → ∀ H3 : Hp, H3 = upd (upd H1 t.lc (.lst (cs.map V.ref ++ [.ref c]))) t.ls (.lst (zs.map V.int ++ [.int z])) → Q .non H3 := by
      rintro H1 _ c z sm hc _ H3 rfl
      have nc1 : c ≠ t.lc := ne_of hc (sm _ _ c1) (fun z => nomatch z)
      have nc2 : c ≠ t.ls := ne_of hc (sm _ _ z1) (fun z => nomatch z)
      refine q _ (fun b o hb n1 n2 => ?_) (CodesAt.snoc (q := c) c2 c3 (fun b ys hb => ?_) ?_ ?_) (SizesAt.snoc z2 upd_same)
      · rw [upd_ne n2, upd_ne n1]; exact sm _ _ hb
      · rw [upd_ne (ne_of hb z1 (fun z => nomatch z)), upd_ne (ne_of hb c1 (fun z => nomatch z))]; exact sm _ _ hb
      · rw [upd_ne ne, upd_same]
      · rw [upd_ne nc2, upd_ne nc1]; exact hc
    cases n with
    | leaf e =>
      obtain ⟨v, ha, hv⟩ := nk_leaf nk
      rw [Wf] at wf
      refine ⟨_, rfl, a, _, 0, _, rfl, rfl, SqT.of ha, atI_nat (j := 0) rfl, rfl, _, rfl, ?_⟩
      refine ite2 (fun _ => ?_) (fun z => absurd (decide_eq_true rfl) z)
      refine ⟨_, rfl, p, C, dx, _, _, rfl, hp, TC.cl, TC.nC, lookup_codes t, .inl ⟨rfl, _, SqL.of c1⟩, ?_⟩
      refine ⟨_, rfl, a, _, 1, v, rfl, rfl, SqT.of ha, atI_nat (j := 1) rfl, e, v, rfl, hv, wf, fun H1 c sm hc => ?_⟩
      refine ⟨t.lc, _, _, rfl, rfl, sm _ _ c1, hclen, ?_⟩
      have z1' : (upd H1 t.lc (.lst (cs.map V.ref ++ [.ref c]))) t.ls = some (.lst (zs.map V.int)) := by rw [upd_ne ne.symm]; exact sm _ _ z1
      have hp' : (upd H1 t.lc (.lst (cs.map V.ref ++ [.ref c]))) p = some (.ins C dx (flds t)) := by rw [upd_ne npc]; exact sm _ _ hp
      refine ⟨_, rfl, p, C, dx, _, _, rfl, hp', TC.cl, TC.nS, lookup_sizes t, .inl ⟨rfl, _, SqL.of z1'⟩, t.ls, _, _, rfl, rfl, z1', hzlen, ?_⟩
      exact fin H1 H1 c 1 sm (by rw [code]; exact hc) (fun _ _ h => h) _ rfl
    | run m kk =>
      have ha := nk_run nk
      rw [Wf] at wf
      have hm := hk m (by simp [Nd.kids])
      obtain ⟨ca, hca⟩ := CodesAt.get (H := H) (lc := t.lc) c2 hm
      have hcm := c3 _ _ _ hca (idx_get hm)
      obtain ⟨zi, hzi⟩ : ∃ z, zs[idx den m]? = some z := ⟨_, List.getElem?_eq_getElem (by have := idx_lt hm; omega)⟩
      refine ⟨_, rfl, a, _, 0, _, rfl, rfl, SqT.of ha, atI_nat (j := 0) rfl, rfl, _, rfl, ?_⟩
      refine ite2 (fun z => absurd (V.str.inj (of_decide_eq_true z)) run_leaf) (fun _ => ?_)
      refine ⟨_, rfl, a, _, 0, _, rfl, rfl, SqT.of ha, atI_nat (j := 0) rfl, rfl, _, rfl, ?_⟩
      refine ite2 (fun _ => ?_) (fun z => absurd (decide_eq_true rfl) z)
      refine ⟨_, rfl, p, C, dx, _, _, rfl, hp, TC.cl, TC.nC, lookup_codes t, .inl ⟨rfl, _, SqL.of c1⟩, ?_⟩
      refine ⟨_, rfl, a, _, 2, _, rfl, rfl, SqT.of ha, atI_nat (j := 2) rfl, ?_⟩
      refine ⟨_, rfl, p, C, dx, _, _, rfl, hp, TC.cl, TC.nC, lookup_codes t, _, rfl, a, _, 1, _, rfl, rfl, SqT.of ha, atI_nat (j := 1) rfl, t.lc, _, _, .ref ca, rfl, rfl, SqL.of c1, atI_nat (by rw [List.getElem?_map, hca]; rfl), ?_⟩
      have hlen : (code (.run m kk)).length = (code m).length + 3 := by rw [code]; simp [digs_length]; omega
      obtain ⟨d0, r0, ec, _⟩ := code_head wf.1
      refine ⟨kk, ca, code m, rfl, hcm, by rw [ec]; simp, by omega, fun H1 c sm hc => ?_⟩
      refine ⟨t.lc, _, _, rfl, rfl, sm _ _ c1, hclen, ?_⟩
      have z1' : (upd H1 t.lc (.lst (cs.map V.ref ++ [.ref c]))) t.ls = some (.lst (zs.map V.int)) := by rw [upd_ne ne.symm]; exact sm _ _ z1
      have hp' : (upd H1 t.lc (.lst (cs.map V.ref ++ [.ref c]))) p = some (.ins C dx (flds t)) := by rw [upd_ne npc]; exact sm _ _ hp
      have ha' : (upd H1 t.lc (.lst (cs.map V.ref ++ [.ref c]))) a = some (.tup [.str "run", .int (idx den m : Nat), .int (kk : Nat)]) := by rw [upd_ne (ne_of ha c1 (fun z => nomatch z))]; exact sm _ _ ha
      refine ⟨_, rfl, p, C, dx, _, _, rfl, hp', TC.cl, TC.nS, lookup_sizes t, .inl ⟨rfl, _, SqL.of z1'⟩, ?_⟩
      refine ⟨_, rfl, p, C, dx, _, _, rfl, hp', TC.cl, TC.nS, lookup_sizes t, _, rfl, a, _, 1, _, rfl, rfl, SqT.of ha', atI_nat (j := 1) rfl, t.ls, _, _, .int zi, rfl, rfl, SqL.of z1', atI_nat (by rw [List.getElem?_map, hzi]; rfl), ?_⟩
      refine ⟨_, rfl, a, _, 2, _, rfl, rfl, SqT.of ha', atI_nat (j := 2) rfl, zi, kk, rfl, rfl, .inr ⟨by omega, by have := wf.2.2; omega⟩, t.ls, _, _, rfl, rfl, z1', hzlen, ?_⟩
      exact fin H1 H1 c (zi * kk) sm (by rw [code]; exact hc) (fun _ _ h => h) _ rfl
    | block ks =>
      obtain ⟨b, ha, hb⟩ := nk_block nk
      rw [Wf, wfL_iff] at wf
      have hks : ∀ c ∈ ks, c ∈ den := fun c hc => hk c hc
      refine ⟨_, rfl, a, _, 0, _, rfl, rfl, SqT.of ha, atI_nat (j := 0) rfl, rfl, _, rfl, ?_⟩
      refine ite2 (fun z => absurd (V.str.inj (of_decide_eq_true z)) block_leaf) (fun _ => ?_)
      refine ⟨_, rfl, a, _, 0, _, rfl, rfl, SqT.of ha, atI_nat (j := 0) rfl, rfl, _, rfl, ?_⟩
      refine ite2 (fun z => absurd (V.str.inj (of_decide_eq_true z)) block_run) (fun _ => ?_)
      refine ⟨_, rfl, p, C, dx, _, _, rfl, hp, TC.cl, TC.nC, lookup_codes t, .inl ⟨rfl, _, SqL.of c1⟩, ?_⟩
      refine ⟨_, rfl, a, _, 1, _, rfl, rfl, SqT.of ha, atI_nat (j := 1) rfl, b, rfl, ⟨_, SqT.of hb⟩, fun D nD => ?_⟩
      have hkl : (nI (ks.map (idx den))).length = ks.length := by rw [nI_len, List.length_map]
      have hcode : (code (.block ks)).length = (ks.flatMap code).length + 2 := by rw [code, codeL_eq]; simp
      -- the codes of the children
      refine lc_tup (K := K) (a := b) (xs := nI (ks.map (idx den))) (fun i H' => ∃ ps : List (Addr × List Nat), Same H H' ∧ H' D = some (.lst (ps.map fun p => V.ref p.1)) ∧ ps.map (·.2) = (ks.take i).map code ∧ ∀ p ∈ ps, H' p.1 = some (.tup (nI p.2))) ⟨[], same_upd nD, by rw [upd_same]; rfl, by simp, by simp⟩ (fun i H' _ ⟨_, sm, _⟩ => SqT.of (sm _ _ hb)) ?_ ?_
      · rintro i x H1 hx ⟨ps, sm, hD, hps, hall⟩
        unfold nI at hx
        rw [List.map_map, List.getElem?_map] at hx
        obtain ⟨m, em, rfl⟩ := Option.map_eq_some_iff.mp hx
        have hmk := List.mem_of_getElem? em
        have hm := hks m hmk
        obtain ⟨ca, hca⟩ := CodesAt.get (H := H) (lc := t.lc) c2 hm
        have hcm := c3 _ _ _ hca (idx_get hm)
        have hil : i < ks.length := (List.getElem?_eq_some_iff.mp em).1
        have hpl : ps.length = i := by
          have := congrArg List.length hps
          rw [List.length_map, List.length_map, List.length_take] at this
          omega
        refine ⟨rfl, _, rfl, p, C, dx, _, _, rfl, sm _ _ hp, TC.cl, TC.nC, lookup_codes t, _, rfl, t.lc, _, _, .ref ca, rfl, rfl, SqL.of (sm _ _ c1), atI_nat (by rw [List.getElem?_map, hca]; rfl), _, hD, by rw [List.length_map]; exact line_lt (by have := wf.1; omega), ps ++ [(ca, code m)], fun bb o hbb => ?_, ?_, ?_, ?_⟩
        · rw [upd_ne (ne_of_none hbb nD)]; exact sm bb o hbb
        · rw [upd_same, List.map_append]; rfl
        · rw [List.map_append, hps, List.take_add_one, em]; simp
        · intro e he
          rcases List.mem_append.mp he with z | z
          · have h1 := hall e z
            rw [upd_ne (ne_of h1 hD (fun z => nomatch z))]; exact h1
          · have : e = (ca, code m) := by simpa using z
            subst this
            rw [upd_ne (ne_of (sm _ _ hcm) hD (fun z => nomatch z))]; exact sm _ _ hcm
      · rintro H1 ⟨ps, sm, hD, hps, hall⟩
        rw [hkl, List.take_length] at hps
        have hpl : ps.length = ks.length := by
          have := congrArg List.length hps
          rwa [List.length_map, List.length_map] at this
        have hfl : (ps.map (·.2)).flatten = ks.flatMap code := by rw [hps]; rfl
        refine ⟨D, ps, rfl, SqL.of hD, hall, by rw [hfl]; omega, fun H2 c sm2 hc => ?_⟩
        rw [hfl, hpl] at hc
        have sm3 : Same H H2 := sm.trans sm2
        refine ⟨t.lc, _, _, rfl, rfl, sm3 _ _ c1, hclen, ?_⟩
        generalize eH3 : upd H2 t.lc (.lst (cs.map V.ref ++ [.ref c])) = H3
        have z1' : H3 t.ls = some (.lst (zs.map V.int)) := by rw [← eH3, upd_ne ne.symm]; exact sm3 _ _ z1
        have hp' : H3 p = some (.ins C dx (flds t)) := by rw [← eH3, upd_ne npc]; exact sm3 _ _ hp
        have ha' : H3 a = some (.tup [.str "block", .ref b]) := by rw [← eH3, upd_ne (ne_of ha c1 (fun z => nomatch z))]; exact sm3 _ _ ha
        have hb' : H3 b = some (.tup (nI (ks.map (idx den)))) := by rw [← eH3, upd_ne (ne_of hb c1 (fun z => nomatch z))]; exact sm3 _ _ hb
        refine ⟨_, rfl, p, C, dx, _, _, rfl, hp', TC.cl, TC.nS, lookup_sizes t, .inl ⟨rfl, _, SqL.of z1'⟩, ?_⟩
        refine ⟨_, rfl, a, _, 1, _, rfl, rfl, SqT.of ha', atI_nat (j := 1) rfl, b, rfl, ⟨_, SqT.of hb'⟩, fun D2 nD2 => ?_⟩
        refine lc_tup (K := K) (a := b) (xs := nI (ks.map (idx den))) (fun i H' => ∃ ns : List Int, (∀ bb, bb ≠ D2 → H' bb = H3 bb) ∧ H' D2 = some (.lst (ns.map V.int)) ∧ ns.length = i) ⟨[], fun bb hbb => upd_ne hbb, by rw [upd_same]; rfl, rfl⟩ (fun i H' _ ⟨_, sm, _⟩ => SqT.of (by rw [sm b (ne_of_none hb' nD2)]; exact hb')) ?_ ?_
        · rintro i x H4 hx ⟨ns, sm4, hD4, hns⟩
          unfold nI at hx
          rw [List.map_map, List.getElem?_map] at hx
          obtain ⟨m, em, rfl⟩ := Option.map_eq_some_iff.mp hx
          have hm := hks m (List.mem_of_getElem? em)
          have hil : i < ks.length := (List.getElem?_eq_some_iff.mp em).1
          obtain ⟨zi, hzi⟩ : ∃ z, zs[idx den m]? = some z := ⟨_, List.getElem?_eq_getElem (by have := idx_lt hm; omega)⟩
          have hp4 : H4 p = some (.ins C dx (flds t)) := by rw [sm4 p (ne_of_none hp' nD2)]; exact hp'
          have z4 : H4 t.ls = some (.lst (zs.map V.int)) := by rw [sm4 _ (ne_of_none z1' nD2)]; exact z1'
          refine ⟨rfl, _, rfl, p, C, dx, _, _, rfl, hp4, TC.cl, TC.nS, lookup_sizes t, _, rfl, t.ls, _, _, .int zi, rfl, rfl, SqL.of z4, atI_nat (by rw [List.getElem?_map, hzi]; rfl), _, hD4, by rw [List.length_map]; exact line_lt (by have := wf.1; omega), ns ++ [zi], fun bb hbb => ?_, ?_, ?_⟩
          · rw [upd_ne hbb]; exact sm4 bb hbb
          · rw [upd_same, List.map_append]; rfl
          · simp [hns]
        · rintro H4 ⟨ns, sm4, hD4, hns⟩
          have z4 : H4 t.ls = some (.lst (zs.map V.int)) := by rw [sm4 _ (ne_of_none z1' nD2)]; exact z1'
          refine ⟨D2, ns, rfl, SqL.of hD4, t.ls, _, _, rfl, rfl, z4, hzlen, ?_⟩
          -- the end: D2 is left behind
          have nDls : t.ls ≠ D2 := ne_of_none z1' nD2
          have nlcD : t.lc ≠ D2 := by
            intro e
            have : H3 t.lc = some (.lst (cs.map V.ref ++ [.ref c])) := by rw [← eH3]; exact upd_same
            rw [e, nD2] at this; cases this
          have nc1 : c ≠ t.lc := ne_of hc (sm3 _ _ c1) (fun z => nomatch z)
          have nc2 : c ≠ t.ls := ne_of hc (sm3 _ _ z1) (fun z => nomatch z)
          have old : ∀ bb o, H bb = some o → bb ≠ t.lc → bb ≠ t.ls → H4 bb = some o := fun bb o hbb n1 n2 => by
            have h3 : H3 bb = some o := by rw [← eH3, upd_ne n1]; exact sm3 _ _ hbb
            rw [sm4 bb (ne_of_none h3 nD2)]; exact h3
          refine q _ (fun bb o hbb n1 n2 => ?_) (CodesAt.snoc (q := c) c2 c3 (fun bb ys hbb => ?_) ?_ ?_) (SizesAt.snoc z2 upd_same)
          · rw [upd_ne n2]; exact old bb o hbb n1 n2
          · rw [upd_ne (ne_of hbb z1 (fun z => nomatch z))]; exact old bb _ hbb (ne_of hbb c1 (fun z => nomatch z)) (ne_of hbb z1 (fun z => nomatch z))
          · rw [upd_ne ne, sm4 _ nlcD, ← eH3, upd_same]
          · have h3 : H3 c = some (.tup (nI (code (.block ks)))) := by rw [← eH3, upd_ne nc1, hc, code, codeL_eq]
            rw [upd_ne nc2, sm4 c (ne_of_none h3 nD2)]; exact h3
end
end Sh

namespace Sh
open PySem PySem.Spec PyProof.Rows L2
theorem nAt_find : ∀ {xs : NX} {ks : List NestedKey} {vs : List V} {i : Nat} {k : NestedKey} {v : V}, xs.map (·.1) = ks → xs.map (·.2.2) = vs → ks.Nodup → ks[i]? = some k → vs[i]? = some v → nAt xs k = some v
  | [], ks, vs, i, k, v, h1, h2, _, hk, hv => by subst h1; simp at hk
  | x :: xs, ks, vs, i, k, v, h1, h2, nd, hk, hv => by
    subst h1; subst h2
    rw [List.map_cons] at nd
    have nd' := List.nodup_cons.mp nd
    cases i with
    | zero =>
      simp at hk hv
      subst hk; subst hv
      simp [nAt, List.find?_cons]
    | succ i =>
      have hk' : (xs.map (·.1))[i]? = some k := by simpa using hk
      have hne : ¬ x.1 = k := fun e => nd'.1 (by rw [e]; exact List.mem_of_getElem? hk')
      have ih := nAt_find (xs := xs) (i := i) rfl rfl nd'.2 hk' (by simpa using hv)
      unfold nAt at ih ⊢
      rw [List.find?_cons, decide_eq_false hne]
      exact ih
theorem nAt_miss {xs : NX} {k : NestedKey} (h : k ∉ xs.map (·.1)) : nAt xs k = none := by
  unfold nAt
  rw [Option.map_eq_none_iff, List.find?_eq_none]
  intro x hx e
  have e' : x.1 = k := of_decide_eq_true e
  exact h (by rw [← e']; exact List.mem_map_of_mem hx)
theorem keys_nodup {den : List Nd} (t : Tbl den) : (den.map (ekey den)).Nodup := by
  have key : ∀ l : List Nd, (∀ n ∈ l, n ∈ den) → l.Nodup → (l.map (ekey den)).Nodup := by
    intro l
    induction l with
    | nil => intro _ _; exact List.nodup_nil
    | cons n l ih =>
      intro h nd
      have nd' := List.nodup_cons.mp nd
      rw [List.map_cons, List.nodup_cons]
      refine ⟨fun z => ?_, ih (fun m hm => h m (List.mem_cons_of_mem _ hm)) nd'.2⟩
      obtain ⟨m, hm, e⟩ := List.mem_map.mp z
      have := ekey_inj (fun c hc => t.kid (h m (List.mem_cons_of_mem _ hm)) hc) (fun c hc => t.kid (h n (by simp)) hc) e
      subst this
      exact nd'.1 hm
  exact key den (fun _ h => h) t.nd
theorem NumsAt.at {P : Program} {w : World} {H : Hp} {d : Addr} {den : List Nd} {n : Nd} {xs : NX} (h1 : xs.map (·.1) = den.map (ekey den)) (h2 : xs.map (·.2.2) = nI (List.range den.length)) (t : Tbl den) (hk : ∀ c ∈ n.kids, c ∈ den) :
    (n ∈ den → nAt xs (ekey den n) = some (.int (idx den n : Nat))) ∧ (n ∉ den → nAt xs (ekey den n) = none) := by
  constructor
  · intro hn
    have hi := idx_lt hn
    refine nAt_find h1 h2 (keys_nodup t) (i := idx den n) ?_ ?_
    · rw [List.getElem?_map, idx_get hn]; rfl
    · unfold nI
      rw [List.getElem?_map, List.getElem?_range hi]; rfl
  · intro hn
    refine nAt_miss ?_
    rw [h1]
    intro z
    obtain ⟨m, hm, e⟩ := List.mem_map.mp z
    have := ekey_inj (fun c hc => t.kid hm hc) hk e
    subst this
    exact hn hm
theorem flds_no (t : TbA) {m : Str} (h1 : (m == ("numbers" : Str)) = false) (h2 : (m == ("entries" : Str)) = false) (h3 : (m == ("codes" : Str)) = false) (h4 : (m == ("sizes" : Str)) = false) : (flds t).lookup m = none := by
  unfold flds
  rw [List.lookup_cons, h1, List.lookup_cons, h2, List.lookup_cons, h3, List.lookup_cons, h4]
  rfl
section
variable {P : Program} {w : World} {K : PySem.W.Frag} {mg : Str → Option Value} {base : Heap}
/-! ### number_of -/
theorem scNum : FnScope ["self", "entry", "number"] ["self", "entry"] (defScope sTNum) := ⟨rfl, rfl, rfl, by decide +kernel, rfl, by decide +kernel, by decide +kernel⟩
def spNum (P : Program) (w : World) (C : Addr) : Sp := fun vs H Q _ => ∃ (p a : Addr) (t : TbA) (den : List Nd) (n : Nd), vs = [.ref p, .ref a] ∧ Tab P w C H p t den ∧ (∀ c ∈ n.kids, c ∈ den) ∧ NK H (ekey den n) (.ref a) ∧ Wf n ∧ (code n).length ≤ 200000 ∧ den.length < 1000000 ∧
  ∀ (H' : Hp) (ms : List Nd), Tab P w C H' p t (den ++ ms) → n ∈ den ++ ms → ms.length ≤ 1 → KeepT t H H' → Q (.int (idx (den ++ ms) n : Nat)) H'
/-- what a method of the table needs -/
structure Env (K : PySem.W.Frag) (mg : Str → Option Value) (C fM fC fD fR fB : Addr) (fdM fdC fdD fdR fdB : FuncData) : Prop where
  TC : TxtC K C
  T : Txt mg
  FM : Fun K "measure" "NodeTable.measure" sTMeas fM fdM
  bM : Binds K fdM ["self", "entry"] []
  mM : Meth K C "measure" fM
  FC : Fun K "code_of" "code_of" sCode fC fdC
  bC : Binds K fdC ["element"] []
  gC : mg "code_of" = some (.ref fC)
  FD : Fun K "digits_of" "digits_of" sDigits fD fdD
  bD : Binds K fdD ["number", "count"] []
  gD : mg "digits_of" = some (.ref fD)
  FR : Fun K "run_code" "run_code" sRunCode fR fdR
  bR : Binds K fdR ["times", "child_code"] []
  gR : mg "run_code" = some (.ref fR)
  FB : Fun K "block_code" "block_code" sBlockCode fB fdB
  bB : Binds K fdB ["child_codes"] []
  gB : mg "block_code" = some (.ref fB)
variable {C fM fC fD fR fB : Addr} {fdM fdC fdD fdR fdB : FuncData}
theorem Tab.free {H : Hp} {p : Addr} {t : TbA} {den : List Nd} (h : Tab P w C H p t den) {q : Addr} (hq : H q = none) : q ≠ t.d ∧ q ≠ t.le ∧ q ≠ t.lc ∧ q ≠ t.ls ∧ q ≠ p := by
  obtain ⟨xs, n, _⟩ := h.nums
  obtain ⟨as, h1, _⟩ := h.ents
  obtain ⟨cs, h2, _⟩ := h.codes
  obtain ⟨zs, h3, _⟩ := h.sizes
  obtain ⟨dx, h0⟩ := h.ob
  exact ⟨(ne_of_none n.here hq).symm, (ne_of_none h1 hq).symm, (ne_of_none h2 hq).symm, (ne_of_none h3 hq).symm, (ne_of_none h0 hq).symm⟩
theorem ok_number {f : Addr} {fd : FuncData} {k : Nat} (F : Fun K "number_of" "NodeTable.number_of" sTNum f fd) (Z : Env K mg C fM fC fD fR fB fdM fdC fdD fdR fdB) : FnOk P w K mg base CX0 (k + 5) f fd ["self", "entry"] (spNum P w C) := by
  have GM : FnOk P w K mg base CX0 (k + 4) fM fdM ["self", "entry"] (spMeas C) := ok_measure Z.FM Z.TC Z.T Z.FC Z.bC Z.gC Z.FD Z.bD Z.gD Z.FR Z.bR Z.gR Z.FB Z.bB Z.gB
  refine F.ok scNum (fun vs H Q E h => ?_) (fun cdv A outer s H vs Q E hr h => ?_)
  · obtain ⟨p, a, t, den, n, rfl, _⟩ := h
    rfl
  · obtain ⟨p, a, t, den, n, rfl, TA, hk, nk, wf, hl, hdl, q⟩ := h
    have hu := hr.units
    have TC := Z.TC
    refine ⟨_, pss_cons (ps_set (i := 2) scNum.nd rfl (.inl rfl) (pe_nget hu (pe_fld (pv 0) rfl) (pv 1) ⟨rfl, rfl, rfl, rfl⟩))
      (pss_cons (ps_if (pt_cmpR op_isN (pv 2) pe_non (nomark _))
        (pss_cons (ps_set (i := 2) scNum.nd rfl (.inl rfl) (pe_callB call_len_seq (by rfl) Z.T.len PySem.boot_len (pa_cons (pe_fld (pv 0) rfl) pa_nil)))
        (pss_cons (ps_nput hu (pe_fld (pv 0) rfl) (pv 1) (pv 2) rfl)
        (pss_cons (ps_expr (pe_bm PySem.F.plainAttrs_list PySem.F.slot_list_append PySem.F.type_list_append mt_append (pe_fld (pv 0) rfl) (pa_cons (pv 1) pa_nil)))
        (pss_one (ps_expr (pe_meth (pv 0) TC.cl Z.mM GM hr Z.bM .nil pass0 (pa_cons (pv 1) pa_nil))))))) pss_nil)
      (pss_one (ps_ret (pv 2)))), ?_⟩
    obtain ⟨⟨dx, hp⟩, ⟨xs, nd, x1, x2⟩, ents, codes, sizes, n1, n2, n3, tbl, wfs⟩ := id TA
    obtain ⟨as, a1, a2, a3⟩ := id ents
    obtain ⟨cs, c1, _⟩ := id codes
    obtain ⟨zs, z1, _⟩ := id sizes
    have hdep := nkey_depth (idx den) n wf
    have at_ := NumsAt.at (P := P) (w := w) (H := H) (d := t.d) x1 x2 tbl hk
    refine ⟨_, rfl, p, C, dx, _, _, rfl, hp, TC.cl, TC.nN, lookup_numbers t, t.d, rfl, ⟨xs, nd⟩, _, rfl, xs, ekey den n, a, rfl, nd, nk, hdep, ?_⟩
    by_cases hn : n ∈ den
    · rw [at_.1 hn]
      refine ⟨_, rfl, rfl, _, rfl, ?_⟩
      refine ite2 (fun z => nomatch (of_decide_eq_true z : V.int _ = V.non)) (fun _ => ?_)
      refine ⟨_, rfl, ?_⟩
      have := q H [] (by rw [List.append_nil]; exact TA) (by rw [List.append_nil]; exact hn) (by simp) (KeepT.refl t H)
      rw [List.append_nil] at this
      exact this
    · rw [at_.2 hn]
      refine ⟨_, rfl, rfl, _, rfl, ?_⟩
      refine ite2 (fun _ => ?_) (fun z => absurd (decide_eq_true rfl) z)
      refine ⟨_, rfl, p, C, dx, _, _, rfl, hp, TC.cl, TC.nE, lookup_entries t, t.le, _, rfl, .inl (SqL.of a1), ?_⟩
      rw [List.length_map, a2]
      have hxl : xs.length = den.length := by have := congrArg List.length x1; rwa [List.length_map, List.length_map] at this
      have hxz : xs.length < sizeLine := line_lt (by omega)
      refine ⟨_, rfl, _, rfl, p, C, dx, _, _, rfl, hp, TC.cl, TC.nN, lookup_numbers t, _, rfl, t.d, xs, ekey den n, a, rfl, rfl, nd, nk, hdep, at_.2 hn, hxz, ?_⟩
      let H1 : Hp := upd H t.d (NO P w t.d (xs ++ [(ekey den n, a, V.int (den.length : Nat))]))
      have nd2 : ND P w H1 t.d (xs ++ [(ekey den n, a, V.int (den.length : Nat))]) := nd_put nd nk hdep hxz
      have keep1 : ∀ b o, H b = some o → b ≠ t.d → H1 b = some o := fun b o hb hne => by show upd H t.d _ b = some o; rw [upd_ne hne]; exact hb
      have dp : p ≠ t.d := ne_of hp nd.here (fun z => nomatch z)
      have de : t.le ≠ t.d := ne_of a1 nd.here (fun z => nomatch z)
      have dc : t.lc ≠ t.d := ne_of c1 nd.here (fun z => nomatch z)
      have ds : t.ls ≠ t.d := ne_of z1 nd.here (fun z => nomatch z)
      have hp1 := keep1 _ _ hp dp
      have a11 := keep1 _ _ a1 de
      refine ⟨_, rfl, p, C, dx, _, _, rfl, hp1, TC.cl, TC.nE, lookup_entries t, .inl ⟨rfl, _, SqL.of a11⟩, _, rfl, t.le, _, _, rfl, rfl, a11, by rw [List.length_map]; exact line_lt (by omega), ?_⟩
      let H2 : Hp := upd H1 t.le (.lst (as.map V.ref ++ [.ref a]))
      have keep2 : ∀ b o, H b = some o → b ≠ t.d → b ≠ t.le → H2 b = some o := fun b o hb h1 h2 => by show upd H1 t.le _ b = some o; rw [upd_ne h2]; exact keep1 b o hb h1
      have tup2 : Tups H H2 := fun b ys hb => keep2 b _ hb (ne_of hb nd.here (fun z => nomatch z)) (ne_of hb a1 (fun z => nomatch z))
      have pe : p ≠ t.le := ne_of hp a1 (fun z => nomatch z)
      have hp2 := keep2 _ _ hp dp pe
      have nd3 : ND P w H2 t.d (xs ++ [(ekey den n, a, V.int (den.length : Nat))]) := nd2.keep (show upd H1 t.le _ t.d = H1 t.d from upd_ne de.symm) (fun b ys hb => by show upd H1 t.le _ b = _; rw [upd_ne (ne_of hb a11 (fun z => nomatch z))]; exact hb)
      refine ⟨_, rfl, p, dx, flds t, rfl, hp2, flds_no t (by decide +kernel) (by decide +kernel) (by decide +kernel) (by decide +kernel), _, rfl, p, dx, a, t, den, n, rfl, hp2, codes.keep (fun o ho => keep2 _ _ ho dc n1.symm) tup2, sizes.keep (fun o ho => keep2 _ _ ho ds n2.symm), n3, hk, NK.keep tup2 _ _ nk, wf, hl, by omega, fun H3 kp3 codes3 sizes3 => ?_⟩
      have tup3 : Tups H2 H3 := fun b ys hb => by
        have e1 : b ≠ t.lc := ne_of hb (keep2 _ _ c1 dc n1.symm) (fun z => nomatch z)
        have e2 : b ≠ t.ls := ne_of hb (keep2 _ _ z1 ds n2.symm) (fun z => nomatch z)
        exact kp3 b _ hb e1 e2
      have kids2 : ∀ m ∈ den ++ [n], ∀ c ∈ m.kids, c ∈ den := by
        intro m hm c hc
        rcases List.mem_append.mp hm with z | z
        · exact tbl.kid z hc
        · have : m = n := by simpa using z
          subst this; exact hk c hc
      have pc : p ≠ t.lc := ne_of hp c1 (fun z => nomatch z)
      have ps : p ≠ t.ls := ne_of hp z1 (fun z => nomatch z)
      refine ⟨_, rfl, ?_⟩
      have e0 : idx (den ++ [n]) n = den.length := idx_new hn
      have := q H3 [n] ⟨⟨dx, kp3 _ _ hp2 pc ps⟩, ⟨_, nd3.keep (by rw [kp3 _ _ nd3.here dc.symm ds.symm, nd3.here]) tup3, ?_, ?_⟩, ⟨as ++ [a], ?_, by simp [a2], ?_⟩, codes3, sizes3, n1, n2, n3, tbl.snoc hn hk, ?_⟩ (by simp) (by simp) ?_
      · rw [e0] at this; exact this
      · rw [List.map_append, List.map_append, x1]
        congr 1
        · exact List.map_congr_left fun m hm => (ekey_append [n] fun c hc => tbl.kid hm hc).symm
        · show [ekey den n] = [ekey (den ++ [n]) n]
          rw [ekey_append [n] hk]
      · rw [List.map_append, x2, List.length_append, List.length_singleton, List.range_succ, nI_append]; rfl
      · rw [List.map_append]
        exact kp3 _ _ (show upd H1 t.le _ t.le = _ from upd_same) n1 n2
      · intro i b m hb hm
        by_cases hi : i < den.length
        · rw [List.getElem?_append_left (by omega)] at hb
          rw [List.getElem?_append_left hi] at hm
          have hm' := List.mem_of_getElem? hm
          rw [ekey_append [n] fun c hc => tbl.kid hm' hc]
          exact NK.keep tup3 _ _ (NK.keep tup2 _ _ (a3 i b m hb hm))
        · have hz := (List.getElem?_eq_some_iff.mp hm).1
          simp at hz
          have ei : i = den.length := by omega
          subst ei
          rw [← a2] at hb
          simp at hb hm
          subst hb; subst hm
          rw [ekey_append [n] hk]
          exact NK.keep tup3 _ _ (NK.keep tup2 _ _ nk)
      · intro m hm
        rcases List.mem_append.mp hm with z | z
        · exact wfs m z
        · have : m = n := by simpa using z
          subst this; exact ⟨wf, hl⟩
      · intro b o hb h1 h2 h3 h4
        exact kp3 b o (keep2 b o hb h1 h2) h3 h4
/-! ### item_number -/
theorem scItem : FnScope ["self", "number", "times"] ["self", "number", "times"] (defScope sTItem) := ⟨rfl, rfl, rfl, by decide +kernel, rfl, by decide +kernel, by decide +kernel⟩
def spItem (P : Program) (w : World) (C : Addr) : Sp := fun vs H Q _ => ∃ (p : Addr) (t : TbA) (den : List Nd) (n : Nd) (kk : Nat), vs = [.ref p, .int (idx den n : Nat), .int (kk : Nat)] ∧ Tab P w C H p t den ∧ n ∈ den ∧ Wf (item (n, kk)) ∧ (code (item (n, kk))).length ≤ 200000 ∧ den.length < 1000000 ∧
  ∀ (H' : Hp) (ms : List Nd), Tab P w C H' p t (den ++ ms) → item (n, kk) ∈ den ++ ms → ms.length ≤ 1 → KeepT t H H' → Q (.int (idx (den ++ ms) (item (n, kk)) : Nat)) H'
theorem ok_item {f fN : Addr} {fd fdN : FuncData} {k : Nat} (F : Fun K "item_number" "NodeTable.item_number" sTItem f fd) (FN : Fun K "number_of" "NodeTable.number_of" sTNum fN fdN) (bN : Binds K fdN ["self", "entry"] []) (mN : Meth K C "number_of" fN) (Z : Env K mg C fM fC fD fR fB fdM fdC fdD fdR fdB) :
    FnOk P w K mg base CX0 (k + 6) f fd ["self", "number", "times"] (spItem P w C) := by
  have GN : FnOk P w K mg base CX0 (k + 5) fN fdN ["self", "entry"] (spNum P w C) := ok_number FN Z
  refine F.ok scItem (fun vs H Q E h => ?_) (fun cdv A outer s H vs Q E hr h => ?_)
  · obtain ⟨p, t, den, n, kk, rfl, _⟩ := h
    rfl
  · obtain ⟨p, t, den, n, kk, rfl, TA, hn, wf, hl, hdl, q⟩ := h
    refine ⟨_, pss_cons (ps_if (pt_cmpR op_eq (pv 2) pe_int (nomark _)) (pss_one (ps_ret (pv 1))) pss_nil)
      (pss_one (ps_ret (pe_meth (pv 0) Z.TC.cl mN GN hr bN .nil pass0 (pa_cons (pe_tup (pa_cons pe_str (pa_cons (pv 1) (pa_cons (pv 2) pa_nil)))) pa_nil)))), ?_⟩
    refine ⟨_, rfl, rfl, _, rfl, ?_⟩
    refine ite2 (fun hk1 => ?_) (fun hk1 => ?_)
    · have hk1 : kk = 1 := by
        have := V.int.inj (of_decide_eq_true hk1)
        omega
      subst hk1
      have := q H [] (by rw [List.append_nil]; exact TA) (by rw [List.append_nil]; exact hn) (by simp) (KeepT.refl t H)
      rw [List.append_nil] at this
      exact ⟨_, rfl, this⟩
    · have hk1 : kk ≠ 1 := fun z => hk1 (decide_eq_true (by rw [z]; rfl))
      have ei : item (n, kk) = .run n kk := by unfold item; rw [if_neg hk1]
      rw [ei] at wf hl q
      obtain ⟨dx, hp⟩ := TA.ob
      refine ⟨_, rfl, p, dx, flds t, rfl, hp, flds_no t (by decide +kernel) (by decide +kernel) (by decide +kernel) (by decide +kernel), _, rfl, _, rfl, by show 3 ≤ sizeLine; decide, fun a na => ?_⟩
      have sm := same_upd (o := HO.tup [.str "run", .int (idx den n : Nat), .int (kk : Nat)]) na
      refine ⟨p, a, t, den, .run n kk, rfl, TA.same sm, fun c hc => ?_, nk_of_run upd_same, wf, hl, hdl, fun H' ms T' hm hms kp => ?_⟩
      · have : c = n := by simpa [Nd.kids] using hc
        subst this; exact hn
      · exact q H' ms T' hm hms ((KeepT.of sm).trans kp)
/-! ### __init__ -/
theorem scTInit : FnScope ["self"] ["self"] (defScope sTInit) := ⟨rfl, rfl, rfl, by decide +kernel, rfl, by decide +kernel, by decide +kernel⟩
def spTInit (P : Program) (w : World) (C : Addr) : Sp := fun vs H Q _ => ∃ (p dx : Addr), vs = [.ref p] ∧ H p = some (.ins C dx []) ∧ ∀ (t : TbA) (H' : Hp), Tab P w C H' p t [] → (∀ b o, H b = some o → b ≠ p → H' b = some o ∧ b ≠ t.d ∧ b ≠ t.le ∧ b ≠ t.lc ∧ b ≠ t.ls) → Q .non H'
theorem put_flds (t : TbA) : putF "sizes" (.ref t.ls) (putF "codes" (.ref t.lc) (putF "entries" (.ref t.le) (putF "numbers" (.ref t.d) []))) = flds t := by
  have e1 : ¬ (("numbers" : Str) = "entries") := by decide +kernel
  have e2 : ¬ (("numbers" : Str) = "codes") := by decide +kernel
  have e3 : ¬ (("entries" : Str) = "codes") := by decide +kernel
  have e4 : ¬ (("numbers" : Str) = "sizes") := by decide +kernel
  have e5 : ¬ (("entries" : Str) = "sizes") := by decide +kernel
  have e6 : ¬ (("codes" : Str) = "sizes") := by decide +kernel
  have nil : ∀ (f : Str) (v : V), putF f v [] = [(f, v)] := fun _ _ => rfl
  have ne : ∀ (f g : Str) (v x : V) (r : List (Str × V)), ¬ g = f → putF f v ((g, x) :: r) = (g, x) :: putF f v r := fun f g v x r h => if_neg h
  rw [nil, ne _ _ _ _ _ e1, nil, ne _ _ _ _ _ e2, ne _ _ _ _ _ e3, nil, ne _ _ _ _ _ e4, ne _ _ _ _ _ e5, ne _ _ _ _ _ e6, nil]
  rfl
theorem ok_tinit {f : Addr} {fd : FuncData} {k : Nat} (F : Fun K "__init__" "NodeTable.__init__" sTInit f fd) (TC : TxtC K C) : FnOk P w K mg base CX0 (k + 1) f fd ["self"] (spTInit P w C) := by
  refine F.ok scTInit (fun vs H Q E h => ?_) (fun cdv A outer s H vs Q E hr h => ?_)
  · obtain ⟨p, dx, rfl, _⟩ := h
    rfl
  · obtain ⟨p, dx, rfl, hp, q⟩ := h
    refine ⟨_, pss_cons (ps_fld (pv 0) pe_nnew rfl) (pss_cons (ps_fld (pv 0) (pe_lst pa_nil) rfl) (pss_cons (ps_fld (pv 0) (pe_lst pa_nil) rfl) (pss_one (ps_fld (pv 0) (pe_lst pa_nil) rfl)))), ?_⟩
    intro d nd low
    have npd : p ≠ d := ne_of_none hp nd
    refine ⟨_, rfl, p, C, dx, _, rfl, by rw [upd_ne npd]; exact hp, TC.cl, TC.nN, (by show 0 < 1000; decide), ?_⟩
    refine ⟨Nat.zero_le _, fun le nle => ?_⟩
    have npe : p ≠ le := ne_of_none upd_same nle
    have nde : d ≠ le := by
      refine ne_of_none (o := NO P w d []) ?_ nle
      rw [upd_ne npd.symm, upd_same]; rfl
    refine ⟨_, rfl, p, C, dx, _, rfl, by rw [upd_ne npe, upd_same], TC.cl, TC.nE, (by show 1 < 1000; decide), ?_⟩
    refine ⟨Nat.zero_le _, fun lc nlc => ?_⟩
    have npc : p ≠ lc := ne_of_none upd_same nlc
    have ndc : d ≠ lc := by
      refine ne_of_none (o := NO P w d []) ?_ nlc
      rw [upd_ne npd.symm, upd_ne nde, upd_ne npd.symm, upd_same]; rfl
    have nec : le ≠ lc := by
      refine ne_of_none (o := .lst []) ?_ nlc
      rw [upd_ne npe.symm, upd_same]
    refine ⟨_, rfl, p, C, dx, _, rfl, by rw [upd_ne npc, upd_same], TC.cl, TC.nC, (by exact Nat.lt_of_le_of_lt (Nat.le_of_eq rfl) (by decide : 2 < 1000)), ?_⟩
    refine ⟨Nat.zero_le _, fun ls nls => ?_⟩
    have nps : p ≠ ls := ne_of_none upd_same nls
    have nds : d ≠ ls := by
      refine ne_of_none (o := NO P w d []) ?_ nls
      rw [upd_ne npd.symm, upd_ne ndc, upd_ne npd.symm, upd_ne nde, upd_ne npd.symm, upd_same]; rfl
    have nes : le ≠ ls := by
      refine ne_of_none (o := .lst []) ?_ nls
      rw [upd_ne npe.symm, upd_ne nec, upd_ne npe.symm, upd_same]
    have ncs : lc ≠ ls := by
      refine ne_of_none (o := .lst []) ?_ nls
      rw [upd_ne npc.symm, upd_same]
    refine ⟨_, rfl, p, C, dx, _, rfl, by rw [upd_ne nps, upd_same], TC.cl, TC.nS, (by exact Nat.lt_of_le_of_lt (Nat.le_of_eq rfl) (by decide : 3 < 1000)), ?_⟩
    refine q ⟨d, le, lc, ls⟩ _ ⟨⟨dx, ?_⟩, ⟨[], ⟨?_, Nat.zero_le _, low, by simp⟩, rfl, rfl⟩, ⟨[], ?_, rfl, by simp⟩, ⟨[], ?_, rfl, by simp⟩, ⟨[], ?_, rfl⟩, nec, nes, ncs, Tbl.nil, by simp⟩ fun b o hb hne => ?_
    · rw [upd_same, put_flds ⟨d, le, lc, ls⟩]
    · rw [upd_ne npd.symm, upd_ne nds, upd_ne npd.symm, upd_ne ndc, upd_ne npd.symm, upd_ne nde, upd_ne npd.symm, upd_same]; rfl
    · rw [upd_ne npe.symm, upd_ne nes, upd_ne npe.symm, upd_ne nec, upd_ne npe.symm, upd_same]; rfl
    · rw [upd_ne npc.symm, upd_ne ncs, upd_ne npc.symm, upd_same]; rfl
    · rw [upd_ne nps.symm, upd_same]; rfl
    · have h1 := ne_of_none hb nd
      have hb1 : (upd (upd H d (NO P w d [])) p (.ins C dx (putF "numbers" (.ref d) []))) b = some o := by rw [upd_ne hne, upd_ne h1]; exact hb
      have h2 := ne_of_none hb1 nle
      have hb2 := hb1
      rw [← upd_ne (H := upd (upd H d (NO P w d [])) p (.ins C dx (putF "numbers" (.ref d) []))) (o := HO.lst []) h2] at hb2
      have hb3 : (upd (upd (upd (upd H d (NO P w d [])) p (.ins C dx (putF "numbers" (.ref d) []))) le (.lst [])) p (.ins C dx (putF "entries" (.ref le) (putF "numbers" (.ref d) [])))) b = some o := by rw [upd_ne hne]; exact hb2
      have h3 := ne_of_none hb3 nlc
      have hb4 : (upd (upd (upd (upd (upd (upd H d (NO P w d [])) p (.ins C dx (putF "numbers" (.ref d) []))) le (.lst [])) p (.ins C dx (putF "entries" (.ref le) (putF "numbers" (.ref d) [])))) lc (.lst [])) p (.ins C dx (putF "codes" (.ref lc) (putF "entries" (.ref le) (putF "numbers" (.ref d) []))))) b = some o := by
        rw [upd_ne hne, upd_ne h3]; exact hb3
      have h4 := ne_of_none hb4 nls
      exact ⟨by rw [upd_ne hne, upd_ne h4]; exact hb4, h1, h2, h3, h4⟩
end
end Sh

namespace Sh
open PySem PySem.Spec PyProof.Rows L2
abbrev sListNodes : Stmt := topS 23
/-- a statement with what holds behind it -/
def tMid (t u : TS) : TS := fun D σ H => ∃ Mid : L2.St → Hp → Prop, t { D with nx := Mid } σ H ∧ ∀ σ' H', Mid σ' H' → u D σ' H'
theorem pss_mid {X : Cx} {st : Stmt} {rest : List Stmt} {t u : TS} (h1 : PS X st t) (h2 : PSs X rest u) : PSs X (st :: rest) (tMid t u) := by
  refine ⟨fun pins s σ H D I ⟨Mid, h, k⟩ => ?_⟩
  refine wpAny_execs_cons (thn (h1.run pins s σ H { D with nx := Mid } I h) fun f s1 q => ?_)
  cases f with
  | next =>
    obtain ⟨σ', H', I', q⟩ := q
    exact h2.run pins s1 σ' H' D I' (k _ _ q)
  | ret v => exact q
  | brk => exact q
  | cont => exact q
theorem sub_deep {m n : Nd} (h : Sub m n) : deep m ≤ deep n := by
  induction h with
  | refl => exact Nat.le_refl _
  | run k h ih => rw [deep]; omega
  | block hc h ih =>
    rw [deep]
    have := (deepL_le _ (deepL _)).mp (Nat.le_refl _) _ hc
    omega
/-- places: a dict of the numbers of nodes and their places -/
noncomputable def plK (den pl : List Nd) : List (Key × V) := pl.zipIdx.map fun x => (Sum.inl (idx den x.1 : Nat), V.int (x.2 : Nat))
theorem plK_len (den pl : List Nd) : (plK den pl).length = pl.length := by simp [plK]
theorem plK_snoc (den pl : List Nd) (n : Nd) : plK den (pl ++ [n]) = plK den pl ++ [((Sum.inl ((idx den n : Nat) : Int) : Key), V.int (pl.length : Nat))] := by
  unfold plK
  rw [List.zipIdx_append, List.map_append]
  simp
theorem valV_append {κ : Type} [DecidableEq κ] (kvs ls : List (κ × V)) (k : κ) : valV (kvs ++ ls) k = (valV kvs k).or (valV ls k) := by
  unfold valV
  rw [List.find?_append, Option.map_or]
theorem plK_at (den : List Nd) : ∀ (pl : List Nd), (∀ m ∈ pl, m ∈ den) → pl.Nodup → ∀ n ∈ den, valV (plK den pl) (Sum.inl (idx den n : Nat)) = if n ∈ pl then some (V.int (idx pl n : Nat)) else none := by
  have key : ∀ (r : List Nd) (pl : List Nd), r.reverse = pl → (∀ m ∈ pl, m ∈ den) → pl.Nodup → ∀ n ∈ den, valV (plK den pl) (Sum.inl (idx den n : Nat)) = if n ∈ pl then some (V.int (idx pl n : Nat)) else none := by
    intro r
    induction r with
    | nil => rintro pl rfl _ _ n hn; rfl
    | cons m r ih =>
      rintro pl rfl hs nd n hn
      rw [List.reverse_cons] at hs nd ⊢
      have nd' := List.nodup_append.mp nd
      rw [plK_snoc, valV_append, ih r.reverse rfl (fun x hx => hs x (List.mem_append_left _ hx)) nd'.1 n hn]
      have hm : m ∈ den := hs m (by simp)
      have hmr : m ∉ r.reverse := fun z => nd'.2.2 m z m (by simp) rfl
      by_cases h1 : n ∈ r.reverse
      · rw [if_pos h1, if_pos (List.mem_append_left _ h1), idx_append _ h1]; rfl
      · rw [if_neg h1]
        by_cases h2 : n = m
        · subst h2
          rw [if_pos (by simp), idx_new hmr]
          simp [valV, List.find?_cons]
        · have h3 : ¬ (Sum.inl ((idx den m : Nat) : Int) : Key) = Sum.inl ((idx den n : Nat) : Int) := by
            intro e
            injection e with e
            exact h2 (idx_inj hm hn (by omega)).symm
          rw [if_neg (by
            intro z
            rcases List.mem_append.mp z with z | z
            · exact h1 z
            · exact h2 (by simpa using z))]
          simp only [valV, List.find?_cons, decide_eq_false h3]
          rfl
  exact fun pl => key pl.reverse pl (by simp)
section
variable {P : Program} {w : World} {K : PySem.W.Frag} {mg : Str → Option Value} {base : Heap} {C : Addr}
theorem scListNodes : FnScope ["table", "root", "places", "entry", "child"] ["table", "root", "places"] (defScope sListNodes) := ⟨rfl, rfl, rfl, by decide +kernel, rfl, by decide +kernel, by decide +kernel⟩
def spListNodes (P : Program) (w : World) (C : Addr) (d : Nat) : Sp := fun vs H Q _ => ∃ (p q : Addr) (t : TbA) (den pl : List Nd) (n : Nd), vs = [.ref p, .int (idx den n : Nat), .ref q] ∧ Tab P w C H p t den ∧ H q = some (.dK (plK den pl)) ∧ n ∈ den ∧ Tbl pl ∧ (∀ m ∈ pl, m ∈ den) ∧ deep n ≤ d ∧ den.length ≤ 1000000 ∧
  ∀ (H' : Hp) (ms : List Nd), H' q = some (.dK (plK den (pl ++ ms))) → Tbl (pl ++ ms) → (∀ m, m ∈ pl ++ ms ↔ m ∈ pl ∨ Sub m n) → (∀ m ∈ pl ++ ms, m ∈ den) → (∀ b o, H b = some o → b ≠ q → H' b = some o) → Q .non H'
theorem tbl_sub {pl : List Nd} (t : Tbl pl) {m n : Nd} (h : Sub m n) : n ∈ pl → m ∈ pl := by
  induction h with
  | refl => exact fun h => h
  | run k h ih => exact fun hn => ih (t.kid hn (by simp [Nd.kids]))
  | block hc h ih => exact fun hn => ih (t.kid hn hc)
theorem nodup_len {pl den : List Nd} (t : Tbl pl) (h : ∀ m ∈ pl, m ∈ den) : pl.length ≤ den.length := nodup_subset pl den t.nd h
theorem ok_listNodes {f : Addr} {fd : FuncData} (F : Fun K "list_nodes" "list_nodes" sListNodes f fd) (b : Binds K fd ["table", "root", "places"] []) (g : mg "list_nodes" = some (.ref f)) (TC : TxtC K C) (T : Txt mg) : ∀ d : Nat, FnOk P w K mg base CX0 (d + 1) f fd ["table", "root", "places"] (spListNodes P w C d) := by
  intro d
  induction d with
  | zero =>
    refine F.ok scListNodes (fun vs H Q E h => ?_) (fun cdv A outer s H vs Q E hr h => ?_)
    · obtain ⟨p, q, t, den, pl, n, rfl, _⟩ := h
      rfl
    · obtain ⟨p, q, t, den, pl, n, rfl, TA, hq, hn, tp, hs, hd, hdl, k⟩ := h
      have hu := hu_of hr
      refine ⟨_, pss_cons (ps_if (pt_cmp (pc_din hu (pv 1) (pv 2))) (pss_one ps_retN) pss_nil)
        (pss_cons (ps_set (i := 3) scListNodes.nd rfl (.inl rfl) (pe_ix ix_list (pe_fld (pv 0) rfl) (pv 1) (fun _ _ => rfl)))
        (pss_cons (ps_if (pt_cmpR op_eq (pe_ix ix_tup (pv 3) pe_int (fun _ _ => rfl)) pe_str (nomark _)) pss_never
            (pss_one (ps_if (pt_cmpR op_eq (pe_ix ix_tup (pv 3) pe_int (fun _ _ => rfl)) pe_str (nomark _)) pss_never pss_nil)))
        (pss_one (ps_dput hu (pv 2) (pv 1) (pe_callB call_lenD (by rfl) T.len PySem.boot_len (pa_cons (pv 2) pa_nil)) rfl)))), ?_⟩
      have hat := plK_at den pl hs tp.nd n hn
      refine ⟨_, rfl, _, rfl, q, _, rfl, DGet.k (k := Sum.inl (idx den n : Nat)) hq, _, rfl, ?_⟩
      rw [hat]
      by_cases hnp : n ∈ pl
      · rw [if_pos hnp]
        refine iteT ?_
        exact k H [] (by rw [List.append_nil]; exact hq) (by rw [List.append_nil]; exact tp) (fun m => by
          rw [List.append_nil]
          exact ⟨.inl, fun z => z.elim (fun z => z) (fun z => tbl_sub tp z hnp)⟩) (by rw [List.append_nil]; exact hs) (fun _ _ h _ => h)
      · rw [if_neg hnp]
        refine iteF ?_
        obtain ⟨dx, hp⟩ := id TA.ob
        obtain ⟨as, a1, a2, a3⟩ := id TA.ents
        obtain ⟨ea, hea⟩ : ∃ a, as[idx den n]? = some a := ⟨_, List.getElem?_eq_getElem (by have := idx_lt hn; omega)⟩
        have nk := a3 _ _ _ hea (idx_get hn)
        cases n with
        | run c kk => rw [deep] at hd; omega
        | block cs => rw [deep] at hd; omega
        | leaf e =>
          obtain ⟨v, ha, hv⟩ := nk_leaf nk
          refine ⟨_, rfl, p, C, dx, _, _, rfl, hp, TC.cl, TC.nE, lookup_entries t, _, rfl, t.le, _, _, .ref ea, rfl, rfl, SqL.of a1, atI_nat (by rw [List.getElem?_map, hea]; rfl), ?_⟩
          refine ⟨_, rfl, ea, _, 0, _, rfl, rfl, SqT.of ha, atI_nat (j := 0) rfl, rfl, _, rfl, ?_⟩
          refine ite2 (fun z => absurd (V.str.inj (of_decide_eq_true z)) leaf_run) (fun _ => ?_)
          refine ⟨_, rfl, ea, _, 0, _, rfl, rfl, SqT.of ha, atI_nat (j := 0) rfl, rfl, _, rfl, ?_⟩
          refine ite2 (fun z => absurd (V.str.inj (of_decide_eq_true z)) leaf_block) (fun _ => ?_)
          have hpl := nodup_len tp hs
          refine ⟨_, rfl, q, _, rfl, hq, _, rfl, _, rfl, q, _, rfl, DPut.k (k := Sum.inl (idx den (.leaf e) : Nat)) hq (by rw [plK_len]; exact line_lt (by omega)), ?_⟩
          have hmem : ∀ m, m ∈ pl ++ [Nd.leaf e] ↔ m ∈ pl ∨ Sub m (.leaf e) := fun m => by
            constructor
            · intro z
              rcases List.mem_append.mp z with z | z
              · exact .inl z
              · have : m = .leaf e := by simpa using z
                subst this; exact .inr (.refl _)
            · rintro (z | z)
              · exact List.mem_append_left _ z
              · cases z; simp
          refine k _ [.leaf e] ?_ (tp.snoc hnp (fun c hc => nomatch hc)) hmem ?_ (fun bb o hb hne => by rw [upd_ne hne]; exact hb)
          · rw [upd_same, putK_new _ (by rw [hat, if_neg hnp]), plK_snoc, plK_len]
          · intro m hm
            rcases List.mem_append.mp hm with z | z
            · exact hs m z
            · have : m = .leaf e := by simpa using z
              subst this; exact hn
  | succ d ih =>
    refine F.ok scListNodes (fun vs H Q E h => ?_) (fun cdv A outer s H vs Q E hr h => ?_)
    · obtain ⟨p, q, t, den, pl, n, rfl, _⟩ := h
      rfl
    · obtain ⟨p, q, t, den, pl, n, rfl, TA, hq, hn, tp, hs, hd, hdl, k⟩ := h
      have hu := hu_of hr
      refine ⟨_, pss_cons (ps_if (pt_cmp (pc_din hu (pv 1) (pv 2))) (pss_one ps_retN) pss_nil)
        (pss_cons (ps_set (i := 3) scListNodes.nd rfl (.inl rfl) (pe_ix ix_list (pe_fld (pv 0) rfl) (pv 1) (fun _ _ => rfl)))
        (pss_mid (ps_if (pt_cmpR op_eq (pe_ix ix_tup (pv 3) pe_int (fun _ _ => rfl)) pe_str (nomark _))
            (pss_one (ps_expr (pe_call ih hr (by rfl) g F.kp b .nil pass0 (pa_cons (pv 0) (pa_cons (pe_ix ix_tup (pv 3) pe_int (fun _ _ => rfl)) (pa_cons (pv 2) pa_nil))))))
            (pss_one (ps_if (pt_cmpR op_eq (pe_ix ix_tup (pv 3) pe_int (fun _ _ => rfl)) pe_str (nomark _))
              (pss_one (ps_for PassesOwn.never rfl (pi_tup (pe_ix ix_tup (pv 3) pe_int (fun _ _ => rfl))) (pg_name (i := 4) scListNodes.nd rfl (.inl rfl))
                (pss_one (ps_expr (pe_call ih hr (by rfl) g F.kp b .nil pass0 (pa_cons (pv 0) (pa_cons (pv 4) (pa_cons (pv 2) pa_nil)))))))) pss_nil)))
        (pss_one (ps_dput hu (pv 2) (pv 1) (pe_callB call_lenD (by rfl) T.len PySem.boot_len (pa_cons (pv 2) pa_nil)) rfl)))), ?_⟩
      have hat := plK_at den pl hs tp.nd n hn
      refine ⟨_, rfl, _, rfl, q, _, rfl, DGet.k (k := Sum.inl (idx den n : Nat)) hq, _, rfl, ?_⟩
      rw [hat]
      by_cases hnp : n ∈ pl
      · rw [if_pos hnp]
        refine iteT ?_
        exact k H [] (by rw [List.append_nil]; exact hq) (by rw [List.append_nil]; exact tp) (fun m => by
          rw [List.append_nil]
          exact ⟨.inl, fun z => z.elim (fun z => z) (fun z => tbl_sub tp z hnp)⟩) (by rw [List.append_nil]; exact hs) (fun _ _ h _ => h)
      · rw [if_neg hnp]
        refine iteF ?_
        obtain ⟨dx, hp⟩ := id TA.ob
        obtain ⟨as, a1, a2, a3⟩ := id TA.ents
        obtain ⟨ea, hea⟩ : ∃ a, as[idx den n]? = some a := ⟨_, List.getElem?_eq_getElem (by have := idx_lt hn; omega)⟩
        have nk := a3 _ _ _ hea (idx_get hn)
        refine ⟨_, rfl, p, C, dx, _, _, rfl, hp, TC.cl, TC.nE, lookup_entries t, _, rfl, t.le, _, _, .ref ea, rfl, rfl, SqL.of a1, atI_nat (by rw [List.getElem?_map, hea]; rfl), ?_⟩
        -- behind the kids
        refine ⟨fun σ' H' => ∃ (ms : List Nd) (y : Option V), σ' = [some (.ref p), some (.int (idx den n : Nat)), some (.ref q), some (.ref ea), y] ∧ H' q = some (.dK (plK den (pl ++ ms))) ∧ Tbl (pl ++ ms) ∧ (∀ m, m ∈ pl ++ ms ↔ m ∈ pl ∨ ∃ c ∈ n.kids, Sub m c) ∧ (∀ m ∈ pl ++ ms, m ∈ den) ∧ (∀ b o, H b = some o → b ≠ q → H' b = some o), ?_, ?_⟩
        · cases n with
          | leaf e =>
            obtain ⟨v, ha, hv⟩ := nk_leaf nk
            refine ⟨_, rfl, ea, _, 0, _, rfl, rfl, SqT.of ha, atI_nat (j := 0) rfl, rfl, _, rfl, ?_⟩
            refine ite2 (fun z => absurd (V.str.inj (of_decide_eq_true z)) leaf_run) (fun _ => ?_)
            refine ⟨_, rfl, ea, _, 0, _, rfl, rfl, SqT.of ha, atI_nat (j := 0) rfl, rfl, _, rfl, ?_⟩
            refine ite2 (fun z => absurd (V.str.inj (of_decide_eq_true z)) leaf_block) (fun _ => ?_)
            exact ⟨[], none, rfl, by rw [List.append_nil]; exact hq, by rw [List.append_nil]; exact tp, fun m => by rw [List.append_nil]; exact ⟨.inl, fun z => z.elim (fun z => z) (fun ⟨c, hc, _⟩ => nomatch hc)⟩, by rw [List.append_nil]; exact hs, fun _ _ h _ => h⟩
          | run c kk =>
            have ha := nk_run nk
            have hc : c ∈ den := TA.tbl.kid hn (by simp [Nd.kids])
            refine ⟨_, rfl, ea, _, 0, _, rfl, rfl, SqT.of ha, atI_nat (j := 0) rfl, rfl, _, rfl, ?_⟩
            refine ite2 (fun _ => ?_) (fun z => absurd (decide_eq_true rfl) z)
            have hdc : deep c ≤ d := by rw [deep] at hd; omega
            refine ⟨_, rfl, _, rfl, ea, _, 1, _, rfl, rfl, SqT.of ha, atI_nat (j := 1) rfl, _, rfl, p, q, t, den, pl, c, rfl, TA, hq, hc, tp, hs, hdc, hdl, fun H' ms h1 h2 h3 h4 h5 => ?_⟩
            refine ⟨ms, none, rfl, h1, h2, fun m => ?_, h4, h5⟩
            rw [h3]
            constructor
            · rintro (z | z)
              · exact .inl z
              · exact .inr ⟨c, by simp [Nd.kids], z⟩
            · rintro (z | ⟨c', hc', z⟩)
              · exact .inl z
              · have : c' = c := by simpa [Nd.kids] using hc'
                subst this; exact .inr z
          | block cs =>
            obtain ⟨bb, ha, hb⟩ := nk_block nk
            refine ⟨_, rfl, ea, _, 0, _, rfl, rfl, SqT.of ha, atI_nat (j := 0) rfl, rfl, _, rfl, ?_⟩
            refine ite2 (fun z => absurd (V.str.inj (of_decide_eq_true z)) block_run) (fun _ => ?_)
            refine ⟨_, rfl, ea, _, 0, _, rfl, rfl, SqT.of ha, atI_nat (j := 0) rfl, rfl, _, rfl, ?_⟩
            refine ite2 (fun _ => ?_) (fun z => absurd (decide_eq_true rfl) z)
            refine ⟨_, rfl, ea, _, 1, _, rfl, rfl, SqT.of ha, atI_nat (j := 1) rfl, bb, rfl, ⟨_, SqT.of hb⟩, ?_⟩
            have hqb : bb ≠ q := ne_of hb hq (fun z => nomatch z)
            refine for_tup (K := K) (a := bb) (xs := nI (cs.map (idx den))) (fun i σ' H' => ∃ (ms : List Nd) (y : Option V), σ' = [some (.ref p), some (.int (idx den (.block cs) : Nat)), some (.ref q), some (.ref ea), y] ∧ H' q = some (.dK (plK den (pl ++ ms))) ∧ Tbl (pl ++ ms) ∧ (∀ m, m ∈ pl ++ ms ↔ m ∈ pl ∨ ∃ c ∈ cs.take i, Sub m c) ∧ (∀ m ∈ pl ++ ms, m ∈ den) ∧ (∀ b o, H b = some o → b ≠ q → H' b = some o))
              ⟨[], none, rfl, by rw [List.append_nil]; exact hq, by rw [List.append_nil]; exact tp, fun m => by rw [List.append_nil]; exact ⟨.inl, fun z => z.elim (fun z => z) (fun ⟨c, hc, _⟩ => by simp at hc)⟩, by rw [List.append_nil]; exact hs, fun _ _ h _ => h⟩ ?_ ?_ ?_
            · rintro i σ' H' _ ⟨ms, y, _, _, _, _, _, kp⟩
              exact SqT.of (kp _ _ hb hqb)
            · rintro i x σ' H' hx ⟨ms, y, rfl, hq', tp', hm', hs', kp⟩
              unfold nI at hx
              rw [List.map_map, List.getElem?_map] at hx
              obtain ⟨c, ec, rfl⟩ := Option.map_eq_some_iff.mp hx
              have hck := List.mem_of_getElem? ec
              have hc : c ∈ den := TA.tbl.kid hn hck
              have hdc : deep c ≤ d := by
                have := kids_deep (n := .block cs) (c := c) hck
                omega
              have TA' : Tab P w C H' p t den := by
                have e0 : p ≠ q := ne_of hp hq (fun z => nomatch z)
                obtain ⟨xs, n0, _⟩ := id TA.nums
                obtain ⟨cs0, c1, _⟩ := id TA.codes
                obtain ⟨zs, z1, _⟩ := id TA.sizes
                exact TA.keep (fun o ho => kp _ _ ho e0) (fun o ho => kp _ _ ho (ne_of n0.here hq (fun z => nomatch z))) (fun o ho => kp _ _ ho (ne_of a1 hq (fun z => nomatch z))) (fun o ho => kp _ _ ho (ne_of c1 hq (fun z => nomatch z))) (fun o ho => kp _ _ ho (ne_of z1 hq (fun z => nomatch z))) (fun a ys ho => kp _ _ ho (ne_of ho hq (fun z => nomatch z)))
              refine ⟨_, rfl, _, rfl, _, rfl, p, q, t, den, pl ++ ms, c, rfl, TA', hq', hc, tp', hs', hdc, hdl, fun H2 ms2 h1 h2 h3 h4 h5 => ?_⟩
              rw [List.append_assoc] at h1 h2 h3 h4
              refine ⟨ms ++ ms2, some (.int (idx den c : Nat)), rfl, h1, h2, fun m => ?_, h4, fun bb' o hbo hne => h5 _ _ (kp _ _ hbo hne) hne⟩
              rw [h3, hm', List.take_add_one, ec]
              constructor
              · rintro ((z | ⟨c', hc', z⟩) | z)
                · exact .inl z
                · exact .inr ⟨c', by simp [hc'], z⟩
                · exact .inr ⟨c, by simp, z⟩
              · rintro (z | ⟨c', hc', z⟩)
                · exact .inl (.inl z)
                · rcases List.mem_append.mp hc' with y | y
                  · exact .inl (.inr ⟨c', y, z⟩)
                  · have : c' = c := by simpa using y
                    subst this; exact .inr z
            · rintro σ' H' ⟨ms, y, rfl, hq', tp', hm', hs', kp⟩
              rw [nI_len, List.length_map, List.take_length] at hm'
              exact ⟨ms, y, rfl, hq', tp', hm', hs', kp⟩
        · rintro σ' H' ⟨ms, y, rfl, hq', tp', hm', hs', kp⟩
          have hnot : n ∉ pl ++ ms := by
            rw [hm']
            rintro (z | ⟨c, hc, z⟩)
            · exact hnp z
            · have h1 := sub_deep z
              have h2 := kids_deep hc
              omega
          have hpl := nodup_len tp' hs'
          have hat' := plK_at den (pl ++ ms) hs' tp'.nd n hn
          refine ⟨_, rfl, q, _, rfl, hq', _, rfl, _, rfl, q, _, rfl, DPut.k (k := Sum.inl (idx den n : Nat)) hq' (by rw [plK_len]; exact line_lt (by omega)), ?_⟩
          have e := List.append_assoc pl ms [n]
          refine k _ (ms ++ [n]) ?_ ?_ (fun m => ?_) ?_ (fun bb o hb hne => by rw [upd_ne hne]; exact kp _ _ hb hne)
          · rw [upd_same, putK_new _ (by rw [hat', if_neg hnot]), ← e, plK_snoc, plK_len]
          · rw [← e]
            exact tp'.snoc hnot (fun c hc => (hm' c).mpr (.inr ⟨c, hc, .refl _⟩))
          · rw [← e]
            constructor
            · intro z
              rcases List.mem_append.mp z with z | z
              · rcases (hm' m).mp z with z | ⟨c, hc, z⟩
                · exact .inl z
                · exact .inr (z.kid hc)
              · have : m = n := by simpa using z
                subst this; exact .inr (.refl _)
            · rintro (z | z)
              · exact List.mem_append_left _ (List.mem_append_left _ z)
              · rcases z.cases' with z | ⟨c, hc, z⟩
                · subst z; simp
                · exact List.mem_append_left _ ((hm' m).mpr (.inr ⟨c, hc, z⟩))
          · rw [← e]
            intro m hm
            rcases List.mem_append.mp hm with z | z
            · exact hs' m z
            · have : m = n := by simpa using z
              subst this; exact hn
end
end Sh

namespace Sh
open PySem PySem.Spec PyProof.Rows L2
abbrev sLeafRow : Stmt := topS 25
abbrev sItemRow : Stmt := topS 26
abbrev sColorRow : Stmt := topS 27
section
variable (P : Program) (w : World) (K : PySem.W.Frag) (mg : Str → Option Value) (base : Heap)
/-- a def of the module that keeps a promise -/
def FnG (x : Str) (k : Nat) (ps : List Str) (sp : Sp) : Prop := ∃ (f : Addr) (fd : FuncData), mg x = some (.ref f) ∧ PySem.W.keepIn K (.ref f) = true ∧ Binds K fd ps [] ∧ FnOk P w K mg base CX0 k f fd ps sp
/-- a method -/
def MtG (C : Addr) (m : Str) (k : Nat) (ps : List Str) (sp : Sp) : Prop := ∃ (f : Addr) (fd : FuncData), Meth K C m f ∧ Binds K fd ps [] ∧ FnOk P w K mg base CX0 k f fd ps sp
end
section
variable {P : Program} {w : World} {K : PySem.W.Frag} {mg : Str → Option Value} {base : Heap} {C : Addr}
theorem FnG.mono {x : Str} {j k : Nat} {ps : List Str} {sp : Sp} (G : FnG P w K mg base x j ps sp) (h : j ≤ k) : FnG P w K mg base x k ps sp :=
  let ⟨f, fd, g, kp, b, F⟩ := G; ⟨f, fd, g, kp, b, F.mono h⟩
theorem MtG.mono {m : Str} {j k : Nat} {ps : List Str} {sp : Sp} (G : MtG P w K mg base C m j ps sp) (h : j ≤ k) : MtG P w K mg base C m k ps sp :=
  let ⟨f, fd, g, b, F⟩ := G; ⟨f, fd, g, b, F.mono h⟩
/-- numbers of nodes, as values -/
noncomputable def nNs (den ns : List Nd) : List V := nI (ns.map (idx den))
theorem nNs_len (den ns : List Nd) : (nNs den ns).length = ns.length := by rw [nNs, nI_len, List.length_map]
theorem nNs_ext {den ns : List Nd} (ms : List Nd) (h : ∀ n ∈ ns, n ∈ den) : nNs (den ++ ms) ns = nNs den ns := by
  unfold nNs
  rw [List.map_congr_left fun n hn => idx_append ms (h n hn)]
theorem nNs_snoc (den ns : List Nd) (n : Nd) : nNs den (ns ++ [n]) = nNs den ns ++ [.int (idx den n : Nat)] := by
  unfold nNs
  rw [List.map_append, nI_append]; rfl
theorem nNs_get {den ns : List Nd} {i : Nat} {x : V} (h : (nNs den ns)[i]? = some x) : ∃ n, ns[i]? = some n ∧ x = .int (idx den n : Nat) := by
  unfold nNs nI at h
  rw [List.map_map, List.getElem?_map] at h
  obtain ⟨n, e, rfl⟩ := Option.map_eq_some_iff.mp h
  exact ⟨n, e, rfl⟩
theorem tb_ne {H : Hp} {p D : Addr} {t : TbA} {den : List Nd} (TA : Tab P w C H p t den) (hD : H D = none) : D ≠ t.d ∧ D ≠ t.le ∧ D ≠ t.lc ∧ D ≠ t.ls ∧ D ≠ p := TA.free hD
theorem keepT_upd {H H' : Hp} {D : Addr} {t : TbA} {o : HO} (k : KeepT t H H') (hD : H D = none) : KeepT t H (upd H' D o) := fun b u hb h1 h2 h3 h4 => by
  rw [upd_ne (ne_of_none hb hD)]; exact k b u hb h1 h2 h3 h4
/-! ### leaf_row -/
theorem scLeafRow : FnScope ["table", "contents", "element"] ["table", "contents"] (defScope sLeafRow) := ⟨rfl, rfl, rfl, by decide +kernel, rfl, by decide +kernel, by decide +kernel⟩
def spLeafRow (P : Program) (w : World) (K : PySem.W.Frag) (C : Addr) : Sp := fun vs H Q _ => ∃ (p a : Addr) (t : TbA) (den : List Nd) (c : List NestedKey) (xs : List V), vs = [.ref p, .ref a] ∧ Tab P w C H p t den ∧ H a = some (.tup xs) ∧ NKs H c xs ∧ (∀ e ∈ c, OkEl e) ∧ den.length + c.length < 1000000 ∧
  ∀ (H' : Hp) (D : Addr) (ms : List Nd), Tab P w C H' p t (den ++ ms) → H D = none → H' D = some (.lst (nNs (den ++ ms) (c.map Nd.leaf))) → (∀ n ∈ c.map Nd.leaf, n ∈ den ++ ms) → ms.length ≤ c.length → KeepT t H H' → Q (.ref D) H'
theorem ok_leafRow {f : Addr} {fd : FuncData} {k : Nat} (F : Fun K "leaf_row" "leaf_row" sLeafRow f fd) (TC : TxtC K C) (GN : MtG P w K mg base C "number_of" k ["self", "entry"] (spNum P w C)) : FnOk P w K mg base CX0 (k + 1) f fd ["table", "contents"] (spLeafRow P w K C) := by
  obtain ⟨fN, fdN, mN, bN, GN⟩ := GN
  refine F.ok scLeafRow (fun vs H Q E h => ?_) (fun cdv A outer s H vs Q E hr h => ?_)
  · obtain ⟨p, a, t, den, c, xs, rfl, _⟩ := h
    rfl
  · obtain ⟨p, a, t, den, c, xs, rfl, TA, ha, nk, hok, hl, q⟩ := h
    refine ⟨_, pss_one (ps_ret (pe_lc (own := [("element", 2)]) (g := gName 2) (tt := tYes) rfl scLeafRow.nd (pi_tup (pv 1)) (blkOk_by (N := ["table", "contents", "element"]) (sc := defScope sLeafRow) (by decide +kernel))
        (fun _ _ _ _ _ => pg_name (i := 2) scLeafRow.nd rfl (Or.inl rfl)) (fun _ _ _ _ _ => pts_nil) (fun _ _ _ _ _ => pe_meth (pv 0) TC.cl mN GN hr bN .nil pass0 (pa_cons (pe_tup (pa_cons pe_str (pa_cons (pv 2) pa_nil))) pa_nil)))), ?_⟩
    refine ⟨_, rfl, a, rfl, ⟨_, SqT.of ha⟩, fun D nD => ?_⟩
    obtain ⟨d1, d2, d3, d4, d5⟩ := tb_ne TA nD
    have hcl := nk.length
    refine lc_tup (K := K) (a := a) (xs := xs) (fun i H' => ∃ ms : List Nd, Tab P w C H' p t (den ++ ms) ∧ H' D = some (.lst (nNs (den ++ ms) ((c.take i).map Nd.leaf))) ∧ (∀ n ∈ (c.take i).map Nd.leaf, n ∈ den ++ ms) ∧ ms.length ≤ i ∧ KeepT t H H' ∧ H' a = some (.tup xs)) ?_ (fun i H' _ ⟨_, _, _, _, _, _, e⟩ => SqT.of e) ?_ ?_
    · exact ⟨[], by rw [List.append_nil]; exact TA.same (same_upd nD), by rw [upd_same]; rfl, by simp, by simp, KeepT.of (same_upd nD), same_upd nD _ _ ha⟩
    · rintro i x H1 hx ⟨ms, T1, hD, hin, hms, kp, ha1⟩
      have tu : Tups H H1 := kp.tups TA
      obtain ⟨e, ee, nke⟩ := (NKs.keep tu _ _ nk).get hx
      have hil : i < c.length := (List.getElem?_eq_some_iff.mp ee).1
      have hoe := hok e (List.mem_of_getElem? ee)
      obtain ⟨dx, hp⟩ := T1.ob
      refine ⟨rfl, _, rfl, p, dx, flds t, rfl, hp, flds_no t (by decide +kernel) (by decide +kernel) (by decide +kernel) (by decide +kernel), _, rfl, by show 2 ≤ sizeLine; decide, fun ea nea => ?_⟩
      have sm := same_upd (o := HO.tup [.str "leaf", x]) nea
      have wf : Wf (.leaf e) := by rw [Wf]; exact hoe
      have hcode : (code (.leaf e)).length ≤ 200000 := by rw [code]; have := el_len hoe; omega
      refine ⟨p, ea, t, den ++ ms, .leaf e, rfl, T1.same sm, (fun c hc => nomatch hc), nk_of_leaf upd_same (NK.keep (tups_of sm) _ _ nke), wf, hcode, by rw [List.length_append]; omega, fun H3 ms2 T3 hm3 hms3 kp3 => ?_⟩
      have hD3 : H3 D = some (.lst (nNs (den ++ ms) ((c.take i).map Nd.leaf))) := kp3 _ _ (sm _ _ hD) d1 d2 d3 d4
      rw [List.append_assoc] at T3 hm3
      refine ⟨_, hD3, by rw [nNs_len, List.length_map]; exact line_lt (Nat.le_trans (List.length_take_le _ _) (by omega)), ms ++ ms2, T3.upd hD3 d2 d3 d4, ?_, ?_, by rw [List.length_append]; omega, ?_, ?_⟩
      · rw [upd_same, List.take_add_one, ee, List.map_append]
        show some (HO.lst _) = some (HO.lst (nNs (den ++ (ms ++ ms2)) ((c.take i).map Nd.leaf ++ [Nd.leaf e])))
        rw [nNs_snoc, ← List.append_assoc, nNs_ext ms2 hin]
      · rw [List.take_add_one, ee, List.map_append]
        intro n hn
        rcases List.mem_append.mp hn with z | z
        · rw [← List.append_assoc]; exact List.mem_append_left _ (hin n z)
        · have : n = .leaf e := by simpa using z
          subst this; exact hm3
      · exact keepT_upd ((kp.trans (KeepT.of sm)).trans kp3) nD
      · rw [upd_ne (ne_of_none ha nD)]
        have e1 : (upd H1 ea (.tup [.str "leaf", x])) a = some (.tup xs) := sm _ _ ha1
        exact (kp3.tups (T1.same sm)) _ _ e1
    · rintro H1 ⟨ms, T1, hD, hin, hms, kp, ha1⟩
      rw [← hcl, List.take_length] at hD hin
      exact q H1 D ms T1 nD hD hin (by omega) kp
/-! ### item_row -/
theorem scItemRow : FnScope ["table", "row", "number", "times"] ["table", "row"] (defScope sItemRow) := ⟨rfl, rfl, rfl, by decide +kernel, rfl, by decide +kernel, by decide +kernel⟩
def spItemRow (P : Program) (w : World) (K : PySem.W.Frag) (C : Addr) : Sp := fun vs H Q _ => ∃ (p a : Addr) (t : TbA) (den ns : List Nd), vs = [.ref p, .ref a] ∧ Tab P w C H p t den ∧ H a = some (.lst (nNs den ns)) ∧ a ≠ t.le ∧ a ≠ t.lc ∧ a ≠ t.ls ∧ (∀ n ∈ ns, n ∈ den) ∧ (∀ n ∈ items ns, Wf n ∧ (code n).length ≤ 200000) ∧ den.length + ns.length < 1000000 ∧
  ∀ (H' : Hp) (q : Addr) (ms : List Nd), Tab P w C H' p t (den ++ ms) → H' q = some (.tup (nNs (den ++ ms) (items ns))) → (∀ n ∈ items ns, n ∈ den ++ ms) → ms.length ≤ ns.length → KeepT t H H' → Q (.ref q) H'
theorem ok_itemRow {f : Addr} {fd : FuncData} {k : Nat} (F : Fun K "item_row" "item_row" sItemRow f fd) (TC : TxtC K C) (T : Txt mg) (GI : MtG P w K mg base C "item_number" k ["self", "number", "times"] (spItem P w C)) (GG : FnG P w K mg base "groups_of" k ["row"] (spGroups K)) :
    FnOk P w K mg base CX0 (k + 1) f fd ["table", "row"] (spItemRow P w K C) := by
  obtain ⟨fI, fdI, mI, bI, GI⟩ := GI
  obtain ⟨fG, fdG, gG, kG, bG, GG⟩ := GG
  refine F.ok scItemRow (fun vs H Q E h => ?_) (fun cdv A outer s H vs Q E hr h => ?_)
  · obtain ⟨p, a, t, den, ns, rfl, _⟩ := h
    rfl
  · obtain ⟨p, a, t, den, ns, rfl, TA, ha, n1, n2, n3, hin, hwf, hl, q⟩ := h
    refine ⟨_, pss_one (ps_ret (pe_callTy call_tuple_of (by rfl) T.tuple boot_tuple (pa_cons (pe_lc (own := [("number", 2), ("times", 3)]) (g := gTup K 2 (gCons (gName 2) (gCons (gName 3) gNil))) (tt := tYes) rfl scItemRow.nd (pi_list (pe_call GG hr (by rfl) gG kG bG .nil pass0 (pa_cons (pv 1) pa_nil))) (blkOk_by (N := ["table", "row", "number", "times"]) (sc := defScope sItemRow) (by decide +kernel))
        (fun _ _ _ _ _ => pg_tup rfl (pgs_cons (pg_name (i := 2) scItemRow.nd rfl (.inl rfl)) (pgs_cons (pg_name (i := 3) scItemRow.nd rfl (.inl rfl)) pgs_nil))) (fun _ _ _ _ _ => pts_nil) (fun _ _ _ _ _ => pe_meth (pv 0) TC.cl mI GI hr bI .nil pass0 (pa_cons (pv 2) (pa_cons (pv 3) pa_nil)))) pa_nil))), ?_⟩
    have hgm := groups_map (idx den) ns fun x hx y hy e => idx_inj (hin x hx) (hin y hy) e
    refine ⟨_, rfl, a, ns.map (idx den), rfl, SqL.of ha, by rw [List.length_map]; omega, fun H1 gp ps sm1 ngp hgp hps hall => ?_⟩
    rw [hgm] at hps
    have T1 := TA.same sm1
    refine ⟨gp, rfl, ⟨_, SqL.of hgp⟩, fun D nD => ?_⟩
    obtain ⟨d1, d2, d3, d4, d5⟩ := tb_ne T1 nD
    obtain ⟨g1, g2, g3, g4, g5⟩ := tb_ne TA ngp
    have hpl : ps.length = (groups ns).length := by have := congrArg List.length hps; rwa [List.length_map, List.length_map] at this
    have hgl := groups_length ns
    have nDH : H D = none := sm1.free nD
    have ngD : gp ≠ D := ne_of_none hgp nD
    refine lc_list (K := K) (a := gp) (xs := ps.map fun e => V.ref e.1) (fun i H' => ∃ ms : List Nd, Tab P w C H' p t (den ++ ms) ∧ H' D = some (.lst (nNs (den ++ ms) (((groups ns).take i).map item))) ∧ (∀ n ∈ ((groups ns).take i).map item, n ∈ den ++ ms) ∧ ms.length ≤ i ∧ KeepT t H H' ∧ KeepT t H1 H' ∧ H' gp = some (.lst (ps.map fun e => V.ref e.1))) ?_ (fun i H' _ ⟨_, _, _, _, _, _, _, e⟩ => SqL.of e) ?_ ?_
    · exact ⟨[], by rw [List.append_nil]; exact T1.same (same_upd nD), by rw [upd_same]; rfl, by simp, by simp, KeepT.of (sm1.trans (same_upd nD)), KeepT.of (same_upd nD), same_upd nD _ _ hgp⟩
    · rintro i x H2 hx ⟨ms, T2, hD, hin2, hms, kp, kp1, hgp2⟩
      rw [List.getElem?_map] at hx
      obtain ⟨e, ee, rfl⟩ := Option.map_eq_some_iff.mp hx
      have hil : i < ps.length := (List.getElem?_eq_some_iff.mp ee).1
      obtain ⟨g, eg⟩ : ∃ g, (groups ns)[i]? = some g := ⟨_, List.getElem?_eq_getElem (by omega)⟩
      have ege : e.2 = (idx den g.1, g.2) := by
        have h1 : (ps.map (·.2))[i]? = some e.2 := by rw [List.getElem?_map, ee]; rfl
        rw [hps, List.getElem?_map, eg] at h1
        exact (Option.some.inj h1).symm
      have hge := hall e (List.mem_of_getElem? ee)
      rw [ege] at hge
      have hge2 : H2 e.1 = some (.tup [.int (idx den g.1 : Nat), .int (g.2 : Nat)]) := (kp1.tups T1) _ _ hge
      have hg1 : g.1 ∈ ns := groups_mem ns g (List.mem_of_getElem? eg)
      have hgi : item g ∈ items ns := List.mem_map.mpr ⟨g, List.mem_of_getElem? eg, rfl⟩
      obtain ⟨wf, hcd⟩ := hwf _ hgi
      obtain ⟨dx, hp⟩ := T2.ob
      refine ⟨e.1, _, rfl, SqT.of hge2, rfl, _, _, rfl, _, _, rfl, rfl, rfl, ?_⟩
      refine ⟨_, rfl, p, dx, flds t, rfl, hp, flds_no t (by decide +kernel) (by decide +kernel) (by decide +kernel) (by decide +kernel), _, rfl, _, rfl, ?_⟩
      refine ⟨p, t, den ++ ms, g.1, g.2, ?_, T2, List.mem_append_left _ (hin _ hg1), wf, hcd, by rw [List.length_append]; omega, fun H3 ms2 T3 hm3 hms3 kp3 => ?_⟩
      · rw [idx_append ms (hin _ hg1)]; rfl
      have hD3 : H3 D = some (.lst (nNs (den ++ ms) (((groups ns).take i).map item))) := kp3 _ _ hD d1 d2 d3 d4
      rw [List.append_assoc] at T3 hm3 ⊢
      refine ⟨_, hD3, by rw [nNs_len, List.length_map]; exact line_lt (Nat.le_trans (List.length_take_le _ _) (by omega)), ms ++ ms2, T3.upd hD3 d2 d3 d4, ?_, ?_, by rw [List.length_append]; omega, keepT_upd (kp.trans kp3) nDH, keepT_upd (kp1.trans kp3) nD, ?_⟩
      · rw [upd_same, List.take_add_one, eg, List.map_append]
        show some (HO.lst _) = some (HO.lst (nNs (den ++ (ms ++ ms2)) (((groups ns).take i).map item ++ [item g])))
        rw [nNs_snoc, ← List.append_assoc, nNs_ext ms2 hin2]
      · rw [List.take_add_one, eg, List.map_append]
        intro n hn
        rcases List.mem_append.mp hn with z | z
        · rw [← List.append_assoc]; exact List.mem_append_left _ (hin2 n z)
        · have : n = item g := by simpa using z
          subst this; exact hm3
      · rw [upd_ne ngD]
        exact kp3 _ _ hgp2 g1 g2 g3 g4
    · rintro H2 ⟨ms, T2, hD, hin2, hms, kp, kp1, hgp2⟩
      rw [List.length_map] at hD hin2 hms
      rw [hpl, List.take_length] at hD hin2
      refine ⟨D, _, rfl, .inl ⟨SqL.of hD, fun qq nqq => ?_⟩⟩
      have sm := same_upd (o := HO.tup (nNs (den ++ ms) ((groups ns).map item))) nqq
      exact q _ qq ms (T2.same sm) upd_same hin2 (by omega) (kp.trans (KeepT.of sm))
/-! ### color_row -/
theorem scColorRow : FnScope ["table", "items", "item"] ["table", "items"] (defScope sColorRow) := ⟨rfl, rfl, rfl, by decide +kernel, rfl, by decide +kernel, by decide +kernel⟩
def spColorRow (P : Program) (w : World) (K : PySem.W.Frag) (C : Addr) : Sp := fun vs H Q _ => ∃ (p a : Addr) (t : TbA) (den its : List Nd), vs = [.ref p, .ref a] ∧ Tab P w C H p t den ∧ SqT K H a (nNs den its) ∧ (∀ n ∈ its, n ∈ den) ∧ Codes (its.map code) ∧ its.length ≤ 1000000 ∧
  ∀ (H' : Hp) (q : Addr), Same H H' → SqT K H' q (nI (cols its)) → Q (.ref q) H'
theorem ok_colorRow {f : Addr} {fd : FuncData} {k : Nat} (F : Fun K "color_row" "color_row" sColorRow f fd) (TC : TxtC K C) (G1 : FnG P w K mg base "coins_of_codes" k ["codes"] (spCoins K)) (G2 : FnG P w K mg base "colors_of_coins" k ["coins"] (spColors K)) :
    FnOk P w K mg base CX0 (k + 1) f fd ["table", "items"] (spColorRow P w K C) := by
  obtain ⟨f1, fd1, g1, k1, b1, G1⟩ := G1
  obtain ⟨f2, fd2, g2, k2, b2, G2⟩ := G2
  refine F.ok scColorRow (fun vs H Q E h => ?_) (fun cdv A outer s H vs Q E hr h => ?_)
  · obtain ⟨p, a, t, den, its, rfl, _⟩ := h
    rfl
  · obtain ⟨p, a, t, den, its, rfl, TA, ha, hin, hcd, hl, q⟩ := h
    refine ⟨_, pss_one (ps_ret (pe_call G2 hr (by rfl) g2 k2 b2 .nil pass0 (pa_cons (pe_call G1 hr (by rfl) g1 k1 b1 .nil pass0 (pa_cons
        (pe_lc (own := [("item", 2)]) (g := gName 2) (tt := tYes) (te := tOp (rIxL K) (tFld K (tVar 0) "codes") (tVar 2)) rfl scColorRow.nd (pi_tup (pv 1)) (blkOk_by (N := ["table", "items", "item"]) (sc := defScope sColorRow) (by decide +kernel))
          (fun _ _ _ _ _ => pg_name (i := 2) scColorRow.nd rfl (Or.inl rfl)) (fun _ _ _ _ _ => pts_nil) (fun _ _ _ _ _ => pe_ix ix_list (pe_fld (pv 0) rfl) (pv 2) (fun _ _ => rfl))) pa_nil)) pa_nil))), ?_⟩
    refine ⟨_, rfl, a, rfl, ⟨_, ha⟩, fun D nD => ?_⟩
    obtain ⟨dx, hp⟩ := id TA.ob
    obtain ⟨cs, c1, c2, c3⟩ := id TA.codes
    refine lc_tup (K := K) (a := a) (xs := nNs den its) (fun i H' => ∃ ps : List (Addr × List Nat), Same H H' ∧ H' D = some (.lst (ps.map fun p => V.ref p.1)) ∧ ps.map (·.2) = (its.take i).map code ∧ ∀ p ∈ ps, H' p.1 = some (.tup (nI p.2))) ⟨[], same_upd nD, by rw [upd_same]; rfl, by simp, by simp⟩ (fun i H' _ ⟨_, sm, _⟩ => seqT_of sm ha) ?_ ?_
    · rintro i x H1 hx ⟨ps, sm, hD, hps, hall⟩
      obtain ⟨m, em, rfl⟩ := nNs_get hx
      have hm := hin m (List.mem_of_getElem? em)
      obtain ⟨ca, hca⟩ := CodesAt.get (H := H) (lc := t.lc) c2 hm
      have hcm := c3 _ _ _ hca (idx_get hm)
      have hil : i < its.length := (List.getElem?_eq_some_iff.mp em).1
      have hpl : ps.length = i := by
        have := congrArg List.length hps
        rw [List.length_map, List.length_map, List.length_take] at this
        omega
      refine ⟨rfl, _, rfl, p, C, dx, _, _, rfl, sm _ _ hp, TC.cl, TC.nC, lookup_codes t, _, rfl, t.lc, _, _, .ref ca, rfl, rfl, SqL.of (sm _ _ c1), atI_nat (by rw [List.getElem?_map, hca]; rfl), _, hD, by rw [List.length_map]; exact line_lt (by omega), ps ++ [(ca, code m)], fun bb o hbb => ?_, ?_, ?_, ?_⟩
      · rw [upd_ne (ne_of_none hbb nD)]; exact sm bb o hbb
      · rw [upd_same, List.map_append]; rfl
      · rw [List.map_append, hps, List.take_add_one, em]; simp
      · intro e he
        rcases List.mem_append.mp he with z | z
        · have h1 := hall e z
          rw [upd_ne (ne_of h1 hD (fun z => nomatch z))]; exact h1
        · have : e = (ca, code m) := by simpa using z
          subst this
          rw [upd_ne (ne_of (sm _ _ hcm) hD (fun z => nomatch z))]; exact sm _ _ hcm
    · rintro H1 ⟨ps, sm, hD, hps, hall⟩
      rw [nNs_len, List.take_length] at hps
      have hpl : ps.length = its.length := by
        have := congrArg List.length hps
        rwa [List.length_map, List.length_map] at this
      refine ⟨D, ps, rfl, SqL.of hD, hall, by rw [hps]; exact hcd, by omega, fun H2 cp sm2 hcp => ?_⟩
      rw [hps] at hcp
      refine ⟨cp, coins (its.map code), rfl, SqT.of hcp, coins_adj hcd, by rw [coins, pairs2_length, List.length_map]; exact hl, fun H3 qq sm3 hq => ?_⟩
      exact q H3 qq ((sm.trans sm2).trans sm3) hq
end
end Sh

namespace Sh
open PySem PySem.Spec PyProof.Rows L2
abbrev sGrow : Stmt := topS 28
abbrev sAddTree : Stmt := topS 29
theorem cut_map {α β : Type} (f : α → β) (L : List α) (ss : List Nat) : cut (L.map f) ss = (cut L ss).map (List.map f) := by
  unfold cut
  rw [List.length_map, List.map_map]
  apply List.map_congr_left
  intro p _
  simp [slice]
theorem rows_stay {c : List NestedKey} {l : Nat} (h : rows c l = []) : ∀ j, rows c (l + j) = []
  | 0 => h
  | j + 1 => by
    rw [← Nat.add_assoc]
    show next (rows c (l + j)) = []
    rw [rows_stay h j, next_nil]
    simp [items, groups]
section
variable {P : Program} {w : World} {K : PySem.W.Frag} {mg : Str → Option Value} {base : Heap} {C : Addr}
/-! ### grow -/
theorem scGrow : FnScope ["table", "contents", "levels", "row", "items", "colors", "starts", "part"] ["table", "contents"] (defScope sGrow) := ⟨rfl, rfl, rfl, by decide +kernel, rfl, by decide +kernel, by decide +kernel⟩
/-- the levels that grow hands back -/
def LevAt (H : Hp) (Lv : Addr) (den : List Nd) (c : List NestedKey) (l : Nat) : Prop :=
  (l = 0 ∧ H Lv = some (.lst [])) ∨ ∃ (j : Nat) (ys : List V) (z r it co st : Addr), l = j + 1 ∧ rows c j ≠ [] ∧ H Lv = some (.lst (ys ++ [.ref z])) ∧ ys.length ≤ j ∧ H z = some (.tup [.ref r, .ref it, .ref co, .ref st]) ∧ H it = some (.tup (nNs den (items (rows c j)))) ∧ ∀ n ∈ items (rows c j), n ∈ den
def spGrow (P : Program) (w : World) (C : Addr) : Sp := fun vs H Q _ => ∃ (p a : Addr) (t : TbA) (c : List NestedKey) (xs : List V), vs = [.ref p, .ref a] ∧ Tab P w C H p t [] ∧ H a = some (.tup xs) ∧ NKs H c xs ∧ (∀ e ∈ c, OkEl e) ∧ c.length ≤ 2000 ∧
  ∀ (H' : Hp) (Lv : Addr) (den : List Nd) (l : Nat), Tab P w C H' p t den → KeepT t H H' → den.length ≤ 8000 → rows c l = [] → LevAt H' Lv den c l → Q (.ref Lv) H'
theorem LevAt.ext {H H' : Hp} {Lv : Addr} {den ms : List Nd} {c : List NestedKey} {l : Nat} (h : LevAt H Lv den c l) (e : ∀ o, H Lv = some o → H' Lv = some o) (t : Tups H H') : LevAt H' Lv (den ++ ms) c l := by
  rcases h with ⟨h1, h2⟩ | ⟨j, ys, z, r, it, co, st, h1, h2, h3, h4, h5, h6, h7⟩
  · exact .inl ⟨h1, e _ h2⟩
  · exact .inr ⟨j, ys, z, r, it, co, st, h1, h2, e _ h3, h4, t _ _ h5, by rw [nNs_ext ms h7]; exact t _ _ h6, fun n hn => List.mem_append_left _ (h7 n hn)⟩
theorem ok_grow {f : Addr} {fd : FuncData} {k : Nat} (F : Fun K "grow" "grow" sGrow f fd) (TC : TxtC K C) (T : Txt mg) (GN : MtG P w K mg base C "number_of" k ["self", "entry"] (spNum P w C)) (GL : FnG P w K mg base "leaf_row" k ["table", "contents"] (spLeafRow P w K C)) (GI : FnG P w K mg base "item_row" k ["table", "row"] (spItemRow P w K C))
    (GC : FnG P w K mg base "color_row" k ["table", "items"] (spColorRow P w K C)) (GS : FnG P w K mg base "starts_of" k ["colors"] (spStarts K)) (GU : FnG P w K mg base "cut" k ["items", "starts"] (spCut K)) : FnOk P w K mg base CX0 (k + 1) f fd ["table", "contents"] (spGrow P w C) := by
  obtain ⟨fN, fdN, mN, bN, GN⟩ := GN
  obtain ⟨f1, fd1, g1, k1, b1, GL⟩ := GL
  obtain ⟨f2, fd2, g2, k2, b2, GI⟩ := GI
  obtain ⟨f3, fd3, g3, k3, b3, GC⟩ := GC
  obtain ⟨f4, fd4, g4, k4, b4, GS⟩ := GS
  obtain ⟨f5, fd5, g5, k5, b5, GU⟩ := GU
  refine F.ok scGrow (fun vs H Q E h => ?_) (fun cdv A outer s H vs Q E hr h => ?_)
  · obtain ⟨p, a, t, c, xs, rfl, _⟩ := h
    rfl
  · obtain ⟨p, a, t, c, xs, rfl, TA, ha, nk, hok, hl, q⟩ := h
    refine ⟨_, pss_cons (ps_set (i := 2) scGrow.nd rfl (.inl rfl) (pe_lst pa_nil))
      (pss_cons (ps_set (i := 3) scGrow.nd rfl (.inl rfl) (pe_call GL hr (by rfl) g1 k1 b1 .nil pass0 (pa_cons (pv 0) (pa_cons (pv 1) pa_nil))))
      (pss_cons (ps_while PassesOwn.never (pt_truth (pv 3) (by intro _; rfl))
        (pss_cons (ps_set (i := 4) scGrow.nd rfl (.inl rfl) (pe_call GI hr (by rfl) g2 k2 b2 .nil pass0 (pa_cons (pv 0) (pa_cons (pv 3) pa_nil))))
        (pss_cons (ps_set (i := 5) scGrow.nd rfl (.inl rfl) (pe_call GC hr (by rfl) g3 k3 b3 .nil pass0 (pa_cons (pv 0) (pa_cons (pv 4) pa_nil))))
        (pss_cons (ps_set (i := 6) scGrow.nd rfl (.inl rfl) (pe_call GS hr (by rfl) g4 k4 b4 .nil pass0 (pa_cons (pv 5) pa_nil)))
        (pss_cons (ps_expr (pe_bm PySem.F.plainAttrs_list PySem.F.slot_list_append PySem.F.type_list_append mt_append (pv 2) (pa_cons (pe_tup (pa_cons (pv 3) (pa_cons (pv 4) (pa_cons (pv 5) (pa_cons (pv 6) pa_nil))))) pa_nil)))
        (pss_cons (ps_set (i := 3) scGrow.nd rfl (.inl rfl) (pe_lst pa_nil))
        (pss_one (ps_if (pt_cmpR op_gt (pe_callB call_len_seq (by rfl) T.len PySem.boot_len (pa_cons (pv 4) pa_nil)) pe_int (nomark _))
          (pss_one (ps_setLc (i := 3) (own := [("part", 7)]) (g := gName 7) (tt := tYes) rfl scGrow.nd rfl rfl (sw_true rfl rfl rfl (by decide +kernel)) (pi_list (pe_call GU hr (by rfl) g5 k5 b5 .nil pass0 (pa_cons (pv 4) (pa_cons (pv 6) pa_nil)))) (blkOk_by (N := ["table", "contents", "levels", "row", "items", "colors", "starts", "part"]) (sc := defScope sGrow) (by decide +kernel))
            (fun _ _ _ _ _ => pg_name (i := 7) scGrow.nd rfl (Or.inl rfl)) (fun _ _ _ _ _ => pts_nil) (fun _ _ _ _ _ => pe_meth (pv 0) TC.cl mN GN hr bN .nil pass0 (pa_cons (pe_tup (pa_cons pe_str (pa_cons (pv 7) pa_nil))) pa_nil)))) pss_nil))))))))
      (pss_one (ps_ret (pv 2))))), ?_⟩
    refine ⟨Nat.zero_le _, fun Lv nLv => ?_⟩
    have s0 := same_upd (o := HO.lst []) nLv
    obtain ⟨v1, v2, v3, v4, v5⟩ := tb_ne TA nLv
    refine ⟨_, rfl, _, rfl, p, a, t, [], c, xs, rfl, TA.same s0, s0 _ _ ha, NKs.keep (tups_of s0) _ _ nk, hok, by simp; omega, fun H1 r ms T1 nr hr1 hin1 hms1 kp1 => ?_⟩
    obtain ⟨r1, r2, r3, r4, r5⟩ := tb_ne (TA.same s0) nr
    have nLr : Lv ≠ r := ne_of_none upd_same nr
    have hLv1 : H1 Lv = some (.lst []) := kp1 _ _ upd_same v1 v2 v3 v4
    rw [List.nil_append] at T1 hr1 hin1
    refine ⟨fun m σ H' => ∃ (l : Nat) (den : List Nd) (r : Addr) (y4 y5 y6 : Option V), m = (rows c l).length ∧ σ = [some (.ref p), some (.ref a), some (.ref Lv), some (.ref r), y4, y5, y6, none] ∧ Tab P w C H' p t den ∧ H' r = some (.lst (nNs den (rows c l))) ∧ (r ≠ t.le ∧ r ≠ t.lc ∧ r ≠ t.ls ∧ Lv ≠ r) ∧ (∀ n ∈ rows c l, n ∈ den) ∧ den.length + 3 * (rows c l).length ≤ 4 * c.length ∧ KeepT t H H' ∧ LevAt H' Lv den c l ∧ l ≤ 2000,
      ⟨_, 0, ms, r, none, none, none, rfl, rfl, T1, hr1, ⟨r2, r3, r4, nLr⟩, hin1, ?_, (KeepT.of s0).trans kp1, .inl ⟨rfl, hLv1⟩, Nat.zero_le _⟩, ?_⟩
    · have : (rows c 0).length = c.length := List.length_map _
      omega
    rintro m σ H2 ⟨l, den, r, y4, y5, y6, rfl, rfl, T2, hr2, ⟨n1, n2, n3, n4⟩, hin, hsz, kp, lev, hl2⟩
    have hlen := rows_length' c l
    by_cases hrow : rows c l = []
    · refine ⟨_, rfl, false, .inl ⟨_, SqL.of hr2, by rw [hrow]; rfl⟩, ?_⟩
      refine iteF ?_
      refine ⟨_, rfl, q H2 Lv den l T2 kp ?_ hrow lev⟩
      omega
    · refine ⟨_, rfl, true, .inl ⟨_, SqL.of hr2, ?_⟩, ?_⟩
      · cases hx : rows c l with
        | nil => exact absurd hx hrow
        | cons x xs => rfl
      refine iteT ?_
      -- one level more
      refine ⟨fun σ' H' => ∃ (den : List Nd) (r : Addr) (y4 y5 y6 : Option V), σ' = [some (.ref p), some (.ref a), some (.ref Lv), some (.ref r), y4, y5, y6, none] ∧ Tab P w C H' p t den ∧ H' r = some (.lst (nNs den (rows c (l + 1)))) ∧ (r ≠ t.le ∧ r ≠ t.lc ∧ r ≠ t.ls ∧ Lv ≠ r) ∧ (∀ n ∈ rows c (l + 1), n ∈ den) ∧ den.length + 3 * (rows c (l + 1)).length ≤ 4 * c.length ∧ KeepT t H H' ∧ LevAt H' Lv den c (l + 1), ?_, ?_⟩
      · rintro σ' H' ⟨den', r', z4, z5, z6, rfl, a1, a2, a3, a4, a5, a6, a7⟩
        have hlt : (rows c (l + 1)).length < (rows c l).length := by
          have h1 := next_length (rows c l)
          have h2 := items_length (rows c l)
          have h3 := List.length_pos_iff.mpr hrow
          show (next (rows c l)).length < _
          omega
        have hl3 : l + 1 ≤ 2000 := by
          have h1 := rows_length c l
          have h3 := List.length_pos_iff.mpr hrow
          have h4 : 2 ^ l ≤ c.length := Nat.le_trans (Nat.le_mul_of_pos_right _ h3) h1
          have h5 : l < 2 ^ l := Nat.lt_two_pow_self
          omega
        exact ⟨_, hlt, l + 1, den', r', z4, z5, z6, rfl, rfl, a1, a2, a3, a4, a5, a6, a7, hl3⟩
      have hwf := rows_wf hok (show c.length < 65536 by omega) l
      have hwi := items_wf hwf (show (rows c l).length < 65536 by omega)
      refine ⟨_, rfl, _, rfl, p, r, t, den, rows c l, rfl, T2, hr2, n1, n2, n3, hin, fun n hn => ⟨hwi n hn, by have := items_code hok l hn; omega⟩, by omega, fun H3 it ms1 T3 hit hin3 hms1 kp3 => ?_⟩
      have hil := items_length (rows c l)
      refine ⟨_, rfl, _, rfl, p, it, t, den ++ ms1, items (rows c l), rfl, T3, SqT.of hit, hin3, items_codes (rows_plain c l) hwf (by omega), by omega, fun H4 co sm4 hco => ?_⟩
      refine ⟨_, rfl, co, cols (items (rows c l)), rfl, hco, by rw [cols_length]; omega, fun H5 st sm5 hst => ?_⟩
      have sm35 := sm4.trans sm5
      have T5 := T3.same sm35
      have lev3 : LevAt H3 Lv (den ++ ms1) c l := lev.ext (fun o ho => kp3 _ _ ho v1 v2 v3 v4) (kp3.tups T2)
      have lev5 : LevAt H5 Lv (den ++ ms1) c l := by
        have := lev3.ext (ms := []) (H' := H5) (fun o ho => sm35 _ _ ho) (tups_of sm35)
        rwa [List.append_nil] at this
      -- the levels' list as it stands
      obtain ⟨ys, hLv5, hys⟩ : ∃ ys, H5 Lv = some (.lst ys) ∧ ys.length ≤ l := by
        rcases lev5 with ⟨h1, h2⟩ | ⟨j, ys, z, _, _, _, _, h1, _, h3, h4, _⟩
        · exact ⟨[], h2, Nat.zero_le _⟩
        · exact ⟨_, h3, by simp; omega⟩
      refine ⟨_, rfl, .inl ⟨rfl, _, SqL.of hLv5⟩, _, rfl, _, rfl, _, rfl, _, rfl, by show 4 ≤ sizeLine; decide, fun z nz => ?_⟩
      have sm6 := same_upd (o := HO.tup [.ref r, .ref it, .ref co, .ref st]) nz
      refine ⟨Lv, ys, _, rfl, rfl, sm6 _ _ hLv5, line_lt (by omega), ?_⟩
      -- the heap H7 behind the append
      let H6 : Hp := upd H5 z (.tup [.ref r, .ref it, .ref co, .ref st])
      let H7 : Hp := upd H6 Lv (.lst (ys ++ [.ref z]))
      have hLv6 : H6 Lv = some (.lst ys) := sm6 _ _ hLv5
      have T6 : Tab P w C H6 p t (den ++ ms1) := T5.same sm6
      have T7 : Tab P w C H7 p t (den ++ ms1) := T6.upd hLv6 v2 v3 v4
      have keep7 : ∀ b o, H5 b = some o → b ≠ Lv → H7 b = some o := fun b o hb hne => by
        show upd H6 Lv _ b = some o
        rw [upd_ne hne]; exact sm6 _ _ hb
      have hz7 : H7 z = some (.tup [.ref r, .ref it, .ref co, .ref st]) := by
        show upd H6 Lv _ z = _
        have : H6 z = some (.tup [.ref r, .ref it, .ref co, .ref st]) := upd_same
        rw [upd_ne (ne_of this hLv6 (fun z => nomatch z))]; exact this
      have tup7 : Tups H5 H7 := fun b xs hb => keep7 b _ hb (ne_of hb hLv5 (fun z => nomatch z))
      have hit7 : H7 it = some (.tup (nNs (den ++ ms1) (items (rows c l)))) := tup7 _ _ (sm35 _ _ hit)
      have kp7 : KeepT t H H7 := fun b o hb h1 h2 h3 h4 => keep7 b o (sm35 _ _ (kp3 _ _ (kp b o hb h1 h2 h3 h4) h1 h2 h3 h4)) (ne_of_none hb nLv)
      have lev7 : LevAt H7 Lv (den ++ ms1) c (l + 1) := .inr ⟨l, ys, z, r, it, co, st, rfl, hrow, upd_same, hys, hz7, hit7, hin3⟩
      refine ⟨Nat.zero_le _, fun r2 nr2 => ?_⟩
      have nr2' : H7 r2 = none := nr2
      obtain ⟨e1, e2, e3, e4, e5⟩ := tb_ne T7 nr2'
      have hLv7 : H7 Lv = some (.lst (ys ++ [.ref z])) := upd_same
      have nLr2 : Lv ≠ r2 := ne_of_none hLv7 nr2'
      have sm8 := same_upd (o := HO.lst []) nr2'
      have T8 := T7.same sm8
      have lev8 : LevAt (upd H7 r2 (.lst [])) Lv (den ++ ms1) c (l + 1) := by
        have := lev7.ext (ms := []) (H' := upd H7 r2 (.lst [])) (fun o ho => sm8 _ _ ho) (tups_of sm8)
        rwa [List.append_nil] at this
      have hnl := next_length (rows c l)
      have hrl : (rows c (l + 1)).length = (next (rows c l)).length := rfl
      refine ⟨_, rfl, it, _, rfl, .inr (SqT.of (sm8 _ _ hit7)), _, _, rfl, rfl, _, rfl, ?_⟩
      rw [nNs_len]
      refine ite2 (fun hgt => ?_) (fun hgt => ?_)
      · have hgt : 1 < (items (rows c l)).length := by have := of_decide_eq_true hgt; omega
        have hne : cols (items (rows c l)) ≠ [] := by
          intro z
          have := cols_length (items (rows c l))
          rw [z] at this; simp at this; omega
        refine ⟨_, rfl, _, rfl, it, st, _, starts (cols (items (rows c l))), rfl, sm8 _ _ hit7, seqT_of sm8 (sqT_upd (seqT_of sm6 hst) hLv6), by rw [starts_eq hne]; simp, ?_, by rw [nNs_len]; omega, fun H9 cl ps sm9 ncl hcl hps hall => ?_⟩
        · rw [nNs_len, ← cols_length]; exact starts_end_sorted _
        · have T9 := T8.same sm9
          refine ⟨cl, rfl, ⟨_, SqL.of hcl⟩, fun D nD => ?_⟩
          obtain ⟨d1, d2, d3, d4, d5⟩ := tb_ne T9 nD
          obtain ⟨c1, c2, c3, c4, c5⟩ := tb_ne T8 ncl
          have ncD : cl ≠ D := ne_of_none hcl nD
          have hLv9 : H9 Lv = some (.lst (ys ++ [.ref z])) := sm9 _ _ (sm8 _ _ hLv7)
          have nLD : Lv ≠ D := ne_of_none hLv9 nD
          have nDH : H D = none := by
            cases hx : H D with
            | none => rfl
            | some o =>
              have := sm9 _ _ (sm8 _ _ (kp7 D o hx d1 d2 d3 d4))
              rw [nD] at this; cases this
          have hblk : rows c (l + 1) = (cut (items (rows c l)) (starts (cols (items (rows c l))))).map Nd.block := by
            show next (rows c l) = _
            unfold next
            rw [if_neg (by omega)]; rfl
          generalize ebl : cut (items (rows c l)) (starts (cols (items (rows c l)))) = bl at hblk
          have hps2 : ps.map (·.2) = bl.map (nNs (den ++ ms1)) := by
            rw [hps]
            have e : ∀ ns : List Nd, nNs (den ++ ms1) ns = ns.map fun n => V.int (idx (den ++ ms1) n : Nat) := fun ns => by
              unfold nNs nI; rw [List.map_map]; rfl
            rw [e, cut_map, ebl]
            exact List.map_congr_left fun ns _ => (e ns).symm
          have hpl : ps.length = bl.length := by have := congrArg List.length hps2; rwa [List.length_map, List.length_map] at this
          have hbl : bl.length = (rows c (l + 1)).length := by rw [hblk, List.length_map]
          refine lc_list (K := K) (a := cl) (xs := ps.map fun e => V.ref e.1) (fun i H' => ∃ ms2 : List Nd, Tab P w C H' p t (den ++ ms1 ++ ms2) ∧ H' D = some (.lst (nNs (den ++ ms1 ++ ms2) ((bl.take i).map Nd.block))) ∧ (∀ n ∈ (bl.take i).map Nd.block, n ∈ den ++ ms1 ++ ms2) ∧ ms2.length ≤ i ∧ KeepT t H9 H' ∧ H' cl = some (.lst (ps.map fun e => V.ref e.1))) ?_ (fun i H' _ ⟨_, _, _, _, _, _, e⟩ => SqL.of e) ?_ ?_
          · exact ⟨[], by rw [List.append_nil]; exact T9.same (same_upd nD), by rw [upd_same]; rfl, by simp, by simp, KeepT.of (same_upd nD), same_upd nD _ _ hcl⟩
          · rintro i x H10 hx ⟨ms2, T10, hD, hin4, hms2, kp10, hcl10⟩
            rw [List.getElem?_map] at hx
            obtain ⟨e, ee, rfl⟩ := Option.map_eq_some_iff.mp hx
            have hil : i < ps.length := (List.getElem?_eq_some_iff.mp ee).1
            obtain ⟨ns, ens⟩ : ∃ ns, bl[i]? = some ns := ⟨_, List.getElem?_eq_getElem (by omega)⟩
            have ege : e.2 = nNs (den ++ ms1) ns := by
              have h1 : (ps.map (·.2))[i]? = some e.2 := by rw [List.getElem?_map, ee]; rfl
              rw [hps2, List.getElem?_map, ens] at h1
              exact (Option.some.inj h1).symm
            have hge := hall e (List.mem_of_getElem? ee)
            rw [ege] at hge
            have hge10 : H10 e.1 = some (.tup (nNs (den ++ ms1) ns)) := (kp10.tups T9) _ _ hge
            have hmem : Nd.block ns ∈ rows c (l + 1) := by rw [hblk]; exact List.mem_map_of_mem (List.mem_of_getElem? ens)
            have hkid : ∀ n ∈ ns, n ∈ den ++ ms1 := by
              obtain ⟨ns', e1, _, _, h4⟩ := next_mem hmem
              injection e1 with e1
              subst e1
              exact fun n hn => hin3 n (h4 n hn)
            have wf := rows_wf hok (show c.length < 65536 by omega) (l + 1) _ hmem
            have hcd := rows_code hok (l + 1) hmem
            obtain ⟨dx, hp⟩ := T10.ob
            refine ⟨rfl, _, rfl, p, dx, flds t, rfl, hp, flds_no t (by decide +kernel) (by decide +kernel) (by decide +kernel) (by decide +kernel), _, rfl, by show 2 ≤ sizeLine; decide, fun ea nea => ?_⟩
            have smA := same_upd (o := HO.tup [.str "block", .ref e.1]) nea
            refine ⟨p, ea, t, den ++ ms1 ++ ms2, .block ns, rfl, T10.same smA, (fun n hn => List.mem_append_left _ (hkid n hn)), nk_of_block upd_same ?_, wf, by omega, by simp only [List.length_append]; omega, fun H11 ms3 T11 hm11 hms3 kp11 => ?_⟩
            · have := nNs_ext ms2 hkid
              unfold nNs at this
              rw [this]
              exact smA _ _ hge10
            have hD11 : H11 D = some (.lst (nNs (den ++ ms1 ++ ms2) ((bl.take i).map Nd.block))) := kp11 _ _ (smA _ _ hD) d1 d2 d3 d4
            rw [List.append_assoc (den ++ ms1) ms2 ms3] at T11 hm11 ⊢
            refine ⟨_, hD11, by rw [nNs_len, List.length_map]; exact line_lt (Nat.le_trans (List.length_take_le _ _) (by omega)), ms2 ++ ms3, T11.upd hD11 d2 d3 d4, ?_, ?_, by rw [List.length_append]; omega, keepT_upd ((kp10.trans (KeepT.of smA)).trans kp11) nD, ?_⟩
            · rw [upd_same, List.take_add_one, ens, List.map_append]
              show some (HO.lst _) = some (HO.lst (nNs (den ++ ms1 ++ (ms2 ++ ms3)) ((bl.take i).map Nd.block ++ [Nd.block ns])))
              rw [nNs_snoc, ← List.append_assoc (den ++ ms1) ms2 ms3, nNs_ext ms3 hin4]
            · rw [List.take_add_one, ens, List.map_append]
              intro n hn
              rcases List.mem_append.mp hn with z | z
              · rw [← List.append_assoc (den ++ ms1) ms2 ms3]; exact List.mem_append_left _ (hin4 n z)
              · have : n = .block ns := by simpa using z
                subst this; exact hm11
            · rw [upd_ne ncD]
              exact kp11 _ _ (smA _ _ hcl10) c1 c2 c3 c4
          · rintro H10 ⟨ms2, T10, hD, hin4, hms2, kp10, hcl10⟩
            rw [List.length_map] at hD hin4 hms2
            rw [hpl, List.take_length, ← hblk] at hD hin4
            have lev9 : LevAt H9 Lv (den ++ ms1) c (l + 1) := by
              have := lev8.ext (ms := []) (H' := H9) (fun o ho => sm9 _ _ ho) (tups_of sm9)
              rwa [List.append_nil] at this
            refine ⟨den ++ ms1 ++ ms2, D, _, _, _, rfl, T10, hD, ⟨d2, d3, d4, nLD⟩, hin4, ?_, (kp7.trans (KeepT.of (sm8.trans sm9))).trans kp10, lev9.ext (fun o ho => kp10 _ _ ho v1 v2 v3 v4) (kp10.tups T9)⟩
            simp only [List.length_append]
            omega
      · have hle : (items (rows c l)).length ≤ 1 := by
          have : ¬ (1 : Int) < ((items (rows c l)).length : Int) := fun z => hgt (decide_eq_true z)
          omega
        have hn : rows c (l + 1) = [] := next_nil.mpr hle
        refine ⟨den ++ ms1, r2, _, _, _, rfl, T8, by rw [hn, upd_same]; rfl, ⟨e2, e3, e4, nLr2⟩, by rw [hn]; simp, ?_, kp7.trans (KeepT.of sm8), lev8⟩
        rw [hn, List.length_append]
        simp only [List.length_nil]
        omega
/-! ### add_tree -/
theorem scAddTree : FnScope ["table", "contents", "levels"] ["table", "contents"] (defScope sAddTree) := ⟨rfl, rfl, rfl, by decide +kernel, rfl, by decide +kernel, by decide +kernel⟩
def spAddTree (P : Program) (w : World) (C : Addr) : Sp := fun vs H Q _ => ∃ (p a : Addr) (t : TbA) (c : List NestedKey) (xs : List V), vs = [.ref p, .ref a] ∧ Tab P w C H p t [] ∧ H a = some (.tup xs) ∧ NKs H c xs ∧ (∀ e ∈ c, OkEl e) ∧ c.length ≤ 2000 ∧
  ∀ (H' : Hp) (den : List Nd), Tab P w C H' p t den → KeepT t H H' → den.length ≤ 8000 → (c = [] → Q .non H') ∧ (∀ (M : Nat) (root : Nd), rows c M ≠ [] → rows c (M + 1) = [] → items (rows c M) = [root] → root ∈ den → Q (.int (idx den root : Nat)) H')
theorem ok_addTree {f : Addr} {fd : FuncData} {k : Nat} (F : Fun K "add_tree" "add_tree" sAddTree f fd) (GG : FnG P w K mg base "grow" k ["table", "contents"] (spGrow P w C)) : FnOk P w K mg base CX0 (k + 1) f fd ["table", "contents"] (spAddTree P w C) := by
  obtain ⟨f1, fd1, g1, k1, b1, GG⟩ := GG
  refine F.ok scAddTree (fun vs H Q E h => ?_) (fun cdv A outer s H vs Q E hr h => ?_)
  · obtain ⟨p, a, t, c, xs, rfl, _⟩ := h
    rfl
  · obtain ⟨p, a, t, c, xs, rfl, TA, ha, nk, hok, hl, q⟩ := h
    refine ⟨_, pss_cons (ps_set (i := 2) scAddTree.nd rfl (.inl rfl) (pe_call GG hr (by rfl) g1 k1 b1 .nil pass0 (pa_cons (pv 0) (pa_cons (pv 1) pa_nil))))
      (pss_cons (ps_if (pt_not (pt_truth (pv 2) (by intro _; rfl))) (pss_one (ps_ret pe_non)) pss_nil)
      (pss_one (ps_ret (pe_ix ix_tup (pe_ix ix_tup (pe_ix ix_list (pv 2) (pe_un un_neg pe_int) (fun _ _ => rfl)) pe_int (fun _ _ => rfl)) pe_int (fun _ _ => rfl))))), ?_⟩
    refine ⟨_, rfl, _, rfl, p, a, t, c, xs, rfl, TA, ha, nk, hok, hl, fun H1 Lv den l T1 kp hd hrow lev => ?_⟩
    obtain ⟨q1, q2⟩ := q H1 den T1 kp hd
    rcases lev with ⟨rfl, hLv⟩ | ⟨j, ys, z, r, it, co, st, rfl, hj, hLv, _, hz, hit, hin⟩
    · refine ⟨_, rfl, false, .inl ⟨_, SqL.of hLv, rfl⟩, ?_⟩
      refine iteT ?_
      refine q1 ?_
      simpa [rows] using hrow
    · refine ⟨_, rfl, true, .inl ⟨_, SqL.of hLv, by simp⟩, ?_⟩
      refine iteF ?_
      have hi1 : (items (rows c j)).length ≤ 1 := next_nil.mp hrow
      have hi2 : items (rows c j) ≠ [] := fun z => hj (items_nil.mp z)
      obtain ⟨root, hroot⟩ : ∃ root, items (rows c j) = [root] := by
        cases hx : items (rows c j) with
        | nil => exact absurd hx hi2
        | cons x xs =>
          rw [hx] at hi1
          simp at hi1
          subst hi1
          exact ⟨x, rfl⟩
      rw [hroot] at hit hin
      refine ⟨_, rfl, 1, rfl, Lv, _, _, .ref z, rfl, rfl, SqL.of hLv, atI_last ys (.ref z), z, _, 1, .ref it, rfl, rfl, SqT.of hz, atI_nat (j := 1) rfl, it, _, 0, _, rfl, rfl, SqT.of hit, atI_nat (j := 0) rfl, ?_⟩
      exact q2 j root hj hrow hroot (hin root (by simp))
end
end Sh

namespace Sh
open PySem PySem.Spec PyProof.Rows L2
abbrev sPlaced : Stmt := topS 30
abbrev sTableOf : Stmt := topS 31
section
variable {P : Program} {w : World} {K : PySem.W.Frag} {mg : Str → Option Value} {base : Heap} {C : Addr}
/-! ### placed -/
theorem scPlaced : FnScope ["entry", "places", "child"] ["entry", "places"] (defScope sPlaced) := ⟨rfl, rfl, rfl, by decide +kernel, rfl, by decide +kernel, by decide +kernel⟩
def spPlaced : Sp := fun vs H Q _ => ∃ (a q : Addr) (den pl : List Nd) (n : Nd), vs = [.ref a, .ref q] ∧ NK H (ekey den n) (.ref a) ∧ Rd H q (.dK (plK den pl)) ∧ (∀ m ∈ pl, m ∈ den) ∧ pl.Nodup ∧ (∀ c ∈ n.kids, c ∈ pl) ∧ Wf n ∧
  ∀ (H' : Hp) (b : Addr), Same H H' → NK H' (ekey pl n) (.ref b) → Q (.ref b) H'
theorem dget_rd {H : Hp} {a : Addr} {kvs : List (Key × V)} {k : Key} (e : Rd H a (.dK kvs)) : DGet H a (kV k) (valV kvs k) := .inl ⟨kvs, k, e, rfl, rfl⟩
theorem Rd.same {H H' : Hp} {a : Addr} {u : HO} (r : Rd H a u) (s : Same H H') : Rd H' a u := by
  rcases r with r | ⟨o, r⟩
  · exact .inl (s _ _ r)
  · exact .inr ⟨o, s _ _ r⟩
theorem ok_placed {f : Addr} {fd : FuncData} {k : Nat} (F : Fun K "placed" "placed" sPlaced f fd) (T : Txt mg) : FnOk P w K mg base CX0 (k + 1) f fd ["entry", "places"] spPlaced := by
  refine F.ok scPlaced (fun vs H Q E h => ?_) (fun cdv A outer s H vs Q E hr h => ?_)
  · obtain ⟨a, q, den, pl, n, rfl, _⟩ := h
    rfl
  · obtain ⟨a, q, den, pl, n, rfl, nk, hq, hs, hnd, hk, wf, kk⟩ := h
    have hu := hu_of hr
    refine ⟨_, pss_cons (ps_if (pt_cmpR op_eq (pe_ix ix_tup (pv 0) pe_int (fun _ _ => rfl)) pe_str (nomark _))
        (pss_one (ps_ret (pe_tup (pa_cons pe_str (pa_cons (pe_dget hu (pv 1) (pe_ix ix_tup (pv 0) pe_int (fun _ _ => rfl)) (fun _ _ => rfl)) (pa_cons (pe_ix ix_tup (pv 0) pe_int (fun _ _ => rfl)) pa_nil)))))) pss_nil)
      (pss_cons (ps_if (pt_cmpR op_eq (pe_ix ix_tup (pv 0) pe_int (fun _ _ => rfl)) pe_str (nomark _))
        (pss_one (ps_ret (pe_tup (pa_cons pe_str (pa_cons (pe_callTy call_tuple_of (by rfl) T.tuple boot_tuple (pa_cons
          (pe_lc (own := [("child", 2)]) (g := gName 2) (tt := tYes) rfl scPlaced.nd (pi_tup (pe_ix ix_tup (pv 0) pe_int (fun _ _ => rfl))) (blkOk_by (N := ["entry", "places", "child"]) (sc := defScope sPlaced) (by decide +kernel))
            (fun _ _ _ _ _ => pg_name (i := 2) scPlaced.nd rfl (Or.inl rfl)) (fun _ _ _ _ _ => pts_nil) (fun _ _ _ _ _ => pe_dget hu (pv 1) (pv 2) (fun _ _ => rfl))) pa_nil)) pa_nil))))) pss_nil)
      (pss_one (ps_ret (pv 0)))), ?_⟩
    have at_ : ∀ c ∈ pl, valV (plK den pl) (Sum.inl (idx den c : Nat)) = some (V.int (idx pl c : Nat)) := fun c hc => by
      rw [plK_at den pl hs hnd c (hs c hc), if_pos hc]
    cases n with
    | leaf e =>
      obtain ⟨v, ha, hv⟩ := nk_leaf nk
      refine ⟨_, rfl, a, _, 0, _, rfl, rfl, SqT.of ha, atI_nat (j := 0) rfl, rfl, _, rfl, ?_⟩
      refine ite2 (fun z => absurd (V.str.inj (of_decide_eq_true z)) leaf_run) (fun _ => ?_)
      refine ⟨_, rfl, a, _, 0, _, rfl, rfl, SqT.of ha, atI_nat (j := 0) rfl, rfl, _, rfl, ?_⟩
      refine ite2 (fun z => absurd (V.str.inj (of_decide_eq_true z)) leaf_block) (fun _ => ?_)
      exact ⟨_, rfl, kk H a (Same.refl H) nk⟩
    | run c times =>
      have ha := nk_run nk
      have hc := hk c (by simp [Nd.kids])
      refine ⟨_, rfl, a, _, 0, _, rfl, rfl, SqT.of ha, atI_nat (j := 0) rfl, rfl, _, rfl, ?_⟩
      refine ite2 (fun _ => ?_) (fun z => absurd (decide_eq_true rfl) z)
      refine ⟨_, rfl, _, rfl, a, _, 1, _, rfl, rfl, SqT.of ha, atI_nat (j := 1) rfl, q, .int (idx pl c : Nat), rfl, ?_, ?_⟩
      · have := dget_rd (k := Sum.inl (idx den c : Nat)) hq
        rw [at_ c hc] at this
        exact this
      · refine ⟨_, rfl, a, _, 2, _, rfl, rfl, SqT.of ha, atI_nat (j := 2) rfl, by show 3 ≤ sizeLine; decide, fun b nb => ?_⟩
        exact kk _ b (same_upd nb) (nk_of_run upd_same)
    | block cs =>
      obtain ⟨b0, ha, hb⟩ := nk_block nk
      rw [Wf] at wf
      refine ⟨_, rfl, a, _, 0, _, rfl, rfl, SqT.of ha, atI_nat (j := 0) rfl, rfl, _, rfl, ?_⟩
      refine ite2 (fun z => absurd (V.str.inj (of_decide_eq_true z)) block_run) (fun _ => ?_)
      refine ⟨_, rfl, a, _, 0, _, rfl, rfl, SqT.of ha, atI_nat (j := 0) rfl, rfl, _, rfl, ?_⟩
      refine ite2 (fun _ => ?_) (fun z => absurd (decide_eq_true rfl) z)
      refine ⟨_, rfl, a, _, 1, _, rfl, rfl, SqT.of ha, atI_nat (j := 1) rfl, b0, rfl, ⟨_, SqT.of hb⟩, fun D nD => ?_⟩
      refine lc_tup (K := K) (a := b0) (xs := nI (cs.map (idx den))) (fun i H' => Same H H' ∧ H' D = some (.lst (nI ((cs.take i).map (idx pl))))) ⟨same_upd nD, by rw [upd_same]; rfl⟩ (fun i H' _ ⟨sm, _⟩ => SqT.of (sm _ _ hb)) ?_ ?_
      · rintro i x H1 hx ⟨sm, hD⟩
        unfold nI at hx
        rw [List.map_map, List.getElem?_map] at hx
        obtain ⟨c, ec, rfl⟩ := Option.map_eq_some_iff.mp hx
        have hc := hk c (List.mem_of_getElem? ec)
        have hil : i < cs.length := (List.getElem?_eq_some_iff.mp ec).1
        refine ⟨rfl, _, rfl, _, rfl, q, .int (idx pl c : Nat), rfl, ?_, _, hD, by rw [nI_len, List.length_map]; exact line_lt (Nat.le_trans (List.length_take_le _ _) (by omega)), fun bb o hbb => ?_, ?_⟩
        · have := dget_rd (k := Sum.inl (idx den c : Nat)) (Rd.same hq sm)
          rw [at_ c hc] at this
          exact this
        · rw [upd_ne (ne_of_none hbb nD)]; exact sm bb o hbb
        · rw [upd_same, List.take_add_one, ec, List.map_append, nI_append]; rfl
      · rintro H1 ⟨sm, hD⟩
        rw [nI_len, List.length_map, List.take_length] at hD
        refine ⟨D, _, rfl, .inl ⟨SqL.of hD, fun tt ntt => ⟨by show 2 ≤ sizeLine; decide, fun b nb => ?_⟩⟩⟩
        have s1 := same_upd (o := HO.tup (nI (cs.map (idx pl)))) ntt
        have s2 := same_upd (o := HO.tup [.str "block", .ref tt]) nb
        exact kk _ b ((sm.trans s1).trans s2) (nk_of_block upd_same (s2 _ _ upd_same))
/-! ### table_of -/
theorem scTableOf : FnScope ["contents", "table", "root", "places", "number"] ["contents"] (defScope sTableOf) := ⟨rfl, rfl, rfl, by decide +kernel, rfl, by decide +kernel, by decide +kernel⟩
/-- a node table as it is handed out -/
def TabV (H : Hp) (q : Addr) (T : List Nd) : Prop := ∃ as : List Addr, H q = some (.tup (as.map V.ref)) ∧ as.length = T.length ∧ ∀ (i : Nat) (a : Addr) (n : Nd), as[i]? = some a → T[i]? = some n → NK H (ekey T n) (.ref a)
theorem TabV.keep {H H' : Hp} {q : Addr} {T : List Nd} (h : TabV H q T) (t : Tups H H') : TabV H' q T := by
  obtain ⟨as, h1, h2, h3⟩ := h
  exact ⟨as, t _ _ h1, h2, fun i a n ha hn => NK.keep t _ _ (h3 i a n ha hn)⟩
def spTableOf : Sp := fun vs H Q _ => ∃ (a : Addr) (c : List NestedKey) (xs : List V), vs = [.ref a] ∧ H a = some (.tup xs) ∧ NKs H c xs ∧ (∀ e ∈ c, OkEl e) ∧ c.length ≤ 2000 ∧
  ∀ (H' : Hp) (q : Addr) (T : List Nd), Same H H' → TabV H' q T → Tbl T → (∀ n, n ∈ T ↔ Occ c n) → (∀ n ∈ T, Wf n) → T.length ≤ 8000 → Q (.ref q) H'
theorem start_table {H : Hp} {x dx : Addr} (hx : H x = none) (hdx : H dx = none) : Same H (upd (upd H dx (.own x)) x (.ins C dx [])) := fun b o e => by
  rw [upd_ne (ne_of_none e hx), upd_ne (ne_of_none e hdx)]; exact e
theorem ok_tableOf {f fI : Addr} {fd fdI : FuncData} {k : Nat} (F : Fun K "table_of" "table_of" sTableOf f fd) (T : Txt mg) (TC : TxtC K C) (gC : mg "NodeTable" = some (.ref C)) (M : Mk K C fI) (bI : Binds K fdI ["self"] []) (GI : FnOk P w K mg base CX0 k fI fdI ["self"] (spTInit P w C))
    (GA : FnG P w K mg base "add_tree" (k + 1) ["table", "contents"] (spAddTree P w C)) (GL : FnG P w K mg base "list_nodes" (k + 1) ["table", "root", "places"] (spListNodes P w C 21)) (GP : FnG P w K mg base "placed" (k + 1) ["entry", "places"] spPlaced) :
    FnOk P w K mg base CX0 (k + 2) f fd ["contents"] spTableOf := by
  obtain ⟨f1, fd1, g1, k1, b1, GA⟩ := GA
  obtain ⟨f2, fd2, g2, k2, b2, GL⟩ := GL
  obtain ⟨f3, fd3, g3, k3, b3, GP⟩ := GP
  refine F.ok scTableOf (fun vs H Q E h => ?_) (fun cdv A outer s H vs Q E hr h => ?_)
  · obtain ⟨a, c, xs, rfl, _⟩ := h
    rfl
  · obtain ⟨a, c, xs, rfl, ha, nk, hok, hl, q⟩ := h
    refine ⟨_, pss_cons (ps_set (i := 1) scTableOf.nd rfl (.inr rfl) (pe_make0 M GI hr (by rfl) gC bI .nil pass0))
      (pss_cons (ps_set (i := 2) scTableOf.nd rfl (.inl rfl) (pe_call GA hr (by rfl) g1 k1 b1 .nil pass0 (pa_cons (pv 1) (pa_cons (pv 0) pa_nil))))
      (pss_cons (ps_set (i := 3) scTableOf.nd rfl (.inr rfl) pe_dnewK)
      (pss_mid (ps_if (pt_cmpR op_notN (pv 2) pe_non (nomark _)) (pss_one (ps_expr (pe_call GL hr (by rfl) g2 k2 b2 .nil pass0 (pa_cons (pv 1) (pa_cons (pv 2) (pa_cons (pv 3) pa_nil)))))) pss_nil)
      (pss_one (ps_ret (pe_callTy call_tuple_of (by rfl) T.tuple boot_tuple (pa_cons (pe_lock
        (pe_lc (own := [("number", 4)]) (g := gName 4) (tt := tYes) (te := tCall spPlaced [] E0 (tCons (tOp (rIxL K) (tFld K (tVar 1) "entries") (tVar 4)) (tCons (tVar 3) tNil))) rfl scTableOf.nd (pi_keys (pv 3)) (blkOk_by (N := ["contents", "table", "root", "places", "number"]) (sc := defScope sTableOf) (by decide +kernel))
          (fun _ _ _ _ _ => pg_name (i := 4) scTableOf.nd rfl (Or.inl rfl)) (fun _ _ _ _ _ => pts_nil) (fun _ _ _ _ _ => pe_call GP hr (by rfl) g3 k3 b3 .nil pass0 (pa_cons (pe_ix ix_list (pe_fld (pv 1) rfl) (pv 4) (fun _ _ => rfl)) (pa_cons (pv 3) pa_nil))))) pa_nil))))))), ?_⟩
    intro x dx hx hdx hne
    refine ⟨x, dx, rfl, upd_same, fun t H1 T1 kp1 => ⟨rfl, ?_⟩⟩
    have s0 := start_table (C := C) hx hdx
    have s1 : ∀ b o, H b = some o → H1 b = some o ∧ b ≠ t.d ∧ b ≠ t.le ∧ b ≠ t.lc ∧ b ≠ t.ls := fun b o hb => kp1 b o (s0 b o hb) (ne_of_none hb hx)
    have sm1 : Same H H1 := fun b o hb => (s1 b o hb).1
    refine ⟨_, rfl, _, rfl, x, a, t, c, xs, rfl, T1, sm1 _ _ ha, NKs.keep (tups_of sm1) _ _ nk, hok, hl, fun H2 den T2 kp2 hden => ?_⟩
    have sm2 : Same H H2 := fun b o hb => by
      obtain ⟨h1, h2, h3, h4, h5⟩ := s1 b o hb
      exact kp2 _ _ h1 h2 h3 h4 h5
    -- what follows, the root known
    have rest : ∀ (v : V), (v = .non ∧ c = [] ∨ ∃ (Mh : Nat) (root : Nd), v = .int (idx den root : Nat) ∧ rows c Mh ≠ [] ∧ rows c (Mh + 1) = [] ∧ items (rows c Mh) = [root] ∧ root ∈ den) →
        (tSeq (tAsg tDNewK (gName 3)) (tMid (tIfS (tTest (tOp (fun x y H Q => y = .non ∧ Q (.bl (!decide (x = .non))) H) (tVar 2) (tC .non))) (tDrop (tCall (spListNodes P w C 21) [] E0 (tCons (tVar 1) (tCons (tVar 2) (tCons (tVar 3) tNil))))) tNext)
          (tRet (tCB (fun xs H Q => ∃ p ys, xs = [.ref p] ∧ ((SqL K H p ys ∧ ∀ l, H l = none → Q (.ref l) (upd H l (.tup ys))) ∨ (SqT K H p ys ∧ Q (.ref p) H))) (tCons (tLockE (tLc (iKeys (tVar 3)) (gName 4) tYes (tCall spPlaced [] E0 (tCons (tOp (rIxL K) (tFld K (tVar 1) "entries") (tVar 4)) (tCons (tVar 3) tNil))) [4])) tNil)))))
          { nx := fun _ H' => Q .non H', rt := Q } [some (.ref a), some (.ref x), some v, none, none] H2 := by
      intro v hv
      intro pq npq
      obtain ⟨p1, p2, p3, p4, p5⟩ := tb_ne T2 npq
      have s3 := same_upd (o := HO.dK []) npq
      have T3 := T2.same s3
      have npqH : H pq = none := sm2.free npq
      -- behind list_nodes
      refine ⟨fun σ' H' => ∃ pl : List Nd, σ' = [some (.ref a), some (.ref x), some v, some (.ref pq), none] ∧ H' pq = some (.dK (plK den pl)) ∧ Tbl pl ∧ (∀ n, n ∈ pl ↔ Occ c n) ∧ (∀ m ∈ pl, m ∈ den) ∧ (∀ b o, H2 b = some o → b ≠ pq → H' b = some o), ?_, ?_⟩
      · rcases hv with ⟨rfl, rfl⟩ | ⟨Mh, root, rfl, hM, hM1, hroot, hrd⟩
        · refine ⟨_, rfl, rfl, _, rfl, ?_⟩
          refine iteF ?_
          refine ⟨[], rfl, upd_same, Tbl.nil, fun n => ⟨fun z => (nomatch z), fun ⟨l, z⟩ => ?_⟩, (fun m z => nomatch z), fun b o hb _ => s3 _ _ hb⟩
          have e : rows [] l = [] := by
            have := rows_length' [] l
            exact List.length_eq_zero_iff.mp (Nat.le_zero.mp this)
          rw [e] at z
          simp [items, groups] at z
        · refine ⟨_, rfl, rfl, _, rfl, ?_⟩
          refine ite2 (fun _ => ?_) (fun z => absurd (show (!decide (V.int (idx den root : Nat) = V.non)) = true from rfl) z)
          have hdeep : deep root ≤ 21 := by
            have h1 := root_deep hroot
            have h2 := rows_length c Mh
            have h3 := List.length_pos_iff.mpr hM
            have h4 : 2 ^ Mh ≤ 2000 := Nat.le_trans (Nat.le_trans (Nat.le_mul_of_pos_right _ h3) h2) hl
            have h5 : Mh ≤ 10 := by
              rcases Nat.lt_or_ge 10 Mh with z | z
              · have : 2 ^ 11 ≤ 2 ^ Mh := Nat.pow_le_pow_right (by omega) z
                omega
              · exact z
            omega
          refine ⟨_, rfl, _, rfl, _, rfl, x, pq, t, den, [], root, rfl, T3, upd_same, hrd, Tbl.nil, (fun m z => nomatch z), hdeep, by omega, fun H4 ms h1 h2 h3 h4 h5 => ?_⟩
          rw [List.nil_append] at h1 h2 h3 h4
          refine ⟨ms, rfl, h1, h2, fun n => ?_, h4, fun b o hb hne => h5 _ _ (s3 _ _ hb) hne⟩
          rw [h3, ← root_occ (c := c) (M := Mh) (root := root) (fun l hl => by
            have := rows_stay hM1 (l - (Mh + 1))
            rwa [show Mh + 1 + (l - (Mh + 1)) = l by omega] at this) hroot n]
          simp
      · rintro σ' H4 ⟨pl, rfl, hpq, tp, hocc, hsub, kp4⟩
        obtain ⟨dx2, hp2⟩ := id T2.ob
        obtain ⟨as, a1, a2, a3⟩ := id T2.ents
        have tup4 : Tups H2 H4 := fun b ys hb => kp4 _ _ hb (ne_of_none hb npq)
        have hp4 := kp4 _ _ hp2 p5.symm
        have a14 := kp4 _ _ a1 p2.symm
        refine ⟨pq, _, hpq, trivial, fun od => ?_⟩
        -- while the dict is walked
        let H5 : Hp := upd H4 pq (.frz od (.dK (plK den pl)))
        have k5 : ∀ b o, H2 b = some o → H5 b = some o := fun b o hb => by
          have hne : b ≠ pq := ne_of_none hb npq
          show upd H4 pq _ b = some o
          rw [upd_ne hne]; exact kp4 _ _ hb hne
        have hq5 : H5 pq = some (.frz od (.dK (plK den pl))) := upd_same
        refine ⟨_, rfl, pq, od, rfl, .inl ⟨plK den pl, hq5, fun D nD => ?_⟩⟩
        have hpll := nodup_len tp hsub
        have nDp : pq ≠ D := ne_of_none hq5 nD
        refine lc_gen (J := Itk pq od (plK den pl)) pl.length (fun i H' => Same H5 H' ∧ ∃ bs : List Addr, H' D = some (.lst (bs.map V.ref)) ∧ bs.length = i ∧ ∀ (j : Nat) (b : Addr) (n : Nd), bs[j]? = some b → pl[j]? = some n → NK H' (ekey pl n) (.ref b)) ?_ ?_ ?_ ?_ ?_
        · exact ⟨same_upd nD, [], by rw [upd_same]; rfl, rfl, by simp⟩
        · rintro i H' hi ⟨sm, _⟩
          exact ⟨sm _ _ hq5, by rw [plK_len]; exact hi⟩
        · rintro H' ⟨sm, _⟩
          exact ⟨sm _ _ hq5, by rw [plK_len]; exact Nat.le_refl _⟩
        · rintro i y H6 H7 hi ⟨sm, bs, hD, hbl, hbs⟩ ⟨rfl, kk, v0, ek, rfl⟩
          obtain ⟨n, en⟩ : ∃ n, pl[i]? = some n := ⟨_, List.getElem?_eq_getElem hi⟩
          have ekk : kk = (Sum.inl ((idx den n : Nat) : Int) : Key) := by
            unfold plK at ek
            rw [List.getElem?_map, List.getElem?_zipIdx, en] at ek
            simp at ek
            exact ek.1.symm
          subst ekk
          have hn := List.mem_of_getElem? en
          have hnd := hsub n hn
          obtain ⟨ea, hea⟩ : ∃ a, as[idx den n]? = some a := ⟨_, List.getElem?_eq_getElem (by have := idx_lt hnd; omega)⟩
          have nke := a3 _ _ _ hea (idx_get hnd)
          have tup6 : Tups H2 H7 := fun b ys hb => sm _ _ (k5 _ _ hb)
          refine ⟨rfl, _, rfl, x, C, dx2, _, _, rfl, sm _ _ (k5 _ _ hp2), TC.cl, TC.nE, lookup_entries t, _, rfl, t.le, _, _, .ref ea, rfl, rfl, SqL.of (sm _ _ (k5 _ _ a1)), atI_nat (by rw [List.getElem?_map, hea]; rfl), _, rfl, ea, pq, den, pl, n, rfl, NK.keep tup6 _ _ nke, .inr ⟨od, sm _ _ hq5⟩, hsub, tp.nd, (fun c hc => tp.kid hn hc), (T2.wf n hnd).1, fun H8 bb sm8 nkb => ?_⟩
          have hD8 := sm8 _ _ hD
          refine ⟨_, hD8, by rw [List.length_map]; exact line_lt (by omega), fun b o hb => ?_, bs ++ [bb], ?_, by simp [hbl], fun j b m hb hm => ?_⟩
          · rw [upd_ne (ne_of_none hb nD)]; exact sm8 _ _ (sm _ _ hb)
          · rw [upd_same, List.map_append]; rfl
          · have tupD : Tups H8 (upd H8 D (.lst (bs.map V.ref ++ [.ref bb]))) := fun b ys hb => by
              rw [upd_ne (ne_of hb hD8 (fun z => nomatch z))]; exact hb
            by_cases hj : j < bs.length
            · rw [List.getElem?_append_left hj] at hb
              exact NK.keep tupD _ _ (NK.keep (tups_of sm8) _ _ (hbs j b m hb hm))
            · have hz := (List.getElem?_eq_some_iff.mp hb).1
              simp at hz
              have ej : j = bs.length := by omega
              subst ej
              simp at hb
              subst hb
              rw [hbl, en] at hm
              injection hm with hm
              subst hm
              exact NK.keep tupD _ _ nkb
        · rintro H6 ⟨sm, bs, hD, hbl, hbs⟩
          refine ⟨sm _ _ hq5, D, bs.map V.ref, rfl, .inl ⟨SqL.of (by rw [upd_ne nDp.symm]; exact hD), fun qq nqq => ?_⟩⟩
          have s7 := same_upd (H := upd H6 pq (.dK (plK den pl))) (o := HO.tup (bs.map V.ref)) nqq
          have tup7 : Tups H6 (upd H6 pq (.dK (plK den pl))) := fun b ys hb => by
            rw [upd_ne (ne_of hb (sm _ _ hq5) (fun z => nomatch z))]; exact hb
          refine q _ qq pl (fun b o hb => ?_) ⟨bs, upd_same, hbl, fun i b n hb hn => NK.keep (tups_of s7) _ _ (NK.keep tup7 _ _ (hbs i b n hb hn))⟩ tp hocc (fun n hn => (T2.wf n (hsub n hn)).1) (by omega)
          refine s7 _ _ ?_
          have hne : b ≠ pq := ne_of_none hb npqH
          rw [upd_ne hne]
          exact sm _ _ (k5 _ _ (sm2 _ _ hb))
    exact ⟨fun e => rest .non (.inl ⟨rfl, e⟩), fun Mh root h1 h2 h3 h4 => rest _ (.inr ⟨Mh, root, rfl, h1, h2, h3, h4⟩)⟩
end
end Sh

namespace Sh
open PySem PySem.Spec PyProof.Rows L2
abbrev sTape : Stmt := topS 33
abbrev sDraw : Stmt := topS 34
abbrev sSign : Stmt := topS 35
abbrev sWord : Stmt := topS 36
abbrev sScalar : Stmt := topS 37
abbrev sElement : Stmt := topS 38
/-- the tape: the script's cells, a place, a stock, a seed -/
abbrev TL := Addr × Addr
def Tape (H : Hp) (T : TL) : Prop := ∃ (ns : List Int) (pl st sd : Int), H T.1 = some (.lst [.ref T.2, .int pl, .int st, .int sd]) ∧ H T.2 = some (.lst (ns.map V.int)) ∧ T.2 ≠ T.1 ∧ 0 ≤ pl ∧ 0 ≤ st
/-- all but the tape stands -/
def KeepX (T : TL) (H H' : Hp) : Prop := ∀ b o, H b = some o → b ≠ T.1 → H' b = some o
theorem KeepX.refl (T : TL) (H : Hp) : KeepX T H H := fun _ _ h _ => h
theorem KeepX.trans {T : TL} {H H1 H2 : Hp} (a : KeepX T H H1) (b : KeepX T H1 H2) : KeepX T H H2 := fun c o h hc => b c o (a c o h hc) hc
theorem KeepX.same {T : TL} {H H1 H2 : Hp} (a : KeepX T H H1) (b : Same H1 H2) : KeepX T H H2 := fun c o h hc => b c o (a c o h hc)
theorem Tape.same {T : TL} {H H' : Hp} (t : Tape H T) (s : Same H H') : Tape H' T := by
  obtain ⟨ns, pl, st, sd, h1, h2, h3⟩ := t
  exact ⟨ns, pl, st, sd, s _ _ h1, s _ _ h2, h3⟩
theorem KeepX.tups {T : TL} {H H' : Hp} (k : KeepX T H H') (t : Tape H T) : Tups H H' := fun a xs e => by
  obtain ⟨ns, pl, st, sd, h1, _⟩ := t
  exact k a _ e (ne_of e h1 (fun z => nomatch z))
theorem Tape.ne {T : TL} {D : Addr} {H : Hp} (t : Tape H T) (h : H D = none) : D ≠ T.1 := by
  obtain ⟨ns, pl, st, sd, h1, _⟩ := t
  exact (ne_of_none h1 h).symm
theorem Tape.ne2 {T : TL} {D : Addr} {H : Hp} (t : Tape H T) (h : H D = none) : D ≠ T.2 := by
  obtain ⟨ns, pl, st, sd, _, h1, _⟩ := t
  exact (ne_of_none h1 h).symm
theorem Tape.upd {T : TL} {D : Addr} {H : Hp} {o : HO} (t : Tape H T) (h1 : D ≠ T.1) (h2 : D ≠ T.2) : Tape (upd H D o) T := by
  obtain ⟨ns, pl, st, sd, e1, e2, e3⟩ := t
  exact ⟨ns, pl, st, sd, by rw [upd_ne h1.symm]; exact e1, by rw [upd_ne h2.symm]; exact e2, e3⟩
theorem keepX_upd {T : TL} {D : Addr} {H H' : Hp} {o : HO} (k : KeepX T H H') (h : H D = none) : KeepX T H (upd H' D o) := fun b u hb hT => by
  rw [upd_ne (ne_of_none hb h)]; exact k b u hb hT
section
variable {P : Program} {w : World} {K : PySem.W.Frag} {mg : Str → Option Value} {base : Heap} {C : Addr}
/-! ### _law_tape -/
theorem scTape : FnScope ["_law_script", "_law_total", "_law_cell"] ["_law_script"] (defScope sTape) := ⟨rfl, rfl, rfl, by decide +kernel, rfl, by decide +kernel, by decide +kernel⟩
def spTape (K : PySem.W.Frag) : Sp := fun vs H Q _ => ∃ (a : Addr) (ns : List Int), vs = [.ref a] ∧ SqL K H a (ns.map V.int) ∧ ∀ (H' : Hp) (T : TL), Same H H' → Tape H' T → H T.1 = none → Q (.ref T.1) H'
theorem ok_tape {f : Addr} {fd : FuncData} {k : Nat} (F : Fun K "_law_tape" "_law_tape" sTape f fd) (T : Txt mg) : FnOk P w K mg base CX0 (k + 1) f fd ["_law_script"] (spTape K) := by
  refine F.ok scTape (fun vs H Q E h => ?_) (fun cdv A outer s H vs Q E hr h => ?_)
  · obtain ⟨a, ns, rfl, _⟩ := h
    rfl
  · obtain ⟨a, ns, rfl, ha, q⟩ := h
    refine ⟨_, pss_cons (ps_set (i := 1) scTape.nd rfl (.inl rfl) pe_int)
      (pss_cons (ps_for PassesOwn.never rfl (pi_list (pv 0)) (pg_name (i := 2) scTape.nd rfl (.inl rfl))
        (pss_one (ps_set (i := 1) scTape.nd rfl (.inl rfl) (pe_op op_mod (pe_callTy call_int1 (by rfl) T.int boot_int (pa_cons (pe_op op_add (pe_op op_mul (pv 1) pe_int) (pe_callB call_abs (by rfl) T.abs boot_abs (pa_cons (pe_callTy call_int1 (by rfl) T.int boot_int (pa_cons (pv 2) pa_nil)) pa_nil))) pa_nil)) pe_int))))
      (pss_one (ps_ret (pe_lst (pa_cons (pe_callTy call_list_of (by rfl) T.list boot_list (pa_cons (pv 0) pa_nil)) (pa_cons pe_int (pa_cons pe_int (pa_cons (pv 1) pa_nil)))))))), ?_⟩
    refine ⟨_, rfl, a, rfl, ⟨_, ha⟩, ?_⟩
    refine for_list (K := K) (a := a) (xs := ns.map V.int) (fun i σ H' => H' = H ∧ ∃ (t : Int) (y : Option V), σ = [some (.ref a), some (.int t), y]) ⟨rfl, 7, none, rfl⟩ (fun i σ H' _ ⟨e, _⟩ => by rw [e]; exact ha) ?_ ?_
    · rintro i x σ H1 hx ⟨rfl, t, y, rfl⟩
      rw [List.getElem?_map] at hx
      obtain ⟨n, en, rfl⟩ := Option.map_eq_some_iff.mp hx
      refine ⟨_, rfl, _, _, rfl, rfl, .inr ⟨by decide, by decide⟩, ?_⟩
      refine ⟨_, rfl, .inl ⟨n, rfl, _, rfl, _, _, rfl, rfl, .inl ⟨_, rfl, _, _, rfl, rfl, (by show (0 : Int) < 2147483647; decide), ?_⟩⟩⟩
      exact ⟨rfl, _, _, rfl⟩
    · rintro σ H1 ⟨rfl, t, y, rfl⟩
      refine ⟨_, rfl, a, _, rfl, .inl ha, fun l nl => ⟨_, rfl, by show 4 ≤ sizeLine; decide, fun p np => ?_⟩⟩
      have hlp : l ≠ p := ne_of_none upd_same np
      have s1 := same_upd (o := HO.lst (ns.map V.int)) nl
      have npH : H1 p = none := s1.free np
      refine q _ (p, l) (s1.trans (same_upd np)) ⟨ns, 0, 0, _, upd_same, by rw [upd_ne hlp, upd_same], hlp, Int.le_refl _, Int.le_refl _⟩ npH
/-! ### _law_draw -/
theorem scDraw : FnScope ["_law_tape_here", "_law_many", "_law_place", "_law_number"] ["_law_tape_here", "_law_many"] (defScope sDraw) := ⟨rfl, rfl, rfl, by decide +kernel, rfl, by decide +kernel, by decide +kernel⟩
def spDraw : Sp := fun vs H Q _ => ∃ (T : TL) (m : Int), vs = [.ref T.1, .int m] ∧ Tape H T ∧ 1 ≤ m ∧ m < 4611686018427387904 ∧ ∀ (H' : Hp) (r : Nat), Tape H' T → KeepX T H H' → (r : Int) < m → Q (.int r) H'
theorem set_upd {H : Hp} {T : Addr} {o u : HO} : (upd (upd H T o) T u) T = some u := upd_same
theorem ok_draw {f : Addr} {fd : FuncData} {k : Nat} (F : Fun K "_law_draw" "_law_draw" sDraw f fd) (T : Txt mg) : FnOk P w K mg base CX0 (k + 1) f fd ["_law_tape_here", "_law_many"] spDraw := by
  refine F.ok scDraw (fun vs H Q E h => ?_) (fun cdv A outer s H vs Q E hr h => ?_)
  · obtain ⟨a, m, rfl, _⟩ := h
    rfl
  · obtain ⟨⟨a, L⟩, m, rfl, ⟨ns, pl, st, sd, hT, hL, hne, hpl, hst⟩, hm1, hm2, q⟩ := h
    have modm : ∀ (x : Int) (H' : Hp), 0 ≤ x → Tape H' (a, L) → KeepX (a, L) H H' → Q (.int (x % (if (1 : Int) > m then 1 else m))) H' := fun x H' hx tp kp => by
      have e : (if (1 : Int) > m then 1 else m) = m := if_neg (by omega)
      rw [e]
      have h1 := Int.emod_nonneg x (show m ≠ 0 by omega)
      have h2 := Int.emod_lt_of_pos x (show 0 < m by omega)
      have e2 : x % m = ((x % m).toNat : Int) := (Int.toNat_of_nonneg h1).symm
      rw [e2]
      exact q H' _ tp kp (by omega)
    refine ⟨_, pss_mid (ps_if (pt_cmpR op_eq (pe_ix ix_list (pv 0) pe_int (fun _ _ => rfl)) pe_int (nomark _))
        (pss_cons (ps_set (i := 2) scDraw.nd rfl (.inl rfl) (pe_ix ix_list (pv 0) pe_int (fun _ _ => rfl)))
        (pss_cons (ps_set (i := 3) scDraw.nd rfl (.inl rfl) pe_int)
        (pss_mid (ps_if (pt_cmpR op_lt (pv 2) (pe_callB call_len_seq (by rfl) T.len PySem.boot_len (pa_cons (pe_ix ix_list (pv 0) pe_int (fun _ _ => rfl)) pa_nil)) (nomark _))
            (pss_one (ps_set (i := 3) scDraw.nd rfl (.inl rfl) (pe_callB call_abs (by rfl) T.abs boot_abs (pa_cons (pe_callTy call_int1 (by rfl) T.int boot_int (pa_cons (pe_ix ix_list (pe_ix ix_list (pv 0) pe_int (fun _ _ => rfl)) (pv 2) (fun _ _ => rfl)) pa_nil)) pa_nil))))
            (pss_cons (ps_asg (pe_op op_mod (pe_callTy call_int1 (by rfl) T.int boot_int (pa_cons (pe_op op_add (pe_op op_add (pe_op op_mul (pe_ix ix_list (pv 0) pe_int (fun _ _ => rfl)) pe_int) (pv 2)) pe_int) pa_nil)) pe_int) (pg_sub (pv 0) pe_int set_list))
            (pss_one (ps_set (i := 3) scDraw.nd rfl (.inl rfl) (pe_ix ix_list (pv 0) pe_int (fun _ _ => rfl))))))
        (pss_cons (ps_asg (pe_op op_add (pv 2) pe_int) (pg_sub (pv 0) pe_int set_list))
        (pss_cons (ps_if (pt_cmpR op_lt (pv 3) (pe_op op_pow pe_int pe_int) (nomark _))
            (pss_cons (ps_set (i := 3) scDraw.nd rfl (.inl rfl) (pe_op op_mod (pe_callTy call_int1 (by rfl) T.int boot_int (pa_cons (pe_op op_add (pe_op op_add (pe_op op_mul (pv 3) pe_int) (pe_op op_mul (pv 2) pe_int)) pe_int) pa_nil)) pe_int))
            (pss_cons (ps_set (i := 3) scDraw.nd rfl (.inl rfl) (pe_op op_mod (pe_callTy call_int1 (by rfl) T.int boot_int (pa_cons (pe_op op_mul (pv 3) pe_int) pa_nil)) pe_int))
            (pss_one (ps_ret (pe_op op_mod (pe_callTy call_int1 (by rfl) T.int boot_int (pa_cons (pv 3) pa_nil)) (pe_callB (call_max2 rfl) (by rfl) T.max boot_max (pa_cons (pv 1) (pa_cons pe_int pa_nil)))))))) pss_nil)
        (pss_one (ps_asg (pv 3) (pg_sub (pv 0) pe_int set_list)))))))) pss_nil)
      (pss_cons (ps_set (i := 3) scDraw.nd rfl (.inl rfl) (pe_ix ix_list (pv 0) pe_int (fun _ _ => rfl)))
      (pss_cons (ps_asg (pe_op op_fdivW (pv 3) (pe_callB (call_max2 rfl) (by rfl) T.max boot_max (pa_cons (pv 1) (pa_cons pe_int pa_nil)))) (pg_sub (pv 0) pe_int set_list))
      (pss_one (ps_ret (pe_op op_mod (pe_callTy call_int1 (by rfl) T.int boot_int (pa_cons (pv 3) pa_nil)) (pe_callB (call_max2 rfl) (by rfl) T.max boot_max (pa_cons (pv 1) (pa_cons pe_int pa_nil)))))))), ?_⟩
    refine ⟨fun σ H1 => ∃ (x y : Option V) (pl st sd : Int), σ = [some (.ref a), some (.int m), x, y] ∧ KeepX (a, L) H H1 ∧ H1 a = some (.lst [.ref L, .int pl, .int st, .int sd]) ∧ 0 ≤ pl ∧ 0 ≤ st, ?_, ?_⟩
    · refine ⟨_, rfl, a, _, 2, _, rfl, rfl, SqL.of hT, atI_nat (j := 2) rfl, rfl, _, rfl, ?_⟩
      refine ite2 (fun _ => ?_) (fun _ => ⟨none, none, pl, st, sd, rfl, KeepX.refl _ _, hT, hpl, hst⟩)
      refine ⟨_, rfl, a, _, 1, _, rfl, rfl, SqL.of hT, atI_nat (j := 1) rfl, ?_⟩
      -- the number is drawn
      refine ⟨fun σ H1 => ∃ (n sd' : Int), σ = [some (.ref a), some (.int m), some (.int pl), some (.int n)] ∧ KeepX (a, L) H H1 ∧ H1 a = some (.lst [.ref L, .int pl, .int st, .int sd']) ∧ 0 ≤ n, ?_, ?_⟩
      · refine ⟨_, rfl, _, rfl, a, _, 0, _, rfl, rfl, SqL.of hT, atI_nat (j := 0) rfl, L, _, rfl, .inl (SqL.of hL), _, _, rfl, rfl, _, rfl, ite2 (fun hlt => ?_) (fun hlt => ?_)⟩
        · have hlt : pl < ((ns.map V.int).length : Nat) := of_decide_eq_true hlt
          rw [List.length_map] at hlt
          obtain ⟨x, hx⟩ : ∃ x, ns[pl.toNat]? = some x := ⟨_, List.getElem?_eq_getElem (by omega)⟩
          have hat : atI (ns.map V.int) pl = some (V.int x) := by
            have := atI_nat (xs := ns.map V.int) (j := pl.toNat) (v := V.int x) (by rw [List.getElem?_map, hx]; rfl)
            rwa [Int.toNat_of_nonneg hpl] at this
          refine ⟨_, rfl, a, _, 0, _, rfl, rfl, SqL.of hT, atI_nat (j := 0) rfl, _, rfl, L, _, pl, _, rfl, rfl, SqL.of hL, hat, .inl ⟨x, rfl, x, rfl, ?_⟩⟩
          refine ⟨_, sd, rfl, KeepX.refl _ _, hT, ?_⟩
          by_cases h0 : x < 0
          · rw [if_pos h0]; omega
          · rw [if_neg h0]; omega
        · refine ⟨_, rfl, a, _, 3, _, rfl, rfl, SqL.of hT, atI_nat (j := 3) rfl, _, _, rfl, rfl, .inr ⟨by decide, by decide⟩, _, rfl, _, _, rfl, rfl, _, _, rfl, rfl, .inl ⟨_, rfl, _, _, rfl, rfl, (by show (0 : Int) < 2147483647; decide), ?_⟩⟩
          refine ⟨_, rfl, a, _, 3, 3, rfl, rfl, hT, rfl, ?_⟩
          refine ⟨_, rfl, a, _, 3, _, rfl, rfl, SqL.of upd_same, atI_nat (j := 3) rfl, ?_⟩
          refine ⟨_, _, rfl, fun b o hb hne => by rw [upd_ne hne]; exact hb, upd_same, ?_⟩
          exact Int.emod_nonneg _ (by decide)
      · rintro σ H1 ⟨n, sd', rfl, kp, hT1, hn⟩
        have hL1 : H1 L = some (.lst (ns.map V.int)) := kp _ _ hL hne
        refine ⟨_, rfl, _, _, rfl, rfl, _, rfl, a, _, 1, 1, rfl, rfl, hT1, rfl, ?_⟩
        have kp2 : KeepX (a, L) H (upd H1 a (.lst [.ref L, .int (pl + 1), .int st, .int sd'])) := fun b o hb hne => by rw [upd_ne hne]; exact kp _ _ hb hne
        have hL2 : (upd H1 a (.lst [.ref L, .int (pl + 1), .int st, .int sd'])) L = some (.lst (ns.map V.int)) := kp2 _ _ hL hne
        refine ⟨_, rfl, _, _, rfl, rfl, ⟨by decide, by decide, by decide⟩, _, _, rfl, rfl, _, rfl, ite2 (fun hlt => ?_) (fun hlt => ?_)⟩
        · refine ⟨_, rfl, _, _, rfl, rfl, .inr ⟨by decide, by decide⟩, _, rfl, _, _, rfl, rfl, .inr ⟨by decide, by decide⟩, _, _, rfl, rfl, _, _, rfl, rfl, .inl ⟨_, rfl, _, _, rfl, rfl, (by show (0 : Int) < 2147483647; decide), ?_⟩⟩
          refine ⟨_, rfl, _, _, rfl, rfl, .inr ⟨by decide, by decide⟩, .inl ⟨_, rfl, _, _, rfl, rfl, (by show (0 : Int) < 2147483629; decide), ?_⟩⟩
          refine ⟨_, rfl, .inl ⟨_, rfl, _, rfl, _, _, rfl, _, _, rfl, rfl, ?_, ?_⟩⟩
          · show (0 : Int) < if (1 : Int) > m then 1 else m
            rw [if_neg (by omega)]; omega
          · refine modm _ _ (Int.emod_nonneg _ (by decide)) ⟨ns, pl + 1, st, sd', upd_same, hL2, hne, by omega, hst⟩ kp2
        · refine ⟨_, rfl, _, rfl, a, _, 2, 2, rfl, rfl, upd_same, rfl, ?_⟩
          exact ⟨_, _, pl + 1, n, sd', rfl, fun b o hb hne => by rw [upd_ne hne]; exact kp2 _ _ hb hne, upd_same, by omega, hn⟩
    · rintro σ H1 ⟨x, y, pl1, st1, sd1, rfl, kp, hT1, hpl1, hst1⟩
      refine ⟨_, rfl, a, _, 2, _, rfl, rfl, SqL.of hT1, atI_nat (j := 2) rfl, ?_⟩
      refine ⟨_, rfl, _, rfl, _, _, rfl, _, _, rfl, rfl, ?_, ?_⟩
      · by_cases h2 : (2 : Int) > m
        · rw [if_pos h2]; exact wide_div (b := 62) (by decide) (by decide) (by decide) (by decide)
        · rw [if_neg h2]; exact wide_div (b := 62) (by omega) (by omega) (by decide) (by decide)
      · refine ⟨_, rfl, a, _, 2, 2, rfl, rfl, hT1, rfl, ?_⟩
        have kp2 : ∀ o, KeepX (a, L) H (upd H1 a o) := fun o b u hb hne => by rw [upd_ne hne]; exact kp _ _ hb hne
        refine ⟨_, rfl, .inl ⟨_, rfl, _, rfl, _, _, rfl, _, _, rfl, rfl, ?_, ?_⟩⟩
        · show (0 : Int) < if (1 : Int) > m then 1 else m
          rw [if_neg (by omega)]; omega
        · refine modm _ _ hst1 ⟨ns, pl1, _, sd1, upd_same, kp2 _ _ _ hL hne, hne, hpl1, ?_⟩ (kp2 _)
          by_cases h2 : (2 : Int) > m
          · rw [if_pos h2]; exact Int.ediv_nonneg hst1 (by decide)
          · rw [if_neg h2]; exact Int.ediv_nonneg hst1 (by omega)
end
end Sh

namespace Sh
open PySem PySem.Spec PyProof.Rows L2
section
variable {P : Program} {w : World} {K : PySem.W.Frag} {mg : Str → Option Value} {base : Heap} {C : Addr}
/-! ### _law_sign -/
theorem scSign : FnScope ["_law_tape_here", "_law_signs"] ["_law_tape_here"] (defScope sSign) := ⟨rfl, rfl, rfl, by decide +kernel, rfl, by decide +kernel, by decide +kernel⟩
def spSign : Sp := fun vs H Q _ => ∃ (T : TL), vs = [.ref T.1] ∧ Tape H T ∧ ∀ (H' : Hp) (c : Nat), Tape H' T → KeepX T H H' → c < 128 → Q (.str ⟨#[c]⟩) H'
theorem rIxS_of {z : Str} {r : Nat} {H : Hp} {Q : VK} (h : z.length = 94) (h2 : ∀ c ∈ z.cps.toList, c < 128) (h1 : (r : Int) < 94) (q : ∀ c : Nat, c < 128 → Q (.str ⟨#[c]⟩) H) : rIxS (.str z) (.int r) H Q := by
  have hl : z.cps.toList.length = 94 := by rw [str_len]; exact h
  obtain ⟨c, hc⟩ : ∃ c, z.cps.toList[r]? = some c := ⟨_, List.getElem?_eq_getElem (by omega)⟩
  exact ⟨z, r, c, rfl, rfl, by rw [h]; decide, atI_nat hc, q c (h2 c (List.mem_of_getElem? hc))⟩
theorem ok_sign {f : Addr} {fd : FuncData} {k : Nat} (F : Fun K "_law_sign" "_law_sign" sSign f fd) (GD : FnG P w K mg base "_law_draw" k ["_law_tape_here", "_law_many"] spDraw) : FnOk P w K mg base CX0 (k + 1) f fd ["_law_tape_here"] spSign := by
  obtain ⟨f1, fd1, g1, k1, b1, GD⟩ := GD
  refine F.ok scSign (fun vs H Q E h => ?_) (fun cdv A outer s H vs Q E hr h => ?_)
  · obtain ⟨a, rfl, _⟩ := h
    rfl
  · obtain ⟨a, rfl, tp, q⟩ := h
    refine ⟨_, pss_cons (ps_set (i := 1) scSign.nd rfl (.inl rfl) pe_str)
      (pss_cons (ps_set (i := 1) scSign.nd rfl (.inl rfl) (pe_op op_add_str (pv 1) pe_str))
      (pss_one (ps_ret (pe_ix ix_str (pv 1) (pe_call GD hr (by rfl) g1 k1 b1 .nil pass0 (pa_cons (pv 0) (pa_cons pe_int pa_nil))) (fun _ _ => rfl))))), ?_⟩
    refine ⟨_, rfl, _, _, rfl, rfl, by decide +kernel, ?_⟩
    refine ⟨_, rfl, _, rfl, a, 94, rfl, tp, by decide, by decide, fun H1 r t1 kp hr => ?_⟩
    exact rIxS_of (by decide +kernel) (by decide +kernel) hr fun c hc => q _ c t1 kp hc
/-! ### _law_word -/
theorem scWord : FnScope ["_law_tape_here", "_law_word_here", "_law_k"] ["_law_tape_here"] (defScope sWord) := ⟨rfl, rfl, rfl, by decide +kernel, rfl, by decide +kernel, by decide +kernel⟩
def spWord : Sp := fun vs H Q _ => ∃ (T : TL), vs = [.ref T.1] ∧ Tape H T ∧ ∀ (H' : Hp) (x : Str), Tape H' T → KeepX T H H' → OkSc (.text x) → Q (.str x) H'
/-- a menu of four words -/
theorem menu4 {K : PySem.W.Frag} {p : Addr} {H : Hp} {Q : VK} {r : Nat} {x0 x1 x2 x3 : V} (h : H p = some (.lst [x0, x1, x2, x3])) (hr : (r : Int) < 4) (q0 : Q x0 H) (q1 : Q x1 H) (q2 : Q x2 H) (q3 : Q x3 H) : rIxL K (.ref p) (.int r) H Q := by
  have h4 : r < 4 := by omega
  match r, h4 with
  | 0, _ => exact ⟨p, _, _, _, rfl, rfl, SqL.of h, atI_nat (j := 0) rfl, q0⟩
  | 1, _ => exact ⟨p, _, _, _, rfl, rfl, SqL.of h, atI_nat (j := 1) rfl, q1⟩
  | 2, _ => exact ⟨p, _, _, _, rfl, rfl, SqL.of h, atI_nat (j := 2) rfl, q2⟩
  | 3, _ => exact ⟨p, _, _, _, rfl, rfl, SqL.of h, atI_nat (j := 3) rfl, q3⟩
theorem str_snoc (x : Str) (c : Nat) : (x ++ (⟨#[c]⟩ : Str)).cps.toList = x.cps.toList ++ [c] := by
  show (x.cps ++ #[c]).toList = _
  simp
theorem ok_word {f : Addr} {fd : FuncData} {k : Nat} (F : Fun K "_law_word" "_law_word" sWord f fd) (T : Txt mg) (GD : FnG P w K mg base "_law_draw" k ["_law_tape_here", "_law_many"] spDraw) (GS : FnG P w K mg base "_law_sign" k ["_law_tape_here"] spSign) : FnOk P w K mg base CX0 (k + 1) f fd ["_law_tape_here"] spWord := by
  obtain ⟨f1, fd1, g1, k1, b1, GD⟩ := GD
  obtain ⟨f2, fd2, g2, k2, b2, GS⟩ := GS
  refine F.ok scWord (fun vs H Q E h => ?_) (fun cdv A outer s H vs Q E hr h => ?_)
  · obtain ⟨a, rfl, _⟩ := h
    rfl
  · obtain ⟨a, rfl, tp, q⟩ := h
    refine ⟨_, pss_mid (ps_set (i := 1) scWord.nd rfl (.inl rfl) (pe_ix ix_list (pe_lst (pa_cons pe_str (pa_cons pe_str (pa_cons pe_str (pa_cons pe_str pa_nil))))) (pe_call GD hr (by rfl) g1 k1 b1 .nil pass0 (pa_cons (pv 0) (pa_cons pe_int pa_nil))) (fun _ _ => rfl)))
      (pss_cons (ps_for PassesOwn.never rfl (pi_range1 rfl T.range (pa_cons (pe_call GD hr (by rfl) g1 k1 b1 .nil pass0 (pa_cons (pv 0) (pa_cons pe_int pa_nil))) pa_nil)) (pg_name (i := 2) scWord.nd rfl (.inl rfl))
        (pss_one (ps_set (i := 1) scWord.nd rfl (.inl rfl) (pe_op op_add_str (pv 1) (pe_call GS hr (by rfl) g2 k2 b2 .nil pass0 (pa_cons (pv 0) pa_nil))))))
      (pss_one (ps_ret (pv 1)))), ?_⟩
    refine ⟨fun σ H1 => ∃ x : Str, σ = [some (.ref a.1), some (.str x), none] ∧ Tape H1 a ∧ KeepX a H H1 ∧ x.length ≤ 17 ∧ ∀ c ∈ x.cps.toList, c < 128, ?_, ?_⟩
    · refine ⟨by show 4 ≤ sizeLine; decide, fun p np => ?_⟩
      have s1 := same_upd (o := HO.lst [.str "", .str "", .str "to", .str "abcdefghij0123456"]) np
      refine ⟨_, rfl, a, 4, rfl, tp.same s1, by decide, by decide, fun H1 r t1 kp hr => ?_⟩
      have hp : p ≠ a.1 := tp.ne np
      have kp2 : KeepX a H H1 := fun b o hb hne => kp b o (s1 _ _ hb) hne
      refine menu4 (kp _ _ upd_same hp) hr ?_ ?_ ?_ ?_
      all_goals exact ⟨_, rfl, t1, kp2, by decide +kernel, by decide +kernel⟩
    · rintro σ H1 ⟨x, rfl, t1, kp, hx, hc⟩
      refine ⟨_, rfl, a, 4, rfl, t1, by decide, by decide, fun H2 r t2 kp2 hr => ?_⟩
      have hr4 : r < 4 := by omega
      refine ⟨_, rfl, by omega, by omega, ?_⟩
      refine for_range (lo := 0) (n := ((r : Nat) : Int).toNat) (fun i σ H' => ∃ (x : Str) (y : Option V), σ = [some (.ref a.1), some (.str x), y] ∧ Tape H' a ∧ KeepX a H H' ∧ x.length ≤ 17 + i ∧ ∀ c ∈ x.cps.toList, c < 128) ⟨x, none, rfl, t2, kp.trans kp2, hx, hc⟩ ?_ ?_
      · rintro i σ H3 hi ⟨x, y, rfl, t3, kp3, hx, hc⟩
        refine ⟨_, rfl, _, rfl, a, rfl, t3, fun H4 c t4 kp4 hc4 => ?_⟩
        have hl1 : (⟨#[c]⟩ : Str).length = 1 := rfl
        refine ⟨_, _, rfl, rfl, line_big (by rw [hl1]; omega), x ++ ⟨#[c]⟩, _, rfl, t4, kp3.trans kp4, ?_, ?_⟩
        · rw [← str_len, str_snoc, List.length_append, str_len]; simp; omega
        · rw [str_snoc]
          intro d hd
          rcases List.mem_append.mp hd with z | z
          · exact hc d z
          · have : d = c := by simpa using z
            omega
      · rintro σ H3 ⟨x, y, rfl, t3, kp3, hx, hc⟩
        refine ⟨_, rfl, q _ x t3 kp3 ⟨by omega, hc⟩⟩
/-! ### _law_scalar -/
theorem scScalar : FnScope ["_law_tape_here", "_law_choice", "_law_edges"] ["_law_tape_here"] (defScope sScalar) := ⟨rfl, rfl, rfl, by decide +kernel, rfl, by decide +kernel, by decide +kernel⟩
def spScalar : Sp := fun vs H Q _ => ∃ (T : TL), vs = [.ref T.1] ∧ Tape H T ∧ ∀ (H' : Hp) (v : V) (k : NestedKey), Tape H' T → KeepX T H H' → (∀ H'' : Hp, NK H'' k v) → OkSc k → Q v H'
theorem ix_of {K : PySem.W.Frag} {p : Addr} {H : Hp} {Q : VK} {r : Nat} {is : List Int} (h : H p = some (.lst (is.map V.int))) (hr : r < is.length) (q : ∀ i ∈ is, Q (.int i) H) : rIxL K (.ref p) (.int r) H Q := by
  obtain ⟨i, hi⟩ : ∃ i, is[r]? = some i := ⟨_, List.getElem?_eq_getElem hr⟩
  exact ⟨p, _, _, _, rfl, rfl, SqL.of h, atI_nat (j := r) (by rw [List.getElem?_map, hi]; rfl), q i (List.mem_of_getElem? hi)⟩
theorem ok_scalar {f : Addr} {fd : FuncData} {k : Nat} (F : Fun K "_law_scalar" "_law_scalar" sScalar f fd) (GD : FnG P w K mg base "_law_draw" k ["_law_tape_here", "_law_many"] spDraw) (GW : FnG P w K mg base "_law_word" k ["_law_tape_here"] spWord) : FnOk P w K mg base CX0 (k + 1) f fd ["_law_tape_here"] spScalar := by
  obtain ⟨f1, fd1, g1, k1, b1, GD⟩ := GD
  obtain ⟨f2, fd2, g2, k2, b2, GW⟩ := GW
  refine F.ok scScalar (fun vs H Q E h => ?_) (fun cdv A outer s H vs Q E hr h => ?_)
  · obtain ⟨a, rfl, _⟩ := h
    rfl
  · obtain ⟨a, rfl, tp, q⟩ := h
    refine ⟨_, pss_cons (ps_set (i := 1) scScalar.nd rfl (.inl rfl) (pe_call GD hr (by rfl) g1 k1 b1 .nil pass0 (pa_cons (pv 0) (pa_cons pe_int pa_nil))))
      (pss_cons (ps_if (pt_cmpR op_eq (pv 1) pe_int (nomark _)) (pss_one (ps_ret (pe_call GW hr (by rfl) g2 k2 b2 .nil pass0 (pa_cons (pv 0) pa_nil)))) pss_nil)
      (pss_cons (ps_if (pt_cmpR op_eq (pv 1) pe_int (nomark _))
        (pss_cons (ps_set (i := 2) scScalar.nd rfl (.inl rfl) (pe_lst (pa_cons pe_int (pa_cons pe_int (pa_cons pe_int (pa_cons pe_int (pa_cons pe_int (pa_cons pe_int (pa_cons pe_int (pa_cons pe_int (pa_cons (pe_op op_sub (pe_op op_pow pe_int pe_int) pe_int) (pa_cons (pe_op op_pow pe_int pe_int) pa_nil))))))))))))
        (pss_one (ps_ret (pe_op op_mul (pe_ix ix_list (pv 2) (pe_call GD hr (by rfl) g1 k1 b1 .nil pass0 (pa_cons (pv 0) (pa_cons pe_int pa_nil))) (fun _ _ => rfl)) (pe_op op_sub pe_int (pe_op op_mul pe_int (pe_call GD hr (by rfl) g1 k1 b1 .nil pass0 (pa_cons (pv 0) (pa_cons pe_int pa_nil))))))))) pss_nil)
      (pss_cons (ps_if (pt_cmpR op_eq (pv 1) pe_int (nomark _))
        (pss_one (ps_ret (pe_op op_mul (pe_op op_sub (pe_call GD hr (by rfl) g1 k1 b1 .nil pass0 (pa_cons (pv 0) (pa_cons pe_int pa_nil))) pe_int) (pe_ix ix_list (pe_lst (pa_cons pe_int (pa_cons pe_int (pa_cons pe_int pa_nil)))) (pe_call GD hr (by rfl) g1 k1 b1 .nil pass0 (pa_cons (pv 0) (pa_cons pe_int pa_nil))) (fun _ _ => rfl))))) pss_nil)
      (pss_cons (ps_if (pt_cmpR op_eq (pv 1) pe_int (nomark _))
        (pss_one (ps_ret (pe_op op_sub (pe_call GD hr (by rfl) g1 k1 b1 .nil pass0 (pa_cons (pv 0) (pa_cons (pe_op op_add (pe_op op_mul pe_int (pe_op op_pow pe_int pe_int)) pe_int) pa_nil))) (pe_op op_pow pe_int pe_int)))) pss_nil)
      (pss_one (ps_ret (pe_call GD hr (by rfl) g1 k1 b1 .nil pass0 (pa_cons (pv 0) (pa_cons pe_int pa_nil))))))))), ?_⟩
    have num : ∀ (i : Int) (H' : Hp), i.natAbs ≤ 1000000000000000 → Tape H' a → KeepX a H H' → Q (.int i) H' := fun i H' hi t kp => q H' _ (.num i) t kp (fun _ => .num i) hi
    refine ⟨_, rfl, a, 7, rfl, tp, by decide, by decide, fun H1 r t1 kp1 hr1 => ?_⟩
    refine ⟨_, rfl, rfl, _, rfl, ite2 (fun _ => ?_) (fun _ => ?_)⟩
    · exact ⟨_, rfl, a, rfl, t1, fun H2 x t2 kp2 hx => q H2 _ (.text x) t2 (kp1.trans kp2) (fun _ => .text x) hx⟩
    refine ⟨_, rfl, rfl, _, rfl, ite2 (fun _ => ?_) (fun _ => ?_)⟩
    · refine ⟨_, _, rfl, rfl, ⟨by decide, by decide, by decide⟩, _, _, rfl, rfl, _, _, rfl, rfl, ⟨by decide, by decide, by decide⟩, by show 10 ≤ sizeLine; decide, fun p np => ?_⟩
      have s1 := fun o => same_upd (o := o) np
      have hp : p ≠ a.1 := t1.ne np
      refine ⟨_, rfl, _, rfl, a, 10, rfl, t1.same (s1 _), by decide, by decide, fun H2 r2 t2 kp2 hr2 => ?_⟩
      refine ix_of (is := [0, 1, 65535, 65536, 65537, 4294967295, 4294967296, 281474976710656, 10 ^ 15 - 1, 10 ^ 15]) (kp2 _ _ upd_same hp) (by show r2 < 10; omega) fun i hi => ?_
      have hb : 0 ≤ i ∧ i ≤ 1000000000000000 := by
        have : ∀ i ∈ ([0, 1, 65535, 65536, 65537, 4294967295, 4294967296, 281474976710656, 10 ^ 15 - 1, 10 ^ 15] : List Int), 0 ≤ i ∧ i ≤ 1000000000000000 := by decide
        exact this i hi
      refine ⟨_, rfl, a, 2, rfl, t2, by decide, by decide, fun H3 r3 t3 kp3 hr3 => ?_⟩
      refine ⟨_, _, rfl, rfl, .inl ⟨by decide, by decide⟩, _, _, rfl, rfl, _, _, rfl, rfl, .inr ⟨by omega, by omega⟩, ?_⟩
      refine num _ _ ?_ t3 ((fun b o hb hne => kp3 _ _ (kp2 _ _ (s1 _ _ _ (kp1 _ _ hb hne)) hne) hne))
      have h2 : r3 = 0 ∨ r3 = 1 := by omega
      rcases h2 with rfl | rfl
      · simp; omega
      · simp; omega
    refine ⟨_, rfl, rfl, _, rfl, ite2 (fun _ => ?_) (fun _ => ?_)⟩
    · refine ⟨_, rfl, a, 2000001, rfl, t1, by decide, by decide, fun H2 r2 t2 kp2 hr2 => ?_⟩
      refine ⟨_, _, rfl, rfl, by show 3 ≤ sizeLine; decide, fun p np => ?_⟩
      have s1 := fun o => same_upd (o := o) np
      have hp : p ≠ a.1 := t2.ne np
      refine ⟨_, rfl, a, 3, rfl, t2.same (s1 _), by decide, by decide, fun H3 r3 t3 kp3 hr3 => ?_⟩
      refine ix_of (is := [1, 65536, 1000000000]) (kp3 _ _ upd_same hp) (by show r3 < 3; omega) fun i hi => ?_
      have hb : 0 ≤ i ∧ i ≤ 1000000000 := by
        have : ∀ i ∈ ([1, 65536, 1000000000] : List Int), 0 ≤ i ∧ i ≤ 1000000000 := by decide
        exact this i hi
      refine ⟨_, _, rfl, rfl, .inr ⟨by omega, by omega⟩, ?_⟩
      refine num _ _ ?_ t3 ((fun b o hb hne => kp3 _ _ (s1 _ _ _ (kp2 _ _ (kp1 _ _ hb hne) hne)) hne))
      rw [Int.natAbs_mul]
      exact Nat.le_trans (Nat.mul_le_mul (show _ ≤ 1000000 by omega) (show _ ≤ 1000000000 by omega)) (by decide)
    refine ⟨_, rfl, rfl, _, rfl, ite2 (fun _ => ?_) (fun _ => ?_)⟩
    · refine ⟨_, rfl, _, _, rfl, rfl, ⟨by decide, by decide, by decide⟩, _, _, rfl, rfl, .inl ⟨by decide, by decide⟩, _, _, rfl, rfl, a, _, rfl, t1, by decide, by decide, fun H2 r2 t2 kp2 hr2 => ?_⟩
      refine ⟨_, _, rfl, rfl, ⟨by decide, by decide, by decide⟩, _, _, rfl, rfl, num _ _ ?_ t2 (kp1.trans kp2)⟩
      have e : ((2 : Int) * 10 ^ (15 : Int).toNat + 1) = 2000000000000001 := by decide
      have e2 : ((10 : Int) ^ (15 : Int).toNat) = 1000000000000000 := by decide
      rw [e] at hr2
      rw [e2]; omega
    · exact ⟨_, rfl, a, 9, rfl, t1, by decide, by decide, fun H2 r2 t2 kp2 hr2 => num _ _ (by omega) t2 (kp1.trans kp2)⟩
/-! ### _law_element -/
theorem scElement : FnScope ["_law_tape_here", "_law_first"] ["_law_tape_here"] (defScope sElement) := ⟨rfl, rfl, rfl, by decide +kernel, rfl, by decide +kernel, by decide +kernel⟩
def spElement : Sp := fun vs H Q _ => ∃ (T : TL), vs = [.ref T.1] ∧ Tape H T ∧ ∀ (H' : Hp) (v : V) (k : NestedKey), Tape H' T → KeepX T H H' → NK H' k v → OkEl k → Q v H'
theorem ok_el {k : NestedKey} (h : OkSc k) : OkEl k := by
  cases k with
  | none => exact h.elim
  | num i => exact h
  | text x => exact h
  | tup ks => exact h.elim
theorem ok_element {f : Addr} {fd : FuncData} {k : Nat} (F : Fun K "_law_element" "_law_element" sElement f fd) (GD : FnG P w K mg base "_law_draw" k ["_law_tape_here", "_law_many"] spDraw) (GS : FnG P w K mg base "_law_scalar" k ["_law_tape_here"] spScalar) : FnOk P w K mg base CX0 (k + 1) f fd ["_law_tape_here"] spElement := by
  obtain ⟨f1, fd1, g1, k1, b1, GD⟩ := GD
  obtain ⟨f2, fd2, g2, k2, b2, GS⟩ := GS
  refine F.ok scElement (fun vs H Q E h => ?_) (fun cdv A outer s H vs Q E hr h => ?_)
  · obtain ⟨a, rfl, _⟩ := h
    rfl
  · obtain ⟨a, rfl, tp, q⟩ := h
    refine ⟨_, pss_cons (ps_set (i := 1) scElement.nd rfl (.inl rfl) (pe_call GS hr (by rfl) g2 k2 b2 .nil pass0 (pa_cons (pv 0) pa_nil)))
      (pss_cons (ps_if (pt_cmpR op_eq (pe_call GD hr (by rfl) g1 k1 b1 .nil pass0 (pa_cons (pv 0) (pa_cons pe_int pa_nil))) pe_int (nomark _))
        (pss_one (ps_ret (pe_tup (pa_cons (pv 1) (pa_cons (pe_call GS hr (by rfl) g2 k2 b2 .nil pass0 (pa_cons (pv 0) pa_nil)) pa_nil))))) pss_nil)
      (pss_one (ps_ret (pv 1)))), ?_⟩
    refine ⟨_, rfl, a, rfl, tp, fun H1 v e t1 kp1 nk1 ok1 => ?_⟩
    refine ⟨_, rfl, a, 4, rfl, t1, by decide, by decide, fun H2 r t2 kp2 hr2 => ?_⟩
    refine ⟨rfl, _, rfl, ite2 (fun _ => ?_) (fun _ => ?_)⟩
    · refine ⟨_, rfl, _, rfl, a, rfl, t2, fun H3 v3 e3 t3 kp3 nk3 ok3 => ⟨by show 2 ≤ sizeLine; decide, fun p np => ?_⟩⟩
      have s1 := same_upd (o := HO.tup [v, v3]) np
      exact q _ _ (.tup [e, e3]) (t3.same s1) (((kp1.trans kp2).trans kp3).same s1) (.tup upd_same (.cons (nk1 _) (.cons (nk3 _) .nil))) ⟨ok1, ok3⟩
    · exact ⟨_, rfl, q _ _ e t2 (kp1.trans kp2) (nk1 _) (ok_el ok1)⟩
end
end Sh

namespace Sh
open PySem PySem.Spec PyProof.Rows L2
abbrev sContents : Stmt := topS 39
abbrev sLarge : Stmt := topS 40
abbrev sSpread : Stmt := topS 45
/-- a list of elements -/
def Cont (H : Hp) (D : Addr) (c : List NestedKey) : Prop := (∃ vs, H D = some (.lst vs) ∧ NKs H c vs) ∧ ∀ e ∈ c, OkEl e
theorem Cont.keep {H H' : Hp} {D : Addr} {c : List NestedKey} (h : Cont H D c) (e : ∀ o, H D = some o → H' D = some o) (t : Tups H H') : Cont H' D c := by
  obtain ⟨⟨vs, h1, h2⟩, h3⟩ := h
  exact ⟨⟨vs, e _ h1, NKs.keep t _ _ h2⟩, h3⟩
theorem Cont.same {H H' : Hp} {D : Addr} {c : List NestedKey} (h : Cont H D c) (s : Same H H') : Cont H' D c := h.keep (fun o => s _ o) (tups_of s)
theorem Cont.keepX {H H' : Hp} {D : Addr} {T : TL} {c : List NestedKey} (h : Cont H D c) (t : Tape H T) (k : KeepX T H H') (hD : D ≠ T.1) : Cont H' D c := h.keep (fun o e => k _ _ e hD) (k.tups t)
theorem Cont.nil {H : Hp} {D : Addr} (h : H D = some (.lst [])) : Cont H D [] := ⟨⟨[], h, .nil⟩, fun _ z => nomatch z⟩
theorem tups_lst {H : Hp} {D : Addr} {xs : List V} {o : HO} (h : H D = some (.lst xs)) : Tups H (upd H D o) := fun a ys e => by
  rw [upd_ne (ne_of e h (fun z => nomatch z))]; exact e
theorem Cont.snoc {H : Hp} {D : Addr} {c : List NestedKey} {acc : List V} {y : V} {e : NestedKey} (h : Cont H D c) (hD : H D = some (.lst acc)) (nk : NK H e y) (ok : OkEl e) : Cont (upd H D (.lst (acc ++ [y]))) D (c ++ [e]) := by
  obtain ⟨⟨vs, h1, h2⟩, h3⟩ := h
  rw [hD] at h1
  cases h1
  refine ⟨⟨_, upd_same, NKs.append (NKs.keep (tups_lst hD) _ _ h2) (.cons (NK.keep (tups_lst hD) _ _ nk) .nil)⟩, fun x hx => ?_⟩
  rcases List.mem_append.mp hx with z | z
  · exact h3 x z
  · have : x = e := by simpa using z
    rw [this]; exact ok
theorem Cont.len {H : Hp} {D : Addr} {c : List NestedKey} (h : Cont H D c) : ∃ vs, H D = some (.lst vs) ∧ vs.length = c.length := by
  obtain ⟨⟨vs, h1, h2⟩, _⟩ := h
  exact ⟨vs, h1, h2.length.symm⟩
theorem pick {K : PySem.W.Frag} {H : Hp} {p : Addr} {c : List NestedKey} {r : Nat} {Q : VK} (h : Cont H p c) (hr : r < c.length) (q : ∀ v e, NK H e v → OkEl e → Q v H) : rIxL K (.ref p) (.int r) H Q := by
  obtain ⟨⟨vs, h1, h2⟩, h3⟩ := h
  obtain ⟨v, hv⟩ : ∃ v, vs[r]? = some v := ⟨_, List.getElem?_eq_getElem (by have := h2.length; omega)⟩
  obtain ⟨e, he, nk⟩ := h2.get hv
  exact ⟨p, vs, r, v, rfl, rfl, SqL.of h1, atI_nat hv, q v e nk (h3 e (List.mem_of_getElem? he))⟩
theorem rCat_of {H : Hp} {l b : Addr} {c d : List NestedKey} {Q : VK} (h1 : Cont H l c) (h2 : Cont H b d) (hl : c.length + d.length ≤ 16000000) (q : ∀ (H' : Hp) (p : Addr), Same H H' → H p = none → Cont H' p (c ++ d) → Q (.ref p) H') : rCat (.ref l) (.ref b) H Q := by
  obtain ⟨⟨vs, a1, a2⟩, a3⟩ := h1
  obtain ⟨⟨us, b1, b2⟩, b3⟩ := h2
  refine ⟨l, b, vs, us, rfl, rfl, a1, b1, by rw [← a2.length, ← b2.length]; exact line_big hl, fun p np => ?_⟩
  have s1 := same_upd (o := HO.lst (vs ++ us)) np
  refine q _ p s1 np ⟨⟨_, upd_same, NKs.append (NKs.keep (tups_of s1) _ _ a2) (NKs.keep (tups_of s1) _ _ b2)⟩, fun e he => ?_⟩
  rcases List.mem_append.mp he with z | z
  · exact a3 e z
  · exact b3 e z
def cutK (c : List NestedKey) (lo hi : Option Int) : List NestedKey := (c.drop (HT.sIx c.length 0 lo)).take (HT.sIx c.length c.length hi - HT.sIx c.length 0 lo)
theorem cutK_len (c : List NestedKey) (lo hi : Option Int) : (cutK c lo hi).length ≤ c.length := by
  unfold cutK
  rw [List.length_take, List.length_drop]; omega
theorem cutK_mem {c : List NestedKey} {lo hi : Option Int} {e : NestedKey} (h : e ∈ cutK c lo hi) : e ∈ c := List.mem_of_mem_drop (List.mem_of_mem_take h)
theorem rSlL_of {K : PySem.W.Frag} {H : Hp} {l : Addr} {c : List NestedKey} {lo hi : Option Int} {Q : VK} (h1 : Cont H l c) (q : ∀ (H' : Hp) (p : Addr), Same H H' → H p = none → Cont H' p (cutK c lo hi) → Q (.ref p) H') : rSlL K (.ref l) lo hi H Q := by
  obtain ⟨⟨vs, a1, a2⟩, a3⟩ := h1
  refine ⟨l, vs, rfl, SqL.of a1, fun p np => ?_⟩
  have s1 := same_upd (o := HO.lst (cutV vs lo hi)) np
  refine q _ p s1 np ⟨⟨_, upd_same, ?_⟩, fun e he => a3 e (cutK_mem he)⟩
  unfold cutK cutV
  rw [a2.length]
  exact NKs.take _ (NKs.drop _ (NKs.keep (tups_of s1) _ _ a2))
theorem nks_rep {H : Hp} {c : List NestedKey} {vs : List V} (h : NKs H c vs) : ∀ n, NKs H (List.replicate n c).flatten (List.replicate n vs).flatten
  | 0 => .nil
  | n + 1 => by
    rw [List.replicate_succ, List.replicate_succ, List.flatten_cons, List.flatten_cons]
    exact NKs.append h (nks_rep h n)
theorem rep_len {α : Type} (c : List α) : ∀ n, (List.replicate n c).flatten.length = c.length * n
  | 0 => rfl
  | n + 1 => by rw [List.replicate_succ, List.flatten_cons, List.length_append, rep_len c n, Nat.mul_succ]; omega
theorem rRep_of {H : Hp} {l : Addr} {c : List NestedKey} {n : Nat} {k : Int} {Q : VK} (h1 : Cont H l c) (hk : k = (n : Nat)) (hn : n ≤ 1000) (hl : c.length ≤ 1000) (q : ∀ (H' : Hp) (p : Addr), Same H H' → H p = none → Cont H' p (List.replicate n c).flatten → Q (.ref p) H') : rRep (.ref l) (.int k) H Q := by
  obtain ⟨⟨vs, a1, a2⟩, a3⟩ := h1
  subst hk
  have hm : c.length * n ≤ 1000 * 1000 := Nat.mul_le_mul hl hn
  refine ⟨l, (n : Nat), vs, rfl, rfl, a1, by omega, by omega, by rw [← a2.length, Int.toNat_natCast]; exact line_big (by omega), fun p np => ?_⟩
  rw [Int.toNat_natCast]
  have s1 := same_upd (o := HO.lst (List.replicate n vs).flatten) np
  refine q _ p s1 np ⟨⟨_, upd_same, nks_rep (NKs.keep (tups_of s1) _ _ a2) n⟩, fun e he => ?_⟩
  obtain ⟨l', h1, h2⟩ := List.mem_flatten.mp he
  rw [List.eq_of_mem_replicate h1] at h2
  exact a3 e h2
theorem cont_ints {H : Hp} {D : Addr} {is : List Int} (h : H D = some (.lst (is.map V.int))) (hi : ∀ i ∈ is, i.natAbs ≤ 1000000000000000) : Cont H D (is.map NestedKey.num) :=
  ⟨⟨_, h, NKs.nums is⟩, fun e he => by
    obtain ⟨i, h1, rfl⟩ := List.mem_map.mp he
    exact hi i h1⟩
section
variable {P : Program} {w : World} {K : PySem.W.Frag} {mg : Str → Option Value} {base : Heap} {C : Addr}
/-! ### _law_large -/
theorem scLarge : FnScope ["_law_tape_here", "_law_size", "_law_number", "_law_width", "_law_row", "_law_k"] ["_law_tape_here", "_law_size"] (defScope sLarge) := ⟨rfl, rfl, rfl, by decide +kernel, rfl, by decide +kernel, by decide +kernel⟩
def spLarge : Sp := fun vs H Q _ => ∃ (T : TL) (n : Nat), vs = [.ref T.1, .int n] ∧ Tape H T ∧ n ≤ 2000 ∧ ∀ (H' : Hp) (D : Addr) (c : List NestedKey), Tape H' T → KeepX T H H' → H D = none → Cont H' D c → c.length = n → Q (.ref D) H'
theorem ok_large {f : Addr} {fd : FuncData} {k : Nat} (F : Fun K "_law_large" "_law_large" sLarge f fd) (T : Txt mg) (GD : FnG P w K mg base "_law_draw" k ["_law_tape_here", "_law_many"] spDraw) : FnOk P w K mg base CX0 (k + 1) f fd ["_law_tape_here", "_law_size"] spLarge := by
  obtain ⟨f1, fd1, g1, k1, b1, GD⟩ := GD
  refine F.ok scLarge (fun vs H Q E h => ?_) (fun cdv A outer s H vs Q E hr h => ?_)
  · obtain ⟨a, n, rfl, _⟩ := h
    rfl
  · obtain ⟨a, n, rfl, tp, hn, q⟩ := h
    refine ⟨_, pss_cons (ps_set (i := 2) scLarge.nd rfl (.inl rfl) (pe_op op_add pe_int (pe_call GD hr (by rfl) g1 k1 b1 .nil pass0 (pa_cons (pv 0) (pa_cons pe_int pa_nil)))))
      (pss_cons (ps_set (i := 3) scLarge.nd rfl (.inl rfl) (pe_ix ix_list (pe_lst (pa_cons pe_int (pa_cons pe_int (pa_cons pe_int (pa_cons pe_int (pa_cons pe_int pa_nil)))))) (pe_call GD hr (by rfl) g1 k1 b1 .nil pass0 (pa_cons (pv 0) (pa_cons pe_int pa_nil))) (fun _ _ => rfl)))
      (pss_cons (ps_set (i := 4) scLarge.nd rfl (.inl rfl) (pe_lst pa_nil))
      (pss_cons (ps_for PassesOwn.never rfl (pi_range1 rfl T.range (pa_cons (pv 1) pa_nil)) (pg_name (i := 5) scLarge.nd rfl (.inl rfl))
        (pss_cons (ps_set (i := 2) scLarge.nd rfl (.inl rfl) (pe_op op_mod (pe_callTy call_int1 (by rfl) T.int boot_int (pa_cons (pe_op op_mul (pv 2) pe_int) pa_nil)) pe_int))
        (pss_one (ps_expr (pe_bm PySem.F.plainAttrs_list PySem.F.slot_list_append PySem.F.type_list_append mt_append (pv 4) (pa_cons (pe_op op_mod (pe_callTy call_int1 (by rfl) T.int boot_int (pa_cons (pv 2) pa_nil)) (pv 3)) pa_nil))))))
      (pss_one (ps_ret (pv 4)))))), ?_⟩
    refine ⟨_, rfl, a, 2147483646, rfl, tp, by decide, by decide, fun H1 r1 t1 kp1 hr1 => ?_⟩
    refine ⟨_, _, rfl, rfl, by show 5 ≤ sizeLine; decide, fun p np => ?_⟩
    have s1 := fun o => same_upd (o := o) np
    have hp : p ≠ a.1 := t1.ne np
    refine ⟨_, rfl, a, 5, rfl, t1.same (s1 _), by decide, by decide, fun H2 r2 t2 kp2 hr2 => ?_⟩
    refine ix_of (is := [2, 9, 1000, 1000000, 1000000]) (kp2 _ _ upd_same hp) (by show r2 < 5; omega) fun wd hw => ?_
    have hb : 0 < wd ∧ wd ≤ 1000000 := by
      have : ∀ i ∈ ([2, 9, 1000, 1000000, 1000000] : List Int), 0 < i ∧ i ≤ 1000000 := by decide
      exact this wd hw
    have kp : KeepX a H H2 := fun b o hb hne => kp2 _ _ (s1 _ _ _ (kp1 _ _ hb hne)) hne
    refine ⟨Nat.zero_le _, fun D nD => ?_⟩
    have d1 := t2.ne nD
    have d2 := t2.ne2 nD
    have nDH : H D = none := by
      cases e : H D with
      | none => rfl
      | some o => exact absurd (kp _ _ e d1) (by rw [nD]; exact fun z => nomatch z)
    refine ⟨_, rfl, n, rfl, by omega, by omega, ?_⟩
    refine for_range (lo := 0) (n := ((n : Nat) : Int).toNat) (fun i σ H' => ∃ (x : Int) (y : Option V) (is : List Int), σ = [some (.ref a.1), some (.int n), some (.int x), some (.int wd), some (.ref D), y] ∧ Tape H' a ∧ KeepX a H H' ∧ H' D = some (.lst (is.map V.int)) ∧ is.length = i ∧ ∀ z ∈ is, z.natAbs ≤ 1000000000000000) ?_ ?_ ?_
    · exact ⟨_, none, [], rfl, t2.same (same_upd nD), kp.same (same_upd nD), by rw [upd_same]; rfl, rfl, fun _ z => nomatch z⟩
    · rintro i σ H3 hi ⟨x, y, is, rfl, t3, kp3, hD, hl, hz⟩
      refine ⟨_, rfl, _, _, rfl, rfl, .inr ⟨by decide, by decide⟩, .inl ⟨_, rfl, _, _, rfl, rfl, (by show (0 : Int) < 2147483647; decide), ?_⟩⟩
      refine ⟨_, rfl, .inl ⟨rfl, _, SqL.of hD⟩, _, rfl, .inl ⟨_, rfl, _, rfl, _, _, rfl, rfl, hb.1, ?_⟩⟩
      refine ⟨D, _, _, rfl, rfl, hD, by rw [List.length_map]; exact line_lt (by omega), ?_⟩
      refine ⟨_, _, is ++ [_], rfl, t3.upd d1 d2, keepX_upd kp3 nDH, by rw [upd_same, List.map_append]; rfl, by rw [List.length_append, hl]; rfl, fun z hz' => ?_⟩
      rcases List.mem_append.mp hz' with h | h
      · exact hz z h
      · have e : z = _ := List.mem_singleton.mp h
        rw [e]
        have h1 := Int.emod_nonneg (x * 48271 % 2147483647) (show wd ≠ 0 by omega)
        have h2 := Int.emod_lt_of_pos (x * 48271 % 2147483647) hb.1
        omega
    · rintro σ H3 ⟨x, y, is, rfl, t3, kp3, hD, hl, hz⟩
      exact ⟨_, rfl, q _ D _ t3 kp3 nDH (cont_ints hD hz) (by rw [List.length_map, hl, Int.toNat_natCast])⟩
end
end Sh

namespace Sh
open PySem PySem.Spec PyProof.Rows L2
section
variable {P : Program} {w : World} {K : PySem.W.Frag} {mg : Str → Option Value} {base : Heap} {C : Addr}
/-! ### _law_contents -/
abbrev nmC : List Str := ["_law_tape_here", "_law_most", "_law_k", "_law_pool", "_law_row", "_law_choice", "_law_start", "_law_at", "_law_j"]
theorem scContents : FnScope nmC ["_law_tape_here", "_law_most"] (defScope sContents) := ⟨rfl, rfl, rfl, by decide +kernel, rfl, by decide +kernel, by decide +kernel⟩
def spContents : Sp := fun vs H Q _ => ∃ (T : TL), vs = [.ref T.1, .int 60] ∧ Tape H T ∧ ∀ (H' : Hp) (D : Addr) (c : List NestedKey), Tape H' T → KeepX T H H' → D ≠ T.1 → D ≠ T.2 → Cont H' D c → c.length ≤ 60 → Q (.ref D) H'
theorem KeepX.free {T : TL} {H H' : Hp} {D : Addr} (k : KeepX T H H') (hD : H' D = none) (hne : D ≠ T.1) : H D = none := by
  cases e : H D with
  | none => rfl
  | some o => exact absurd (k _ _ e hne) (by rw [hD]; exact fun z => nomatch z)
theorem KeepX.after {T : TL} {H H1 H2 : Hp} (s : Same H H1) (k : KeepX T H1 H2) : KeepX T H H2 := fun b o hb hne => k _ _ (s _ _ hb) hne
theorem cont_one {H : Hp} {l : Addr} {v : V} {e : NestedKey} (nl : H l = none) (nk : NK H e v) (ok : OkEl e) : Cont (upd H l (.lst [v])) l [e] :=
  ⟨⟨[v], upd_same, .cons (NK.keep (tups_of (same_upd nl)) _ _ nk) .nil⟩, fun x hx => by
    have : x = e := by simpa using hx
    rw [this]; exact ok⟩
theorem noPart_of {σ : L2.St} {H : Hp} {Q : Option Int → Hp → Prop} (h : Q none H) : tNoPart σ H Q := h
theorem cut_back (c : List NestedKey) : (cutK c (some (-2)) none).length ≤ 2 := by
  unfold cutK
  rw [List.length_take, List.length_drop, HT.sIx_none]
  have : HT.sIx c.length 0 (some (-2)) = (-2 + (c.length : Int)).toNat := rfl
  rw [this]; omega
theorem cut_front (c : List NestedKey) (m : Nat) : (cutK c none (some (m : Nat))).length ≤ m := by
  unfold cutK
  rw [List.length_take, List.length_drop, HT.sIx_nat]
  show min (min m c.length - 0) _ ≤ m
  omega
theorem ok_contents {f : Addr} {fd : FuncData} {k : Nat} (F : Fun K "_law_contents" "_law_contents" sContents f fd) (T : Txt mg) (GD : FnG P w K mg base "_law_draw" k ["_law_tape_here", "_law_many"] spDraw) (GE : FnG P w K mg base "_law_element" k ["_law_tape_here"] spElement) : FnOk P w K mg base CX0 (k + 1) f fd ["_law_tape_here", "_law_most"] spContents := by
  obtain ⟨f1, fd1, g1, k1, b1, GD⟩ := GD
  obtain ⟨f2, fd2, g2, k2, b2, GE⟩ := GE
  refine F.ok scContents (fun vs H Q E h => ?_) (fun cdv A outer s H vs Q E hr h => ?_)
  · obtain ⟨a, rfl, _⟩ := h
    rfl
  · obtain ⟨a, rfl, tp, q⟩ := h
    refine ⟨_, pss_mid (ps_set (i := 3) scContents.nd rfl (.inr rfl) (pe_lc (own := [("_law_k", 2)]) (g := gName 2) (tt := tYes) (te := tCall spElement [] E0 (tCons (tVar 0) tNil)) rfl scContents.nd (pi_range1 (by rfl) T.range (pa_cons (pe_op op_add pe_int (pe_call GD hr (by rfl) g1 k1 b1 .nil pass0 (pa_cons (pv 0) (pa_cons pe_int pa_nil)))) pa_nil)) (blkOk_by (N := nmC) (sc := defScope sContents) (by decide +kernel))
          (fun _ _ _ _ _ => pg_name (i := 2) scContents.nd rfl (Or.inl rfl)) (fun _ _ _ _ _ => pts_nil) (fun _ _ _ _ _ => pe_call GE hr (by rfl) g2 k2 b2 .nil pass0 (pa_cons (pv 0) pa_nil))))
      (pss_cons (ps_set (i := 4) scContents.nd rfl (.inl rfl) (pe_lst pa_nil))
      (pss_cons (ps_for PassesOwn.never rfl (pi_range1 rfl T.range (pa_cons (pe_call GD hr (by rfl) g1 k1 b1 .nil pass0 (pa_cons (pv 0) (pa_cons pe_int pa_nil))) pa_nil)) (pg_name (i := 2) scContents.nd rfl (.inl rfl))
        (pss_cons (ps_set (i := 5) scContents.nd rfl (.inl rfl) (pe_call GD hr (by rfl) g1 k1 b1 .nil pass0 (pa_cons (pv 0) (pa_cons pe_int pa_nil))))
        (pss_one (ps_if (pt_cmpR op_eq (pv 5) pe_int (nomark _))
          (pss_one (ps_set (i := 4) scContents.nd rfl (.inl rfl) (pe_op op_cat (pv 4) (pe_op op_rep (pe_lst (pa_cons (pe_ix ix_list (pv 3) (pe_call GD hr (by rfl) g1 k1 b1 .nil pass0 (pa_cons (pv 0) (pa_cons (pe_callB call_len_seq (by rfl) T.len PySem.boot_len (pa_cons (pv 3) pa_nil)) pa_nil))) (fun _ _ => rfl)) pa_nil)) (pe_op op_add pe_int (pe_call GD hr (by rfl) g1 k1 b1 .nil pass0 (pa_cons (pv 0) (pa_cons pe_int pa_nil))))))))
          (pss_one (ps_if (pt_cmpR op_eq (pv 5) pe_int (nomark _))
            (pss_cons (ps_set (i := 6) scContents.nd rfl (.inr rfl) (pe_call GD hr (by rfl) g1 k1 b1 .nil pass0 (pa_cons (pv 0) (pa_cons pe_int pa_nil))))
            (pss_one (ps_set (i := 4) scContents.nd rfl (.inl rfl) (pe_op op_cat (pv 4) (pe_lc (own := [("_law_j", 8)]) (g := gName 8) (tt := tYes) rfl scContents.nd (pi_range1 (by rfl) T.range (pa_cons (pe_op op_add pe_int (pe_call GD hr (by rfl) g1 k1 b1 .nil pass0 (pa_cons (pv 0) (pa_cons pe_int pa_nil)))) pa_nil)) (blkOk_by (N := nmC) (sc := defScope sContents) (by decide +kernel))
                (fun _ _ _ _ _ => pg_name (i := 8) scContents.nd rfl (Or.inl rfl)) (fun _ _ _ _ _ => pts_nil) (fun _ _ _ _ _ => pe_op op_add (pv 6) (pv 8)))))))
            (pss_one (ps_if (pt_cmpR op_eq (pv 5) pe_int (nomark _))
              (pss_cons (ps_set (i := 7) scContents.nd rfl (.inl rfl) (pe_call GD hr (by rfl) g1 k1 b1 .nil pass0 (pa_cons (pv 0) (pa_cons (pe_op op_add (pe_callB call_len_seq (by rfl) T.len PySem.boot_len (pa_cons (pv 4) pa_nil)) pe_int) pa_nil))))
              (pss_one (ps_set (i := 4) scContents.nd rfl (.inl rfl) (pe_op op_cat (pv 4) (pe_slice sl_list (pv 4) (po_some (pv 7)) (po_some (pe_op op_add (pe_op op_add (pv 7) pe_int) (pe_call GD hr (by rfl) g1 k1 b1 .nil pass0 (pa_cons (pv 0) (pa_cons pe_int pa_nil))))))))))
              (pss_one (ps_if (pt_cmpR op_eq (pv 5) pe_int (nomark _))
                (pss_one (ps_set (i := 4) scContents.nd rfl (.inl rfl) (pe_op op_cat (pv 4) (pe_op op_rep (pe_op op_cat (pe_slice sl_list (pv 4) (po_some (pe_un un_neg pe_int)) po_none) (pe_lst (pa_cons (pe_ix ix_list (pv 3) (pe_call GD hr (by rfl) g1 k1 b1 .nil pass0 (pa_cons (pv 0) (pa_cons (pe_callB call_len_seq (by rfl) T.len PySem.boot_len (pa_cons (pv 3) pa_nil)) pa_nil))) (fun _ _ => rfl)) pa_nil))) (pe_op op_add pe_int (pe_call GD hr (by rfl) g1 k1 b1 .nil pass0 (pa_cons (pv 0) (pa_cons pe_int pa_nil))))))))
                (pss_one (ps_set (i := 4) scContents.nd rfl (.inl rfl) (pe_op op_cat (pv 4) (pe_lc (own := [("_law_j", 8)]) (g := gName 8) (tt := tYes) (te := tOp (rIxL K) (tVar 3) (tCall spDraw [] E0 (tCons (tVar 0) (tCons (tCB (fun xs H Q => ∃ p ys, xs = [.ref p] ∧ (SqL K H p ys ∨ SqT K H p ys) ∧ Q (.int ys.length) H) (tCons (tVar 3) tNil)) tNil)))) rfl scContents.nd (pi_range1 (by rfl) T.range (pa_cons (pe_op op_add pe_int (pe_call GD hr (by rfl) g1 k1 b1 .nil pass0 (pa_cons (pv 0) (pa_cons pe_int pa_nil)))) pa_nil)) (blkOk_by (N := nmC) (sc := defScope sContents) (by decide +kernel))
                    (fun _ _ _ _ _ => pg_name (i := 8) scContents.nd rfl (Or.inl rfl)) (fun _ _ _ _ _ => pts_nil) (fun _ _ _ _ _ => pe_ix ix_list (pv 3) (pe_call GD hr (by rfl) g1 k1 b1 .nil pass0 (pa_cons (pv 0) (pa_cons (pe_callB call_len_seq (by rfl) T.len PySem.boot_len (pa_cons (pv 3) pa_nil)) pa_nil))) (fun _ _ => rfl))))))))))))))))
      (pss_one (ps_ret (pe_slice sl_list (pv 4) po_none (po_some (pv 1))))))), ?_⟩
    refine ⟨fun σ H1 => ∃ (p : Addr) (pool : List NestedKey), σ = [some (.ref a.1), some (.int 60), none, some (.ref p), none, none, none, none, none] ∧ Tape H1 a ∧ KeepX a H H1 ∧ Cont H1 p pool ∧ p ≠ a.1 ∧ 1 ≤ pool.length ∧ pool.length ≤ 5, ?_, ?_⟩
    · refine ⟨_, rfl, a, 5, rfl, tp, by decide, by decide, fun H1 r t1 kp1 hr1 => ?_⟩
      refine ⟨_, _, rfl, rfl, 1 + (r : Int), rfl, by omega, by omega, fun D nD => ?_⟩
      have d1 := t1.ne nD
      have d2 := t1.ne2 nD
      have nDH := kp1.free nD d1
      refine lc_range (lo := 0) (n := (1 + (r : Int)).toNat) (fun i H' => ∃ c, Tape H' a ∧ KeepX a H H' ∧ Cont H' D c ∧ c.length = i) ⟨[], t1.same (same_upd nD), kp1.same (same_upd nD), Cont.nil upd_same, rfl⟩ ?_ ?_
      · rintro i H2 hi ⟨c, t2, kp2, cD, hc⟩
        refine ⟨rfl, _, rfl, a, rfl, t2, fun H3 v e t3 kp3 nk ok => ?_⟩
        have cD3 := cD.keepX t2 kp3 d1
        obtain ⟨acc, hA, hAl⟩ := cD3.len
        exact ⟨acc, hA, by rw [hAl]; exact line_lt (by omega), c ++ [e], t3.upd d1 d2, keepX_upd (kp2.trans kp3) nDH, cD3.snoc hA nk ok, by rw [List.length_append, hc]; rfl⟩
      · rintro H2 ⟨c, t2, kp2, cD, hc⟩
        exact ⟨D, c, rfl, t2, kp2, cD, d1, by omega, by omega⟩
    · rintro σ H1 ⟨p, pool, rfl, t1, kp1, cp, hp, hp1, hp5⟩
      refine ⟨Nat.zero_le _, fun rw0 nrw => ?_⟩
      have s1 := same_upd (o := HO.lst []) nrw
      refine ⟨_, rfl, a, 10, rfl, t1.same s1, by decide, by decide, fun H2 r t2 kp2 hr2 => ?_⟩
      refine ⟨_, rfl, by omega, by omega, ?_⟩
      have kpH : KeepX a H H2 := kp1.trans (kp2.after s1)
      have r1 := t1.ne nrw
      have r2 := t1.ne2 nrw
      refine for_range (lo := 0) (n := ((r : Nat) : Int).toNat) (fun i σ H' => ∃ (rw : Addr) (c : List NestedKey) (y2 y5 y6 y7 : Option V), σ = [some (.ref a.1), some (.int 60), y2, some (.ref p), some (.ref rw), y5, y6, y7, none] ∧ Tape H' a ∧ KeepX a H H' ∧ Cont H' p pool ∧ Cont H' rw c ∧ rw ≠ a.1 ∧ rw ≠ a.2 ∧ c.length + 18 ≤ 18 * 2 ^ i) ?_ ?_ ?_
      · exact ⟨rw0, [], none, none, none, none, rfl, t2, kpH, (cp.same s1).keepX (t1.same s1) kp2 hp, (Cont.nil upd_same).keepX (t1.same s1) kp2 r1, r1, r2, by simp⟩
      · rintro i σ H3 hi ⟨rw, c, y2, y5, y6, y7, rfl, t3, kp3, cp3, cr3, rw1, rw2, hb⟩
        have h2i : 2 ^ i ≤ 2 ^ 9 := Nat.pow_le_pow_right (by omega) (by omega)
        have h2p : 1 ≤ 2 ^ i := Nat.one_le_two_pow
        have hsucc : 2 ^ (i + 1) = 2 * 2 ^ i := by rw [Nat.pow_succ]; omega
        have hclen : c.length ≤ 10000 := by omega
        refine ⟨_, rfl, a, 5, rfl, t3, by decide, by decide, fun H4 ch t4 kp4 hch => ?_⟩
        have cp4 := cp3.keepX t3 kp4 hp
        have cr4 := cr3.keepX t3 kp4 rw1
        have kpH4 := kp3.trans kp4
        obtain ⟨pv, hpv, hpvl⟩ := cp4.len
        obtain ⟨rv, hrv, hrvl⟩ := cr4.len
        -- the new row, behind a cat
        have fin : ∀ (H5 : Hp) (d : List NestedKey) (x2 x5 x6 x7 : Option V) (H' : Hp) (q' : Addr), Tape H5 a → KeepX a H4 H5 → Same H5 H' → H5 q' = none → Cont H' q' (c ++ d) → d.length ≤ 18 ∨ d.length ≤ c.length → ∃ (rw : Addr) (c : List NestedKey) (y2 y5 y6 y7 : Option V), [some (V.ref a.1), some (.int 60), x2, some (.ref p), some (.ref q'), x5, x6, x7, none] = [some (.ref a.1), some (.int 60), y2, some (.ref p), some (.ref rw), y5, y6, y7, none] ∧ Tape H' a ∧ KeepX a H H' ∧ Cont H' p pool ∧ Cont H' rw c ∧ rw ≠ a.1 ∧ rw ≠ a.2 ∧ c.length + 18 ≤ 18 * 2 ^ (i + 1) :=
          fun H5 d x2 x5 x6 x7 H' q' t5 kp5 s5 nq cq hd => ⟨q', c ++ d, x2, x5, x6, x7, rfl, t5.same s5, (kpH4.trans kp5).same s5, (cp4.keepX t4 kp5 hp).same s5, cq, t5.ne nq, t5.ne2 nq, by rw [List.length_append]; omega⟩
        refine ⟨_, rfl, rfl, _, rfl, ite2 (fun _ => ?_) (fun _ => ?_)⟩
        · refine ⟨_, rfl, _, rfl, _, rfl, _, rfl, p, pv, rfl, .inl (SqL.of hpv), a, _, rfl, t4, by omega, by omega, fun H5 r5 t5 kp5 hr5 => ?_⟩
          refine pick (cp4.keepX t4 kp5 hp) (by omega) fun v e nk ok => ?_
          refine ⟨by show 1 ≤ sizeLine; decide, fun l nl => ?_⟩
          have s5 := same_upd (o := HO.lst [v]) nl
          refine ⟨_, rfl, a, 9, rfl, t5.same s5, by decide, by decide, fun H6 r6 t6 kp6 hr6 => ?_⟩
          refine ⟨_, _, rfl, rfl, ?_⟩
          refine rRep_of (n := 1 + r6) ((cont_one nl nk ok).keepX (t5.same s5) kp6 (t5.ne nl)) (by omega) (by omega) (by simp) fun H7 l7 s7 n7 c7 => ?_
          have kp7 : KeepX a H4 H7 := (kp5.trans (kp6.after s5)).same s7
          refine rCat_of (cr4.keepX t4 kp7 rw1) c7 (by rw [rep_len]; simp; omega) fun H8 q8 s8 n8 c8 => ?_
          exact fin H7 _ _ _ _ _ H8 q8 (t6.same s7) kp7 s8 n8 c8 (.inl (by rw [rep_len]; simp; omega))
        refine ⟨_, rfl, rfl, _, rfl, ite2 (fun _ => ?_) (fun _ => ?_)⟩
        · refine ⟨_, rfl, a, 30, rfl, t4, by decide, by decide, fun H5 r5 t5 kp5 hr5 => ?_⟩
          refine ⟨_, rfl, _, rfl, a, 14, rfl, t5, by decide, by decide, fun H6 r6 t6 kp6 hr6 => ?_⟩
          refine ⟨_, _, rfl, rfl, 1 + (r6 : Int), rfl, by omega, by omega, fun D nD => ?_⟩
          have d1 := t6.ne nD
          have d2 := t6.ne2 nD
          have kp56 := kp5.trans kp6
          have nDH := kp56.free nD d1
          refine lc_range (lo := 0) (n := (1 + (r6 : Int)).toNat) (fun i H' => ∃ is : List Int, Tape H' a ∧ KeepX a H4 H' ∧ H' D = some (.lst (is.map V.int)) ∧ is.length = i ∧ ∀ z ∈ is, z.natAbs ≤ 1000000000000000) ⟨[], t6.same (same_upd nD), kp56.same (same_upd nD), by rw [upd_same]; rfl, rfl, fun _ z => nomatch z⟩ ?_ ?_
          · rintro j H7 hj ⟨is, t7, kp7, hD, hl, hz⟩
            refine ⟨rfl, _, rfl, _, rfl, _, _, rfl, rfl, _, hD, by rw [List.length_map]; exact line_lt (by omega), is ++ [_], t7.upd d1 d2, keepX_upd kp7 nDH, by rw [upd_same, List.map_append]; rfl, by rw [List.length_append, hl]; rfl, fun z hz' => ?_⟩
            rcases List.mem_append.mp hz' with h | h
            · exact hz z h
            · have e : z = _ := List.mem_singleton.mp h
              rw [e]; omega
          · rintro H7 ⟨is, t7, kp7, hD, hl, hz⟩
            refine rCat_of (cr4.keepX t4 kp7 rw1) (cont_ints hD hz) (by rw [List.length_map]; omega) fun H8 q8 s8 n8 c8 => ?_
            exact fin H7 _ _ _ _ _ H8 q8 t7 kp7 s8 n8 c8 (.inl (by rw [List.length_map]; omega))
        refine ⟨_, rfl, rfl, _, rfl, ite2 (fun _ => ?_) (fun _ => ?_)⟩
        · refine ⟨_, rfl, _, rfl, rw, rv, rfl, .inl (SqL.of hrv), _, _, rfl, rfl, a, _, rfl, t4, by omega, by omega, fun H5 r5 t5 kp5 hr5 => ?_⟩
          refine ⟨_, rfl, _, rfl, _, rfl, _, rfl, _, rfl, _, _, rfl, rfl, _, rfl, a, 20, rfl, t5, by decide, by decide, fun H6 r6 t6 kp6 hr6 => ?_⟩
          refine ⟨_, _, rfl, rfl, _, rfl, ?_⟩
          have kp56 := kp5.trans kp6
          refine rSlL_of (cr4.keepX t4 kp56 rw1) fun H7 q7 s7 n7 c7 => ?_
          refine rCat_of ((cr4.keepX t4 kp56 rw1).same s7) c7 (by have := cutK_len c (some (r5 : Int)) (some ((r5 : Int) + 1 + (r6 : Int))); omega) fun H8 q8 s8 n8 c8 => ?_
          exact fin H7 _ _ _ _ _ H8 q8 (t6.same s7) (kp56.same s7) s8 n8 c8 (.inr (cutK_len _ _ _))
        refine ⟨_, rfl, rfl, _, rfl, ite2 (fun _ => ?_) (fun _ => ?_)⟩
        · refine ⟨_, rfl, _, rfl, _, rfl, _, rfl, ?_⟩
          refine noPart_of ?_
          refine rSlL_of cr4 fun H5 q5 s5 n5 c5 => ?_
          have t5 := t4.same s5
          have cp5 := cp4.same s5
          obtain ⟨pv5, hpv5, hpvl5⟩ := cp5.len
          refine ⟨_, rfl, _, rfl, _, rfl, p, pv5, rfl, .inl (SqL.of hpv5), a, _, rfl, t5, by omega, by omega, fun H6 r6 t6 kp6 hr6 => ?_⟩
          refine pick (cp5.keepX t5 kp6 hp) (by omega) fun v e nk ok => ?_
          refine ⟨by show 1 ≤ sizeLine; decide, fun l nl => ?_⟩
          have s6 := same_upd (o := HO.lst [v]) nl
          have hcb := cut_back c
          refine rCat_of ((c5.keepX t5 kp6 (t4.ne n5)).same s6) (cont_one nl nk ok) (by simp; omega) fun H7 q7 s7 n7 c7 => ?_
          have t7 := (t6.same s6).same s7
          refine ⟨_, rfl, a, 6, rfl, t7, by decide, by decide, fun H8 r8 t8 kp8 hr8 => ?_⟩
          refine ⟨_, _, rfl, rfl, ?_⟩
          have hl7 : (cutK c (some (-2)) none ++ [e]).length ≤ 3 := by rw [List.length_append]; simp; omega
          refine rRep_of (n := 1 + r8) (c7.keepX t7 kp8 ((t6.same s6).ne n7)) (by omega) (by omega) (by omega) fun H9 l9 s9 n9 c9 => ?_
          have kp9 : KeepX a H4 H9 := ((KeepX.after s5 ((kp6.same s6).same s7)).trans kp8).same s9
          have hl9 : (List.replicate (1 + r8) (cutK c (some (-2)) none ++ [e])).flatten.length ≤ 18 := by
            rw [rep_len]
            exact Nat.le_trans (Nat.mul_le_mul hl7 (show 1 + r8 ≤ 6 by omega)) (by decide)
          refine rCat_of (cr4.keepX t4 kp9 rw1) c9 (by omega) fun HA qA sA nA cA => ?_
          exact fin H9 _ _ _ _ _ HA qA (t8.same s9) kp9 sA nA cA (.inl hl9)
        · refine ⟨_, rfl, _, rfl, a, 6, rfl, t4, by decide, by decide, fun H6 r6 t6 kp6 hr6 => ?_⟩
          refine ⟨_, _, rfl, rfl, 1 + (r6 : Int), rfl, by omega, by omega, fun D nD => ?_⟩
          have d1 := t6.ne nD
          have d2 := t6.ne2 nD
          have nDH := kp6.free nD d1
          refine lc_range (lo := 0) (n := (1 + (r6 : Int)).toNat) (fun i H' => ∃ c, Tape H' a ∧ KeepX a H4 H' ∧ Cont H' D c ∧ c.length = i) ⟨[], t6.same (same_upd nD), kp6.same (same_upd nD), Cont.nil upd_same, rfl⟩ ?_ ?_
          · rintro j H7 hj ⟨c7, t7, kp7, cD, hc⟩
            have cp7 := cp4.keepX t4 kp7 hp
            obtain ⟨pv7, hpv7, hpvl7⟩ := cp7.len
            refine ⟨rfl, _, rfl, _, rfl, _, rfl, p, pv7, rfl, .inl (SqL.of hpv7), a, _, rfl, t7, by omega, by omega, fun H8 r8 t8 kp8 hr8 => ?_⟩
            refine pick (cp7.keepX t7 kp8 hp) (by omega) fun v e nk ok => ?_
            have cD8 := cD.keepX t7 kp8 d1
            obtain ⟨acc, hA, hAl⟩ := cD8.len
            exact ⟨acc, hA, by rw [hAl]; exact line_lt (by omega), c7 ++ [e], t8.upd d1 d2, keepX_upd (kp7.trans kp8) nDH, cD8.snoc hA nk ok, by rw [List.length_append, hc]; rfl⟩
          · rintro H7 ⟨c7, t7, kp7, cD, hc⟩
            refine rCat_of (cr4.keepX t4 kp7 rw1) cD (by omega) fun H8 q8 s8 n8 c8 => ?_
            exact fin H7 _ _ _ _ _ H8 q8 t7 kp7 s8 n8 c8 (.inl (by omega))
      · rintro σ H3 ⟨rw, c, y2, y5, y6, y7, rfl, t3, kp3, cp3, cr3, rw1, rw2, hb⟩
        refine ⟨_, rfl, _, rfl, _, rfl, ?_⟩
        refine rSlL_of cr3 fun H4 q4 s4 n4 c4 => ?_
        exact q _ q4 _ (t3.same s4) (kp3.same s4) (t3.ne n4) (t3.ne2 n4) c4 (cut_front c 60)
end
end Sh

namespace Sh
open PySem PySem.Spec PyProof.Rows L2
section
variable {P : Program} {w : World} {K : PySem.W.Frag} {mg : Str → Option Value} {base : Heap} {C : Addr}
/-! ### _law_spread -/
theorem scSpread : FnScope ["_law_tape_here", "_law_contents_here", "_law_choice"] ["_law_tape_here"] (defScope sSpread) := ⟨rfl, rfl, rfl, by decide +kernel, rfl, by decide +kernel, by decide +kernel⟩
def spSpread : Sp := fun vs H Q _ => ∃ (T : TL), vs = [.ref T.1] ∧ Tape H T ∧ ∀ (H' : Hp) (D : Addr) (c : List NestedKey), Tape H' T → KeepX T H H' → D ≠ T.1 → Cont H' D c → c.length ≤ 1100 → Q (.ref D) H'
theorem ok_spread {f : Addr} {fd : FuncData} {k : Nat} (F : Fun K "_law_spread" "_law_spread" sSpread f fd) (GD : FnG P w K mg base "_law_draw" k ["_law_tape_here", "_law_many"] spDraw) (GC : FnG P w K mg base "_law_contents" k ["_law_tape_here", "_law_most"] spContents) (GL : FnG P w K mg base "_law_large" k ["_law_tape_here", "_law_size"] spLarge) : FnOk P w K mg base CX0 (k + 1) f fd ["_law_tape_here"] spSpread := by
  obtain ⟨f1, fd1, g1, k1, b1, GD⟩ := GD
  obtain ⟨f2, fd2, g2, k2, b2, GC⟩ := GC
  obtain ⟨f3, fd3, g3, k3, b3, GL⟩ := GL
  refine F.ok scSpread (fun vs H Q E h => ?_) (fun cdv A outer s H vs Q E hr h => ?_)
  · obtain ⟨a, rfl, _⟩ := h
    rfl
  · obtain ⟨a, rfl, tp, q⟩ := h
    refine ⟨_, pss_cons (ps_set (i := 1) scSpread.nd rfl (.inl rfl) (pe_call GC hr (by rfl) g2 k2 b2 .nil pass0 (pa_cons (pv 0) (pa_cons pe_int pa_nil))))
      (pss_cons (ps_set (i := 2) scSpread.nd rfl (.inl rfl) (pe_call GD hr (by rfl) g1 k1 b1 .nil pass0 (pa_cons (pv 0) (pa_cons pe_int pa_nil))))
      (pss_mid (ps_if (pt_cmpR op_lt (pv 2) pe_int (nomark _)) (pss_one (ps_set (i := 1) scSpread.nd rfl (.inl rfl) (pe_op op_cat (pe_op op_cat (pv 1) (pe_call GL hr (by rfl) g3 k3 b3 .nil pass0 (pa_cons (pv 0) (pa_cons (pe_op op_add pe_int (pe_call GD hr (by rfl) g1 k1 b1 .nil pass0 (pa_cons (pv 0) (pa_cons pe_int pa_nil)))) pa_nil)))) (pe_slice sl_list (pv 1) po_none (po_some pe_int))))) pss_nil)
      (pss_mid (ps_if (pt_cmpR op_eq (pv 2) pe_int (nomark _)) (pss_one (ps_set (i := 1) scSpread.nd rfl (.inl rfl) (pe_op op_cat (pe_call GL hr (by rfl) g3 k3 b3 .nil pass0 (pa_cons (pv 0) (pa_cons (pe_op op_add pe_int (pe_call GD hr (by rfl) g1 k1 b1 .nil pass0 (pa_cons (pv 0) (pa_cons pe_int pa_nil)))) pa_nil))) (pv 1)))) pss_nil)
      (pss_mid (ps_if (pt_cmpR op_eq (pv 2) pe_int (nomark _)) (pss_one (ps_set (i := 1) scSpread.nd rfl (.inl rfl) (pe_op op_cat (pe_op op_cat (pv 1) (pe_slice sl_list (pv 1) (po_some pe_int) po_none)) (pv 1)))) pss_nil)
      (pss_mid (ps_if (pt_cmpR op_eq (pv 2) pe_int (nomark _)) (pss_one (ps_set (i := 1) scSpread.nd rfl (.inl rfl) (pe_op op_cat (pe_call GL hr (by rfl) g3 k3 b3 .nil pass0 (pa_cons (pv 0) (pa_cons (pe_op op_add pe_int (pe_call GD hr (by rfl) g1 k1 b1 .nil pass0 (pa_cons (pv 0) (pa_cons pe_int pa_nil)))) pa_nil))) (pv 1)))) pss_nil)
      (pss_one (ps_ret (pv 1)))))))), ?_⟩
    refine ⟨_, rfl, a, rfl, tp, fun H1 D1 c1 t1 kp1 d1 d2 cD1 hl1 => ?_⟩
    refine ⟨_, rfl, a, 8, rfl, t1, by decide, by decide, fun H2 ch t2 kp2 hch => ?_⟩
    have cD2 := cD1.keepX t1 kp2 d1
    let M : Nat → L2.St → Hp → Prop := fun n σ H' => ∃ (D : Addr) (c : List NestedKey), σ = [some (.ref a.1), some (.ref D), some (.int ch)] ∧ Tape H' a ∧ KeepX a H H' ∧ Cont H' D c ∧ D ≠ a.1 ∧ c.length ≤ 1100 ∧ (n ≤ ch → c.length ≤ 60)
    refine ⟨M 4, ?_, ?_⟩
    · refine ⟨_, rfl, _, _, rfl, rfl, _, rfl, ite2 (fun hlt => ?_) (fun hlt => ⟨D1, c1, rfl, t2, kp1.trans kp2, cD2, d1, by omega, fun _ => hl1⟩)⟩
      have hlt : (ch : Int) < 4 := of_decide_eq_true hlt
      refine ⟨_, rfl, _, rfl, _, rfl, a, 60, rfl, t2, by decide, by decide, fun H3 r3 t3 kp3 hr3 => ?_⟩
      refine ⟨_, _, rfl, rfl, a, 30 + r3, rfl, t3, by omega, fun H4 D4 c4 t4 kp4 n4 cD4 hl4 => ?_⟩
      have cD14 := cD2.keepX t2 (kp3.trans kp4) d1
      refine rCat_of cD14 cD4 (by omega) fun H5 D5 s5 n5 cD5 => ?_
      refine ⟨_, rfl, noPart_of ?_⟩
      refine ⟨20, rfl, ?_⟩
      refine rSlL_of (cD14.same s5) fun H6 D6 s6 n6 cD6 => ?_
      have hc6 : (cutK c1 none (some 20)).length ≤ 20 := cut_front c1 20
      have t5 := t4.same s5
      refine rCat_of (cD5.same s6) cD6 (by rw [List.length_append]; omega) fun H7 D7 s7 n7 cD7 => ?_
      exact ⟨D7, _, rfl, (t5.same s6).same s7, (((((kp1.trans kp2).trans kp3).trans kp4).same s5).same s6).same s7, cD7, (t5.same s6).ne n7, by rw [List.length_append, List.length_append]; omega, fun z => by omega⟩
    rintro σ H3 ⟨D, c, rfl, t3, kp3, cD, dD, hl, hs⟩
    refine ⟨M 5, ?_, ?_⟩
    · refine ⟨_, rfl, rfl, _, rfl, ite2 (fun hlt => ?_) (fun hlt => ⟨D, c, rfl, t3, kp3, cD, dD, hl, fun z => hs (by omega)⟩)⟩
      have hlt : ch = 4 := by have := V.int.inj (of_decide_eq_true hlt); omega
      refine ⟨_, rfl, _, rfl, a, 250, rfl, t3, by decide, by decide, fun H4 r4 t4 kp4 hr4 => ?_⟩
      refine ⟨_, _, rfl, rfl, a, 150 + r4, rfl, t4, by omega, fun H5 D5 c5 t5 kp5 n5 cD5 hl5 => ?_⟩
      have h60 := hs (by omega)
      refine ⟨_, rfl, rCat_of cD5 (cD.keepX t3 (kp4.trans kp5) dD) (by omega) fun H6 D6 s6 n6 cD6 => ?_⟩
      exact ⟨D6, _, rfl, t5.same s6, ((kp3.trans kp4).trans kp5).same s6, cD6, t5.ne n6, by rw [List.length_append]; omega, fun z => by omega⟩
    rintro σ H3 ⟨D, c, rfl, t3, kp3, cD, dD, hl, hs⟩
    refine ⟨M 6, ?_, ?_⟩
    · refine ⟨_, rfl, rfl, _, rfl, ite2 (fun hlt => ?_) (fun hlt => ⟨D, c, rfl, t3, kp3, cD, dD, hl, fun z => hs (by omega)⟩)⟩
      have hlt : ch = 5 := by have := V.int.inj (of_decide_eq_true hlt); omega
      have h60 := hs (by omega)
      refine ⟨_, rfl, _, rfl, _, rfl, noPart_of ?_⟩
      refine rSlL_of cD fun H6 D6 s6 n6 cD6 => ?_
      have hc6 := cutK_len c (some 5) none
      refine rCat_of (cD.same s6) cD6 (by omega) fun H7 D7 s7 n7 cD7 => ?_
      refine ⟨_, rfl, rCat_of cD7 ((cD.same s6).same s7) (by rw [List.length_append]; omega) fun H8 D8 s8 n8 cD8 => ?_⟩
      exact ⟨D8, _, rfl, ((t3.same s6).same s7).same s8, ((kp3.same s6).same s7).same s8, cD8, ((t3.same s6).same s7).ne n8, by rw [List.length_append, List.length_append]; omega, fun z => by omega⟩
    rintro σ H3 ⟨D, c, rfl, t3, kp3, cD, dD, hl, hs⟩
    refine ⟨M 7, ?_, ?_⟩
    · refine ⟨_, rfl, rfl, _, rfl, ite2 (fun hlt => ?_) (fun hlt => ⟨D, c, rfl, t3, kp3, cD, dD, hl, fun z => hs (by omega)⟩)⟩
      have hlt : ch = 6 := by have := V.int.inj (of_decide_eq_true hlt); omega
      refine ⟨_, rfl, _, rfl, a, 600, rfl, t3, by decide, by decide, fun H4 r4 t4 kp4 hr4 => ?_⟩
      refine ⟨_, _, rfl, rfl, a, 400 + r4, rfl, t4, by omega, fun H5 D5 c5 t5 kp5 n5 cD5 hl5 => ?_⟩
      have h60 := hs (by omega)
      refine ⟨_, rfl, rCat_of cD5 (cD.keepX t3 (kp4.trans kp5) dD) (by omega) fun H6 D6 s6 n6 cD6 => ?_⟩
      exact ⟨D6, _, rfl, t5.same s6, ((kp3.trans kp4).trans kp5).same s6, cD6, t5.ne n6, by rw [List.length_append]; omega, fun z => by omega⟩
    rintro σ H3 ⟨D, c, rfl, t3, kp3, cD, dD, hl, hs⟩
    exact ⟨_, rfl, q _ D c t3 kp3 dD cD hl⟩
end
end Sh

namespace Sh
open PySem PySem.Spec PyProof.Rows L2
abbrev sNumbers : Stmt := topS 41
abbrev sHeights : Stmt := topS 42
/-- all but one object stands -/
def KeepD (d : Addr) (H H' : Hp) : Prop := ∀ b o, H b = some o → b ≠ d → H' b = some o
theorem KeepD.refl (d : Addr) (H : Hp) : KeepD d H H := fun _ _ h _ => h
theorem KeepD.trans {d : Addr} {H H1 H2 : Hp} (a : KeepD d H H1) (b : KeepD d H1 H2) : KeepD d H H2 := fun c o h hc => b c o (a c o h hc) hc
theorem KeepD.same {d : Addr} {H H1 H2 : Hp} (a : KeepD d H H1) (b : Same H1 H2) : KeepD d H H2 := fun c o h hc => b c o (a c o h hc)
theorem KeepD.free {d : Addr} {H H' : Hp} {D : Addr} (k : KeepD d H H') (hD : H' D = none) (hne : D ≠ d) : H D = none := by
  cases e : H D with
  | none => rfl
  | some o => exact absurd (k _ _ e hne) (by rw [hD]; exact fun z => nomatch z)
theorem KeepD.tups {P : Program} {w : World} {d : Addr} {H H' : Hp} {kn : List Nd} (k : KeepD d H H') (n : NumsAt P w H d kn) : Tups H H' := fun a xs e => by
  obtain ⟨ys, nd, _⟩ := n
  exact k a _ e (ne_of e nd.here (fun z => nomatch z))
theorem nums_ne {P : Program} {w : World} {H : Hp} {d D : Addr} {kn : List Nd} (n : NumsAt P w H d kn) (hD : H D = none) : D ≠ d := by
  obtain ⟨ys, nd, _⟩ := n
  exact (ne_of_none nd.here hD).symm
theorem nums_neL {P : Program} {w : World} {H : Hp} {d D : Addr} {kn : List Nd} {xs : List V} (n : NumsAt P w H d kn) (hD : H D = some (.lst xs)) : D ≠ d := by
  obtain ⟨ys, nd, _⟩ := n
  exact ne_of hD nd.here (fun z => nomatch z)
theorem NumsAt.same {P : Program} {w : World} {H H' : Hp} {d : Addr} {kn : List Nd} (n : NumsAt P w H d kn) (s : Same H H') : NumsAt P w H' d kn := n.keep (fun o => s _ o) (tups_of s)
theorem NumsAt.updL {P : Program} {w : World} {H : Hp} {d D : Addr} {kn : List Nd} {xs : List V} {o : HO} (n : NumsAt P w H d kn) (hD : H D = some (.lst xs)) : NumsAt P w (upd H D o) d kn :=
  n.keep (fun o h => by rw [upd_ne (nums_neL n hD).symm]; exact h) (tups_lst hD)
theorem nNs_at {den ns : List Nd} {i : Nat} {n : Nd} (h : ns[i]? = some n) : (nNs den ns)[i]? = some (.int (idx den n : Nat)) := by
  unfold nNs nI
  rw [List.map_map, List.getElem?_map, h]; rfl
section
variable {P : Program} {w : World} {K : PySem.W.Frag} {mg : Str → Option Value} {base : Heap} {C : Addr}
/-! ### _law_numbers -/
abbrev nmN : List Str := ["_law_known", "_law_table", "_law_numbers_here", "_law_entry", "_law_key", "_law_child"]
theorem scNumbers : FnScope nmN ["_law_known", "_law_table"] (defScope sNumbers) := ⟨rfl, rfl, rfl, by decide +kernel, rfl, by decide +kernel, by decide +kernel⟩
def spNumbers (P : Program) (w : World) : Sp := fun vs H Q _ => ∃ (d q : Addr) (kn T : List Nd), vs = [.ref d, .ref q] ∧ NumsAt P w H d kn ∧ TabV H q T ∧ Tbl kn ∧ Tbl T ∧ (∀ n ∈ T, Wf n) ∧ kn.length + T.length ≤ 1000000 ∧
  ∀ (H' : Hp) (D : Addr) (ms : List Nd), NumsAt P w H' d (kn ++ ms) → Tbl (kn ++ ms) → (∀ n ∈ T, n ∈ kn ++ ms) → (∀ m ∈ ms, m ∈ T) → ms.length ≤ T.length → KeepD d H H' → H D = none → H' D = some (.lst (nNs (kn ++ ms) T)) → Q (.ref D) H'
theorem ok_numbers {f : Addr} {fd : FuncData} {k : Nat} (F : Fun K "_law_numbers" "_law_numbers" sNumbers f fd) (T : Txt mg) : FnOk P w K mg base CX0 (k + 1) f fd ["_law_known", "_law_table"] (spNumbers P w) := by
  refine F.ok scNumbers (fun vs H Q E h => ?_) (fun cdv A outer s H vs Q E hr h => ?_)
  · obtain ⟨d, q, kn, T, rfl, _⟩ := h
    rfl
  · obtain ⟨d, q, kn, TT, rfl, NA, TV, tk, tt, wf, hlen, k⟩ := h
    have hu := hr.units
    refine ⟨_, pss_cons (ps_set (i := 2) scNumbers.nd rfl (.inr rfl) (pe_lst pa_nil))
      (pss_cons (ps_for PassesOwn.never rfl (pi_tup (pv 1)) (pg_name (i := 3) scNumbers.nd rfl (.inl rfl))
        (pss_cons (ps_set (i := 4) scNumbers.nd rfl (.inl rfl) (pv 3))
        (pss_mid (ps_if (pt_cmpR op_eq (pe_ix ix_tup (pv 3) pe_int (fun _ _ => rfl)) pe_str (nomark _))
          (pss_one (ps_set (i := 4) scNumbers.nd rfl (.inl rfl) (pe_tup (pa_cons pe_str (pa_cons (pe_ix ix_list (pv 2) (pe_ix ix_tup (pv 3) pe_int (fun _ _ => rfl)) (fun _ _ => rfl)) (pa_cons (pe_ix ix_tup (pv 3) pe_int (fun _ _ => rfl)) pa_nil)))))) pss_nil)
        (pss_mid (ps_if (pt_cmpR op_eq (pe_ix ix_tup (pv 3) pe_int (fun _ _ => rfl)) pe_str (nomark _))
          (pss_one (ps_set (i := 4) scNumbers.nd rfl (.inl rfl) (pe_tup (pa_cons pe_str (pa_cons (pe_callTy call_tuple_of (by rfl) T.tuple boot_tuple (pa_cons
            (pe_lc (own := [("_law_child", 5)]) (g := gName 5) (tt := tYes) (te := tOp (rIxL K) (tVar 2) (tVar 5)) rfl scNumbers.nd (pi_tup (pe_ix ix_tup (pv 3) pe_int (fun _ _ => rfl))) (blkOk_by (N := nmN) (sc := defScope sNumbers) (by decide +kernel))
              (fun _ _ _ _ _ => pg_name (i := 5) scNumbers.nd rfl (Or.inl rfl)) (fun _ _ _ _ _ => pts_nil) (fun _ _ _ _ _ => pe_ix ix_list (pv 2) (pv 5) (fun _ _ => rfl))) pa_nil)) pa_nil))))) pss_nil)
        (pss_mid (ps_if (pt_cmp (pc_nnotin hu (pv 4) (pv 0)))
          (pss_one (ps_nput hu (pv 0) (pv 4) (pe_callB call_lenN (by rfl) T.len PySem.boot_len (pa_cons (pv 0) pa_nil)) rfl)) pss_nil)
        (pss_one (ps_expr (pe_bm PySem.F.plainAttrs_list PySem.F.slot_list_append PySem.F.type_list_append mt_append (pv 2) (pa_cons (pe_nitem hu (pv 0) (pv 4) (fun _ _ => rfl)) pa_nil)))))))))
      (pss_one (ps_ret (pv 2)))), ?_⟩
    refine ⟨Nat.zero_le _, fun D nD => ?_⟩
    have s0 := same_upd (o := HO.lst []) nD
    obtain ⟨as, a1, a2, a3⟩ := id TV
    refine ⟨_, rfl, q, rfl, ⟨_, SqT.of (s0 _ _ a1)⟩, ?_⟩
    have hDd : D ≠ d := nums_ne NA nD
    have hqd : q ≠ d := by
      obtain ⟨ys, nd, _⟩ := id NA
      exact ne_of a1 nd.here (fun z => nomatch z)
    refine for_tup (K := K) (a := q) (xs := as.map V.ref) (fun i σ H' => ∃ (ms : List Nd) (ya yk : Option V), σ = [some (.ref d), some (.ref q), some (.ref D), ya, yk, none] ∧ NumsAt P w H' d (kn ++ ms) ∧ Tbl (kn ++ ms) ∧ (∀ n ∈ TT.take i, n ∈ kn ++ ms) ∧ (∀ m ∈ ms, m ∈ TT.take i) ∧ ms.length ≤ i ∧ KeepD d H H' ∧ H' D = some (.lst (nNs (kn ++ ms) (TT.take i)))) ?_ (fun i σ H' _ ⟨_, _, _, _, _, _, _, _, _, kd, _⟩ => SqT.of (kd _ _ a1 hqd)) ?_ ?_
    · exact ⟨[], none, none, rfl, by rw [List.append_nil]; exact NA.same s0, by rw [List.append_nil]; exact tk, by simp, (fun _ z => nomatch z), Nat.le_refl _, (KeepD.refl d H).same s0, by rw [upd_same]; rfl⟩
    · rintro i x σ H1 hx ⟨ms, ya, yk, rfl, N1, tb1, hin, hms, hml, kd1, hD1⟩
      rw [List.getElem?_map] at hx
      obtain ⟨a, ea, rfl⟩ := Option.map_eq_some_iff.mp hx
      have hil : i < TT.length := by have := (List.getElem?_eq_some_iff.mp ea).1; omega
      obtain ⟨n, en⟩ : ∃ n, TT[i]? = some n := ⟨_, List.getElem?_eq_getElem hil⟩
      have nk0 := NK.keep (kd1.tups NA) _ _ (a3 i a n ea en)
      have hnT := List.mem_of_getElem? en
      have hkids : ∀ c ∈ n.kids, c ∈ kn ++ ms ∧ ∃ j, j < i ∧ TT[j]? = some c ∧ idx TT c = j := fun c hc => by
        obtain ⟨j, hj, ej⟩ := tt.kids i n en c hc
        refine ⟨hin c (List.mem_of_getElem? (i := j) ?_), j, hj, ej, idx_eq tt.nd ej⟩
        rw [List.getElem?_take_of_lt hj]; exact ej
      have numAt : ∀ c ∈ n.kids, (nNs (kn ++ ms) (TT.take i))[idx TT c]? = some (.int (idx (kn ++ ms) c : Nat)) := fun c hc => by
        obtain ⟨_, j, hj, ej, e2⟩ := hkids c hc
        refine nNs_at ?_
        rw [e2, List.getElem?_take_of_lt hj]; exact ej
      have hdep : (ekey (kn ++ ms) n).depth ≤ 8 := nkey_depth _ n (wf n hnT)
      refine ⟨_, rfl, ?_⟩
      refine ⟨fun σ H' => ∃ ka, σ = [some (.ref d), some (.ref q), some (.ref D), some (.ref a), some (.ref ka), none] ∧ Same H1 H' ∧ (n.isRun = true → NK H' (ekey (kn ++ ms) n) (.ref ka)) ∧ (n.isRun = false → ka = a), ?_, ?_⟩
      · cases n with
        | leaf e =>
          obtain ⟨v, ha, hv⟩ := nk_leaf nk0
          refine ⟨_, rfl, a, _, 0, _, rfl, rfl, SqT.of ha, atI_nat (j := 0) rfl, rfl, _, rfl, ?_⟩
          refine ite2 (fun z => absurd (V.str.inj (of_decide_eq_true z)) leaf_run) (fun _ => ?_)
          exact ⟨a, rfl, Same.refl _, (fun z => nomatch z), fun _ => rfl⟩
        | run c t =>
          have ha := nk_run nk0
          refine ⟨_, rfl, a, _, 0, _, rfl, rfl, SqT.of ha, atI_nat (j := 0) rfl, rfl, _, rfl, ?_⟩
          refine ite2 (fun _ => ?_) (fun z => absurd (decide_eq_true rfl) z)
          refine ⟨_, rfl, _, rfl, a, _, 1, _, rfl, rfl, SqT.of ha, atI_nat (j := 1) rfl, D, _, _, _, rfl, rfl, SqL.of hD1, atI_nat (numAt c (by simp [Nd.kids])), ?_⟩
          refine ⟨_, rfl, a, _, 2, _, rfl, rfl, SqT.of ha, atI_nat (j := 2) rfl, by show 3 ≤ sizeLine; decide, fun b nb => ?_⟩
          exact ⟨b, rfl, same_upd nb, fun _ => nk_of_run upd_same, fun z => nomatch z⟩
        | block cs =>
          obtain ⟨b0, ha, hb⟩ := nk_block nk0
          refine ⟨_, rfl, a, _, 0, _, rfl, rfl, SqT.of ha, atI_nat (j := 0) rfl, rfl, _, rfl, ?_⟩
          refine ite2 (fun z => absurd (V.str.inj (of_decide_eq_true z)) block_run) (fun _ => ?_)
          exact ⟨a, rfl, Same.refl _, (fun z => nomatch z), fun _ => rfl⟩
      rintro σ H2 ⟨ka, rfl, s2, hrun, hnot⟩
      refine ⟨fun σ H' => ∃ ka, σ = [some (.ref d), some (.ref q), some (.ref D), some (.ref a), some (.ref ka), none] ∧ Same H1 H' ∧ NK H' (ekey (kn ++ ms) n) (.ref ka), ?_, ?_⟩
      · have nk2 := NK.keep (tups_of s2) _ _ nk0
        have hD2 := s2 _ _ hD1
        cases n with
        | leaf e =>
          obtain ⟨v, ha, hv⟩ := nk_leaf nk2
          refine ⟨_, rfl, a, _, 0, _, rfl, rfl, SqT.of ha, atI_nat (j := 0) rfl, rfl, _, rfl, ?_⟩
          refine ite2 (fun z => absurd (V.str.inj (of_decide_eq_true z)) leaf_block) (fun _ => ?_)
          rw [hnot rfl]
          exact ⟨a, rfl, s2, nk_of_leaf ha hv⟩
        | run c t =>
          have ha := nk_run nk2
          refine ⟨_, rfl, a, _, 0, _, rfl, rfl, SqT.of ha, atI_nat (j := 0) rfl, rfl, _, rfl, ?_⟩
          refine ite2 (fun z => absurd (V.str.inj (of_decide_eq_true z)) run_block) (fun _ => ?_)
          exact ⟨ka, rfl, s2, hrun rfl⟩
        | block cs =>
          obtain ⟨b0, ha, hb⟩ := nk_block nk2
          have wfn := wf _ hnT
          rw [Wf] at wfn
          refine ⟨_, rfl, a, _, 0, _, rfl, rfl, SqT.of ha, atI_nat (j := 0) rfl, rfl, _, rfl, ?_⟩
          refine ite2 (fun _ => ?_) (fun z => absurd (decide_eq_true rfl) z)
          refine ⟨_, rfl, a, _, 1, _, rfl, rfl, SqT.of ha, atI_nat (j := 1) rfl, b0, rfl, ⟨_, SqT.of hb⟩, fun L nL => ?_⟩
          refine lc_tup (K := K) (a := b0) (xs := nI (cs.map (idx TT))) (fun j H' => Same H2 H' ∧ H' L = some (.lst (nI ((cs.take j).map (idx (kn ++ ms)))))) ⟨same_upd nL, by rw [upd_same]; rfl⟩ (fun j H' _ ⟨sm, _⟩ => SqT.of (sm _ _ hb)) ?_ ?_
          · rintro j x H3 hx ⟨sm, hL⟩
            unfold nI at hx
            rw [List.map_map, List.getElem?_map] at hx
            obtain ⟨c, ec, rfl⟩ := Option.map_eq_some_iff.mp hx
            have hjl : j < cs.length := (List.getElem?_eq_some_iff.mp ec).1
            refine ⟨rfl, _, rfl, _, rfl, D, _, _, _, rfl, rfl, SqL.of (sm _ _ hD2), atI_nat (numAt c (List.mem_of_getElem? ec)), _, hL, by rw [nI_len, List.length_map]; exact line_lt (Nat.le_trans (List.length_take_le _ _) (by omega)), fun bb o hbb => ?_, ?_⟩
            · rw [upd_ne (ne_of_none hbb nL)]; exact sm bb o hbb
            · rw [upd_same, List.take_add_one, ec, List.map_append, nI_append]; rfl
          · rintro H3 ⟨sm, hL⟩
            rw [nI_len, List.length_map, List.take_length] at hL
            refine ⟨L, _, rfl, .inl ⟨SqL.of hL, fun tt ntt => ⟨by show 2 ≤ sizeLine; decide, fun b nb => ?_⟩⟩⟩
            have s5 := same_upd (o := HO.tup (nI (cs.map (idx (kn ++ ms))))) ntt
            have s6 := same_upd (o := HO.tup [.str "block", .ref tt]) nb
            exact ⟨b, rfl, ((s2.trans sm).trans s5).trans s6, nk_of_block upd_same (s6 _ _ upd_same)⟩
      rintro σ H3 ⟨kb, rfl, s3, nkb⟩
      have N3 := N1.same s3
      obtain ⟨xs, nd3, x1, x2⟩ := id N3
      have kidin : ∀ c ∈ n.kids, c ∈ kn ++ ms := fun c hc => (hkids c hc).1
      have at_ := NumsAt.at (P := P) (w := w) (H := H3) (d := d) x1 x2 tb1 kidin
      have hD3 := s3 _ _ hD1
      have tk1 : TT.take (i + 1) = TT.take i ++ [n] := by rw [List.take_add_one, en]; rfl
      refine ⟨fun σ H' => ∃ ms2, σ = [some (.ref d), some (.ref q), some (.ref D), some (.ref a), some (.ref kb), none] ∧ NumsAt P w H' d (kn ++ ms2) ∧ Tbl (kn ++ ms2) ∧ (∃ e, ms2 = ms ++ e ∧ e.length ≤ 1 ∧ ∀ m ∈ e, m = n) ∧ n ∈ kn ++ ms2 ∧ KeepD d H3 H', ?_, ?_⟩
      · refine ⟨_, rfl, _, rfl, d, xs, ekey (kn ++ ms) n, kb, rfl, rfl, nd3, nkb, hdep, _, rfl, ?_⟩
        by_cases hn : n ∈ kn ++ ms
        · rw [at_.1 hn]
          refine iteF ?_
          exact ⟨ms, rfl, N3, tb1, ⟨[], by simp, by simp, fun _ z => nomatch z⟩, hn, KeepD.refl _ _⟩
        · rw [at_.2 hn]
          refine iteT ?_
          have hxl : xs.length = (kn ++ ms).length := by have := congrArg List.length x1; rwa [List.length_map, List.length_map] at this
          have hxz : xs.length < sizeLine := line_lt (by rw [hxl, List.length_append]; omega)
          refine ⟨_, rfl, d, xs, rfl, nd3, _, rfl, _, rfl, d, xs, ekey (kn ++ ms) n, kb, rfl, rfl, nd3, nkb, hdep, at_.2 hn, hxz, ?_⟩
          rw [hxl]
          have nd4 := nd_put (v := V.int ((kn ++ ms).length : Nat)) nd3 nkb hdep hxz
          have e0 : idx (kn ++ ms ++ [n]) n = (kn ++ ms).length := idx_new hn
          refine ⟨ms ++ [n], rfl, ⟨_, nd4, ?_, ?_⟩, by rw [← List.append_assoc]; exact tb1.snoc hn kidin, ⟨[n], rfl, by simp, fun m hm => by simpa using hm⟩, by simp, fun b o hb hne => by rw [upd_ne hne]; exact hb⟩
          · rw [← List.append_assoc, List.map_append, List.map_append, x1]
            congr 1
            · exact List.map_congr_left fun m hm => (ekey_append [n] fun c hc => tb1.kid hm hc).symm
            · show [ekey (kn ++ ms) n] = [ekey (kn ++ ms ++ [n]) n]
              rw [ekey_append [n] kidin]
          · rw [← List.append_assoc, List.map_append, x2, List.length_append (as := kn ++ ms), List.length_singleton, List.range_succ, nI_append]; rfl
      rintro σ H4 ⟨ms2, rfl, N4, tb4, ⟨e, rfl, hel, hen⟩, hn4, kd4⟩
      obtain ⟨xs4, nd4, y1, y2⟩ := id N4
      have hD4 := kd4 _ _ hD3 hDd
      have kid4 : ∀ c ∈ n.kids, c ∈ kn ++ (ms ++ e) := fun c hc => by rw [← List.append_assoc]; exact List.mem_append_left _ (kidin c hc)
      have at4 := NumsAt.at (P := P) (w := w) (H := H4) (d := d) y1 y2 tb4 kid4
      have nk4 : NK H4 (ekey (kn ++ (ms ++ e)) n) (.ref kb) := by
        rw [← List.append_assoc, ekey_append e kidin]
        exact NK.keep (kd4.tups N3) _ _ nkb
      refine ⟨_, rfl, .inl ⟨rfl, _, SqL.of hD4⟩, _, rfl, _, rfl, d, xs4, ekey (kn ++ (ms ++ e)) n, kb, _, rfl, rfl, nd4, nk4, nkey_depth _ n (wf n hnT), at4.1 hn4, D, _, _, rfl, rfl, hD4, by rw [nNs_len]; exact line_lt (Nat.le_trans (List.length_take_le _ _) (by omega)), ?_⟩
      refine ⟨ms ++ e, _, _, rfl, N4.updL hD4, tb4, ?_, ?_, by rw [List.length_append]; omega, ?_, ?_⟩
      · rw [tk1]
        intro m hm
        rcases List.mem_append.mp hm with z | z
        · rw [← List.append_assoc]; exact List.mem_append_left _ (hin m z)
        · have : m = n := by simpa using z
          rw [this]; exact hn4
      · rw [tk1]
        intro m hm
        rcases List.mem_append.mp hm with z | z
        · exact List.mem_append_left _ (hms m z)
        · rw [hen m z]; simp
      · intro b o hb hne
        rw [upd_ne (ne_of_none hb nD)]
        exact kd4 _ _ (s3 _ _ (kd1 _ _ hb hne)) hne
      · rw [upd_same, tk1, nNs_snoc, ← List.append_assoc, nNs_ext e hin]
    · rintro σ H1 ⟨ms, ya, yk, rfl, N1, tb1, hin, hms, hml, kd1, hD1⟩
      have e : (as.map V.ref).length = TT.length := by rw [List.length_map, a2]
      rw [e, List.take_length] at hin hms hD1
      exact ⟨_, rfl, k H1 D ms N1 tb1 hin hms (by omega) kd1 nD hD1⟩
end
end Sh

namespace Sh
open PySem PySem.Spec PyProof.Rows L2
section
variable {P : Program} {w : World} {K : PySem.W.Frag} {mg : Str → Option Value} {base : Heap} {C : Addr}
/-! ### _law_heights -/
theorem scHeights : FnScope ["_law_table", "_law_heights_here", "_law_entry"] ["_law_table"] (defScope sHeights) := ⟨rfl, rfl, rfl, by decide +kernel, rfl, by decide +kernel, by decide +kernel⟩
def spHeights : Sp := fun vs H Q _ => ∃ (q : Addr) (T : List Nd), vs = [.ref q] ∧ TabV H q T ∧ Tbl T ∧ (∀ n ∈ T, n.isBlock = true → n.kids ≠ []) ∧ T.length ≤ 1000000 ∧
  ∀ (H' : Hp) (D : Addr), Same H H' → H D = none → H' D = some (.lst (nI (T.map hgt))) → Q (.ref D) H'
theorem ok_heights {f : Addr} {fd : FuncData} {k : Nat} (F : Fun K "_law_heights" "_law_heights" sHeights f fd) : FnOk P w K mg base CX0 (k + 1) f fd ["_law_table"] spHeights := by
  refine F.ok scHeights (fun vs H Q E h => ?_) (fun cdv A outer s H vs Q E hr h => ?_)
  · obtain ⟨q, T, rfl, _⟩ := h
    rfl
  · obtain ⟨q, TT, rfl, TV, tt, hne, hlen, k⟩ := h
    refine ⟨_, pss_cons (ps_set (i := 1) scHeights.nd rfl (.inl rfl) (pe_lst pa_nil))
      (pss_cons (ps_for PassesOwn.never rfl (pi_tup (pv 0)) (pg_name (i := 2) scHeights.nd rfl (.inl rfl))
        (pss_one (ps_if (pt_cmpR op_eq (pe_ix ix_tup (pv 2) pe_int (fun _ _ => rfl)) pe_str (nomark _))
          (pss_one (ps_expr (pe_bm PySem.F.plainAttrs_list PySem.F.slot_list_append PySem.F.type_list_append mt_append (pv 1) (pa_cons pe_int pa_nil))))
          (pss_one (ps_if (pt_cmpR op_eq (pe_ix ix_tup (pv 2) pe_int (fun _ _ => rfl)) pe_str (nomark _))
            (pss_one (ps_expr (pe_bm PySem.F.plainAttrs_list PySem.F.slot_list_append PySem.F.type_list_append mt_append (pv 1) (pa_cons (pe_ix ix_list (pv 1) (pe_ix ix_tup (pv 2) pe_int (fun _ _ => rfl)) (fun _ _ => rfl)) pa_nil))))
            (pss_one (ps_expr (pe_bm PySem.F.plainAttrs_list PySem.F.slot_list_append PySem.F.type_list_append mt_append (pv 1) (pa_cons (pe_op op_add pe_int (pe_ix ix_list (pv 1) (pe_ix ix_tup (pe_ix ix_tup (pv 2) pe_int (fun _ _ => rfl)) pe_int (fun _ _ => rfl)) (fun _ _ => rfl))) pa_nil)))))))))
      (pss_one (ps_ret (pv 1)))), ?_⟩
    refine ⟨Nat.zero_le _, fun D nD => ?_⟩
    have s0 := same_upd (o := HO.lst []) nD
    obtain ⟨as, a1, a2, a3⟩ := id TV
    refine ⟨_, rfl, q, rfl, ⟨_, SqT.of (s0 _ _ a1)⟩, ?_⟩
    refine for_tup (K := K) (a := q) (xs := as.map V.ref) (fun i σ H' => ∃ (ya : Option V), σ = [some (.ref q), some (.ref D), ya] ∧ Same H H' ∧ H' D = some (.lst (nI ((TT.take i).map hgt)))) ?_ (fun i σ H' _ ⟨_, _, sm, _⟩ => SqT.of (sm _ _ a1)) ?_ ?_
    · exact ⟨none, rfl, s0, by rw [upd_same]; rfl⟩
    · rintro i x σ H1 hx ⟨ya, rfl, sm, hD⟩
      rw [List.getElem?_map] at hx
      obtain ⟨a, ea, rfl⟩ := Option.map_eq_some_iff.mp hx
      have hil : i < TT.length := by have := (List.getElem?_eq_some_iff.mp ea).1; omega
      obtain ⟨n, en⟩ : ∃ n, TT[i]? = some n := ⟨_, List.getElem?_eq_getElem hil⟩
      have nk0 := NK.keep (tups_of sm) _ _ (a3 i a n ea en)
      have hnT := List.mem_of_getElem? en
      have hAt : ∀ c ∈ n.kids, (nI ((TT.take i).map hgt))[idx TT c]? = some (.int (hgt c : Nat)) := fun c hc => by
        obtain ⟨j, hj, ej⟩ := tt.kids i n en c hc
        unfold nI
        rw [idx_eq tt.nd ej, List.getElem?_map, List.getElem?_map, List.getElem?_take_of_lt hj, ej]; rfl
      have lt_ : (nI ((TT.take i).map hgt)).length < sizeLine := by rw [nI_len, List.length_map]; exact line_lt (Nat.le_trans (List.length_take_le _ _) (by omega))
      have fin : ∀ v, v = V.int (hgt n : Nat) → ∃ (ya : Option V), [some (V.ref q), some (.ref D), some (.ref a)] = [some (.ref q), some (.ref D), ya] ∧ Same H (upd H1 D (.lst (nI ((TT.take i).map hgt) ++ [v]))) ∧ (upd H1 D (.lst (nI ((TT.take i).map hgt) ++ [v]))) D = some (.lst (nI ((TT.take (i + 1)).map hgt))) := fun v hv => by
        refine ⟨_, rfl, fun b o hb => ?_, ?_⟩
        · rw [upd_ne (ne_of_none hb nD)]; exact sm b o hb
        · rw [upd_same, List.take_add_one, en, List.map_append, nI_append, hv]; rfl
      cases n with
      | leaf e =>
        obtain ⟨v, ha, hv⟩ := nk_leaf nk0
        refine ⟨_, rfl, a, _, 0, _, rfl, rfl, SqT.of ha, atI_nat (j := 0) rfl, rfl, _, rfl, ?_⟩
        refine ite2 (fun _ => ?_) (fun z => absurd (decide_eq_true rfl) z)
        exact ⟨_, rfl, .inl ⟨rfl, _, SqL.of hD⟩, D, _, _, rfl, rfl, hD, lt_, fin _ (by rw [hgt]; rfl)⟩
      | run c t =>
        have ha := nk_run nk0
        refine ⟨_, rfl, a, _, 0, _, rfl, rfl, SqT.of ha, atI_nat (j := 0) rfl, rfl, _, rfl, ?_⟩
        refine ite2 (fun z => absurd (V.str.inj (of_decide_eq_true z)) run_leaf) (fun _ => ?_)
        refine ⟨_, rfl, a, _, 0, _, rfl, rfl, SqT.of ha, atI_nat (j := 0) rfl, rfl, _, rfl, ?_⟩
        refine ite2 (fun _ => ?_) (fun z => absurd (decide_eq_true rfl) z)
        exact ⟨_, rfl, .inl ⟨rfl, _, SqL.of hD⟩, _, rfl, _, rfl, a, _, 1, _, rfl, rfl, SqT.of ha, atI_nat (j := 1) rfl, D, _, _, _, rfl, rfl, SqL.of hD, atI_nat (hAt c (by simp [Nd.kids])), D, _, _, rfl, rfl, hD, lt_, fin _ (by rw [hgt])⟩
      | block cs =>
        obtain ⟨b0, ha, hb⟩ := nk_block nk0
        have hn0 := hne _ hnT rfl
        refine ⟨_, rfl, a, _, 0, _, rfl, rfl, SqT.of ha, atI_nat (j := 0) rfl, rfl, _, rfl, ?_⟩
        refine ite2 (fun z => absurd (V.str.inj (of_decide_eq_true z)) block_leaf) (fun _ => ?_)
        refine ⟨_, rfl, a, _, 0, _, rfl, rfl, SqT.of ha, atI_nat (j := 0) rfl, rfl, _, rfl, ?_⟩
        refine ite2 (fun z => absurd (V.str.inj (of_decide_eq_true z)) block_run) (fun _ => ?_)
        cases cs with
        | nil => exact absurd rfl hn0
        | cons c cs =>
          exact ⟨_, rfl, .inl ⟨rfl, _, SqL.of hD⟩, _, rfl, _, rfl, a, _, 1, _, rfl, rfl, SqT.of ha, atI_nat (j := 1) rfl, b0, _, 0, _, rfl, rfl, SqT.of hb, atI_nat (j := 0) rfl, D, _, _, _, rfl, rfl, SqL.of hD, atI_nat (hAt c (by simp [Nd.kids])), _, _, rfl, rfl, D, _, _, rfl, rfl, hD, lt_, fin _ (by rw [hgt]; show V.int (1 + (hgt c : Nat)) = V.int ((hgt c + 1 : Nat) : Int); exact congrArg V.int (by omega))⟩
    · rintro σ H1 ⟨ya, rfl, sm, hD⟩
      rw [List.length_map, a2, List.take_length] at hD
      exact ⟨_, rfl, k H1 D sm nD hD⟩
end
end Sh

namespace Sh
open PySem PySem.Spec PyProof.Rows L2
abbrev sFresh : Stmt := topS 43
abbrev sKept : Stmt := topS 44
def kindS : Nd → Str
  | .leaf _ => "leaf"
  | .run _ _ => "run"
  | .block _ => "block"
def fkey (s : Str) (h : Nat) : List Key := [Sum.inr s, Sum.inl (h : Nat)]
/-- counts of new nodes: each stands for that many nodes -/
def Found (S T0 : List Nd) (kvs : List (List Key × V)) : Prop := ∀ p ∈ kvs, ∃ (s : Str) (h : Nat) (F : List Nd), p = (fkey s h, V.int (F.length : Nat)) ∧ F ≠ [] ∧ F.Nodup ∧ ∀ n ∈ F, n ∈ S ∧ n ∉ T0 ∧ kindS n = s ∧ hgt n = h
theorem valV_mem {κ : Type} [DecidableEq κ] {kvs : List (κ × V)} {k : κ} {v : V} (h : valV kvs k = some v) : (k, v) ∈ kvs := by
  unfold valV at h
  obtain ⟨p, hp, rfl⟩ := Option.map_eq_some_iff.mp h
  have h1 := List.find?_some hp
  have h2 := List.mem_of_find?_eq_some hp
  have h3 : p.1 = k := of_decide_eq_true h1
  subst h3
  exact h2
theorem putK_mem {κ : Type} [DecidableEq κ] {kvs : List (κ × V)} {k : κ} {v : V} {p : κ × V} (h : p ∈ putK kvs k v) : p ∈ kvs ∨ p = (k, v) := by
  unfold putK at h
  split at h
  · obtain ⟨q, hq, e⟩ := List.mem_map.mp h
    by_cases hk : q.1 = k
    · rw [if_pos hk] at e; exact .inr (by rw [← e, hk])
    · rw [if_neg hk] at e; exact .inl (by rw [← e]; exact hq)
  · rcases List.mem_append.mp h with z | z
    · exact .inl z
    · exact .inr (by simpa using z)
theorem fkey_inj {s s' : Str} {h h' : Nat} (e : fkey s h = fkey s' h') : s = s' ∧ h = h' := by
  unfold fkey at e
  injection e with e1 e2
  injection e2 with e2 _
  injection e1 with e1
  injection e2 with e2
  exact ⟨e1, by omega⟩
theorem Found.mono {S S' T0 : List Nd} {kvs : List (List Key × V)} (f : Found S T0 kvs) (h : ∀ n ∈ S, n ∈ S') : Found S' T0 kvs := fun p hp =>
  let ⟨s, l, F, a, b, c, d⟩ := f p hp
  ⟨s, l, F, a, b, c, fun n hn => ⟨h n (d n hn).1, (d n hn).2⟩⟩
/-- the count so far -/
theorem Found.at {S T0 : List Nd} {kvs : List (List Key × V)} (f : Found S T0 kvs) (s : Str) (h : Nat) : ∃ F : List Nd, (valV kvs (fkey s h)).getD (.int 0) = .int (F.length : Nat) ∧ F.Nodup ∧ ∀ n ∈ F, n ∈ S ∧ n ∉ T0 ∧ kindS n = s ∧ hgt n = h := by
  cases e : valV kvs (fkey s h) with
  | none => exact ⟨[], rfl, List.nodup_nil, fun _ z => nomatch z⟩
  | some v =>
    obtain ⟨s', h', F, a, b, c, d⟩ := f _ (valV_mem e)
    injection a with a1 a2
    obtain ⟨rfl, rfl⟩ := fkey_inj a1
    exact ⟨F, by rw [a2]; rfl, c, d⟩
theorem Found.put {S S' T0 : List Nd} {kvs : List (List Key × V)} {n : Nd} {F : List Nd} (f : Found S T0 kvs) (h : ∀ n ∈ S, n ∈ S') (hn : n ∈ S') (hS : n ∉ S) (hT : n ∉ T0) (nd : F.Nodup) (hF : ∀ m ∈ F, m ∈ S ∧ m ∉ T0 ∧ kindS m = kindS n ∧ hgt m = hgt n) :
    Found S' T0 (putK kvs (fkey (kindS n) (hgt n)) (.int ((F.length : Nat) + 1))) := fun p hp => by
  rcases putK_mem hp with z | rfl
  · exact f.mono h p z
  · refine ⟨kindS n, hgt n, n :: F, ?_, (fun z => nomatch z), ?_, fun m hm => ?_⟩
    · show (_, V.int _) = (_, V.int _)
      rw [List.length_cons]; rfl
    · exact List.nodup_cons.mpr ⟨fun z => hS (hF n z).1, nd⟩
    · rcases List.mem_cons.mp hm with rfl | z
      · exact ⟨hn, hT, rfl, rfl⟩
      · exact ⟨h m (hF m z).1, (hF m z).2⟩
theorem nk_kind {H : Hp} {f : Nd → Nat} {n : Nd} {a : Addr} (h : NK H (nkey f n) (.ref a)) : ∃ vs, H a = some (.tup (.str (kindS n) :: vs)) := by
  cases n with
  | leaf e => obtain ⟨v, ha, _⟩ := nk_leaf h; exact ⟨_, ha⟩
  | run c t => exact ⟨_, nk_run h⟩
  | block cs => obtain ⟨b, ha, _⟩ := nk_block h; exact ⟨_, ha⟩
section
variable {P : Program} {w : World} {K : PySem.W.Frag} {mg : Str → Option Value} {base : Heap} {C : Addr}
/-! ### _law_fresh -/
abbrev nmF : List Str := ["_law_tables", "_law_table", "_law_known", "_law_base", "_law_many", "_law_numbers_here", "_law_heights_here", "_law_found", "_law_k", "_law_key"]
theorem scFresh : FnScope nmF ["_law_tables", "_law_table"] (defScope sFresh) := ⟨rfl, rfl, rfl, by decide +kernel, rfl, by decide +kernel, by decide +kernel⟩
def spFresh : Sp := fun vs H Q _ => ∃ (ts q0 q : Addr) (T0 T : List Nd), vs = [.ref ts, .ref q] ∧ H ts = some (.lst [.ref q0]) ∧ TabV H q0 T0 ∧ TabV H q T ∧ Tbl T0 ∧ Tbl T ∧ (∀ n ∈ T0, Wf n) ∧ (∀ n ∈ T, Wf n) ∧ (∀ n ∈ T, n.isBlock = true → n.kids ≠ []) ∧ T0.length ≤ 8000 ∧ T.length ≤ 8000 ∧
  ∀ (H' : Hp) (fo : Addr) (kvs : List (List Key × V)), Same H H' → H' fo = some (.dT kvs) → Found T T0 kvs → Q (.ref fo) H'
theorem ok_fresh {f : Addr} {fd : FuncData} {k : Nat} (F : Fun K "_law_fresh" "_law_fresh" sFresh f fd) (T : Txt mg) (GN : FnG P w K mg base "_law_numbers" k ["_law_known", "_law_table"] (spNumbers P w)) (GH : FnG P w K mg base "_law_heights" k ["_law_table"] spHeights) : FnOk P w K mg base CX0 (k + 1) f fd ["_law_tables", "_law_table"] spFresh := by
  obtain ⟨f1, fd1, g1, k1, b1, GN⟩ := GN
  obtain ⟨f2, fd2, g2, k2, b2, GH⟩ := GH
  refine F.ok scFresh (fun vs H Q E h => ?_) (fun cdv A outer s H vs Q E hr h => ?_)
  · obtain ⟨ts, q0, q, T0, T, rfl, _⟩ := h
    rfl
  · obtain ⟨ts, q0, q, T0, TT, rfl, hts, TV0, TV, t0, tt, wf0, wf, hne, hl0, hl, k⟩ := h
    have hu := hu_of hr
    refine ⟨_, pss_cons (ps_set (i := 2) scFresh.nd rfl (.inl rfl) pe_nnew)
      (pss_cons (ps_for PassesOwn.never rfl (pi_list (pv 0)) (pg_name (i := 3) scFresh.nd rfl (.inl rfl))
        (pss_one (ps_expr (pe_call GN hr (by rfl) g1 k1 b1 .nil pass0 (pa_cons (pv 2) (pa_cons (pv 3) pa_nil))))))
      (pss_cons (ps_set (i := 4) scFresh.nd rfl (.inl rfl) (pe_callB call_lenN (by rfl) T.len PySem.boot_len (pa_cons (pv 2) pa_nil)))
      (pss_cons (ps_set (i := 5) scFresh.nd rfl (.inl rfl) (pe_call GN hr (by rfl) g1 k1 b1 .nil pass0 (pa_cons (pv 2) (pa_cons (pv 1) pa_nil))))
      (pss_cons (ps_set (i := 6) scFresh.nd rfl (.inl rfl) (pe_call GH hr (by rfl) g2 k2 b2 .nil pass0 (pa_cons (pv 1) pa_nil)))
      (pss_cons (ps_set (i := 7) scFresh.nd rfl (.inl rfl) pe_dnewT)
      (pss_cons (ps_for PassesOwn.never rfl (pi_range1 rfl T.range (pa_cons (pe_callB call_len_seq (by rfl) T.len PySem.boot_len (pa_cons (pv 1) pa_nil)) pa_nil)) (pg_name (i := 8) scFresh.nd rfl (.inl rfl))
        (pss_one (ps_if (pt_cmpR op_ge (pe_ix ix_list (pv 5) (pv 8) (fun _ _ => rfl)) (pv 4) (nomark _))
          (pss_cons (ps_set (i := 9) scFresh.nd rfl (.inl rfl) (pe_tup (pa_cons (pe_ix ix_tup (pe_ix ix_tup (pv 1) (pv 8) (fun _ _ => rfl)) pe_int (fun _ _ => rfl)) (pa_cons (pe_ix ix_list (pv 6) (pv 8) (fun _ _ => rfl)) pa_nil))))
          (pss_one (ps_dput hu (pv 7) (pv 9) (pe_op op_add (pe_dget2 hu (pv 7) (pv 9) pe_int ⟨rfl, rfl, rfl, rfl⟩) pe_int) rfl))) pss_nil)))
      (pss_one (ps_ret (pv 7))))))))), ?_⟩
    intro d nd hlow
    have s0 := same_upd (o := NO P w d []) nd
    have N1 : NumsAt P w (upd H d (NO P w d [])) d [] := ⟨[], ⟨upd_same, by simp, hlow, fun _ z => nomatch z⟩, rfl, rfl⟩
    have hdH : ∀ (H' : Hp), KeepD d (upd H d (NO P w d [])) H' → Same H H' := fun H' kd b o hb => kd b o (s0 _ _ hb) (ne_of_none hb nd)
    refine ⟨_, rfl, ts, rfl, ⟨_, SqL.of (s0 _ _ hts)⟩, ?_⟩
    refine for_list (K := K) (a := ts) (xs := [.ref q0]) (fun i σ H' => ∃ (kn : List Nd) (y3 : Option V), σ = [some (.ref ts), some (.ref q), some (.ref d), y3, none, none, none, none, none, none] ∧ NumsAt P w H' d kn ∧ Tbl kn ∧ Same H H' ∧ (i = 0 → kn = []) ∧ (i = 1 → (∀ n ∈ T0, n ∈ kn) ∧ kn.length ≤ T0.length)) ?_ (fun i σ H' _ ⟨_, _, _, _, _, sm, _⟩ => SqL.of (sm _ _ hts)) ?_ ?_
    · exact ⟨[], none, rfl, N1, Tbl.nil, s0, fun _ => rfl, fun z => by omega⟩
    · rintro i x σ H1 hx ⟨kn, y3, rfl, N2, tb2, sm, hk0, _⟩
      have hi : i = 0 := by have := (List.getElem?_eq_some_iff.mp hx).1; simpa using this
      subst hi
      have hkn := hk0 rfl
      subst hkn
      have hx' : x = .ref q0 := by simpa using hx.symm
      subst hx'
      refine ⟨_, rfl, _, rfl, d, q0, [], T0, rfl, N2, TV0.keep (tups_of sm), Tbl.nil, t0, wf0, by simp; omega, fun H3 D ms N3 tb3 hin hms hml kd nD hD => ?_⟩
      rw [List.nil_append] at N3 tb3 hin
      exact ⟨ms, _, rfl, N3, tb3, fun b o hb => kd _ _ (sm _ _ hb) (ne_of_none hb nd), fun z => by omega, fun _ => ⟨hin, hml⟩⟩
    rintro σ H2 ⟨kn, y3, rfl, N2, tb2, sm2, _, hk1⟩
    obtain ⟨hin0, hkl⟩ := hk1 rfl
    obtain ⟨xs, nd2, x1, x2⟩ := id N2
    have hxl : xs.length = kn.length := by have := congrArg List.length x1; rwa [List.length_map, List.length_map] at this
    refine ⟨_, rfl, d, xs, rfl, nd2, ?_⟩
    rw [hxl]
    refine ⟨_, rfl, _, rfl, d, q, kn, TT, rfl, N2, TV.keep (tups_of sm2), tb2, tt, wf, by omega, fun H3 D3 ms N3 tb3 hin3 hms3 hml3 kd3 nD3 hD3 => ?_⟩
    have sm3 : Same H H3 := fun b o hb => kd3 _ _ (sm2 _ _ hb) (ne_of_none hb nd)
    refine ⟨_, rfl, q, TT, rfl, TV.keep (tups_of sm3), tt, hne, by omega, fun H4 D4 s4 nD4 hD4 => ?_⟩
    intro fo nfo
    have sm4 := sm3.trans s4
    have hD34 := s4 _ _ hD3
    obtain ⟨as, a1, a2, a3⟩ := id TV
    have s5 := same_upd (o := HO.dT []) nfo
    have sm5 := sm4.trans s5
    refine ⟨_, rfl, q, _, rfl, .inr (SqT.of (sm5 _ _ a1)), _, rfl, by omega, by rw [List.length_map]; omega, ?_⟩
    have hlen : ((as.map V.ref).length : Int).toNat = TT.length := by rw [List.length_map, a2, Int.toNat_natCast]
    refine for_range (lo := 0) (n := ((as.map V.ref).length : Int).toNat) (fun i σ H' => ∃ (y8 y9 : Option V) (kvs : List (List Key × V)), σ = [some (.ref ts), some (.ref q), some (.ref d), y3, some (.int (kn.length : Nat)), some (.ref D3), some (.ref D4), some (.ref fo), y8, y9] ∧ Same H4 H' ∧ H' fo = some (.dT kvs) ∧ Found (TT.take i) T0 kvs ∧ kvs.length ≤ i) ?_ ?_ ?_
    · exact ⟨none, none, [], rfl, s5, upd_same, (fun _ z => nomatch z), Nat.le_refl _⟩
    · rintro i σ H6 hi ⟨y8, y9, kvs, rfl, sm6, hfo, hF, hkv⟩
      have hil : i < TT.length := by omega
      obtain ⟨n, en⟩ : ∃ n, TT[i]? = some n := ⟨_, List.getElem?_eq_getElem hil⟩
      obtain ⟨a, ea⟩ : ∃ a, as[i]? = some a := ⟨_, List.getElem?_eq_getElem (by omega)⟩
      have hnT := List.mem_of_getElem? en
      have smH6 := sm4.trans sm6
      have tk1 : TT.take (i + 1) = TT.take i ++ [n] := by rw [List.take_add_one, en]; rfl
      have hsub : ∀ m ∈ TT.take i, m ∈ TT.take (i + 1) := fun m hm => by rw [tk1]; exact List.mem_append_left _ hm
      have e0 : (0 : Int) + (i : Nat) = (i : Nat) := by omega
      rw [e0]
      refine ⟨_, rfl, _, rfl, D3, _, _, _, rfl, rfl, SqL.of (sm6 _ _ hD34), atI_nat (nNs_at en), _, rfl, _, _, rfl, rfl, _, rfl, ite2 (fun hge => ?_) (fun _ => ⟨_, _, kvs, rfl, sm6, hfo, hF.mono hsub, by omega⟩)⟩
      have hge : (kn.length : Int) ≤ (idx (kn ++ ms) n : Nat) := of_decide_eq_true hge
      have hnk : n ∉ kn := fun z => by
        rw [idx_append ms z] at hge
        have := idx_lt z
        omega
      have hn0 : n ∉ T0 := fun z => hnk (hin0 n z)
      have nk0 := NK.keep (tups_of smH6) _ _ (a3 i a n ea en)
      obtain ⟨rest, ha⟩ := nk_kind nk0
      have hgt4 : (nI (TT.map hgt))[i]? = some (.int (hgt n : Nat)) := by
        unfold nI
        rw [List.map_map, List.getElem?_map, en]; rfl
      refine ⟨_, rfl, _, rfl, q, _, _, .ref a, rfl, rfl, SqT.of (smH6 _ _ a1), atI_nat (by rw [List.getElem?_map, ea]; rfl), a, _, 0, _, rfl, rfl, SqT.of ha, atI_nat (j := 0) rfl, _, rfl, _, rfl, D4, _, _, _, rfl, rfl, SqL.of (sm6 _ _ hD4), atI_nat hgt4, by show 2 ≤ sizeLine; decide, fun p np => ?_⟩
      have s7 := same_upd (o := HO.tup [.str (kindS n), .int (hgt n : Nat)]) np
      have hfo7 := s7 _ _ hfo
      have hkey : (upd H6 p (.tup [.str (kindS n), .int (hgt n : Nat)])) p = some (.tup ((fkey (kindS n) (hgt n)).map kV)) := upd_same
      obtain ⟨FF, f1, f2, f3⟩ := hF.at (kindS n) (hgt n)
      refine ⟨_, rfl, fo, rfl, .inr ⟨kvs, .inl hfo7⟩, _, rfl, _, DGet.t hfo7 hkey, _, _, f1, rfl, ?_⟩
      refine ⟨_, rfl, _, rfl, fo, _, rfl, DPut.t hfo7 hkey (line_lt (by omega)), ?_⟩
      refine ⟨_, _, _, rfl, fun b o hb => ?_, upd_same, hF.put hsub (by rw [tk1]; simp) (fun z => ?_) hn0 f2 f3, Nat.le_trans (length_putK _ _ _) (by omega)⟩
      · rw [upd_ne (ne_of_none hb nfo)]
        exact s7 _ _ (sm6 _ _ hb)
      · obtain ⟨j, hj⟩ := List.mem_iff_getElem?.mp z
        have hjl := (List.getElem?_eq_some_iff.mp hj).1
        rw [List.length_take] at hjl
        rw [List.getElem?_take_of_lt (by omega)] at hj
        have := idx_eq tt.nd hj
        rw [idx_eq tt.nd en] at this
        omega
    · rintro σ H6 ⟨y8, y9, kvs, rfl, sm6, hfo, hF, hkv⟩
      rw [hlen, List.take_length] at hF
      exact ⟨_, rfl, k H6 fo kvs (sm4.trans sm6) hfo hF⟩
end
end Sh

namespace Sh
open PySem PySem.Spec PyProof.Rows L2
section
variable {P : Program} {w : World} {K : PySem.W.Frag} {mg : Str → Option Value} {base : Heap} {C : Addr}
/-! ### _law_kept -/
theorem scKept : FnScope ["_law_found", "_law_blocks", "_law_runs", "_law_key"] ["_law_found", "_law_blocks", "_law_runs"] (defScope sKept) := ⟨rfl, rfl, rfl, by decide +kernel, rfl, by decide +kernel, by decide +kernel⟩
/-- few enough -/
def FewK (kvs : List (List Key × V)) : Prop := ∀ p ∈ kvs, ∃ (s : Str) (h m : Nat), p = (fkey s h, V.int (m : Nat)) ∧ ¬ s = "leaf" ∧ m ≤ 10 ∧ (s = "run" → m ≤ 6)
def spKept : Sp := fun vs H Q _ => ∃ (fo : Addr) (kvs : List (List Key × V)), vs = [.ref fo, .int 10, .int 6] ∧ H fo = some (.dT kvs) ∧ FewK kvs ∧ ∀ H', Q (.bl true) H'
theorem ok_kept {f : Addr} {fd : FuncData} {k : Nat} (F : Fun K "_law_kept" "_law_kept" sKept f fd) : FnOk P w K mg base CX0 (k + 1) f fd ["_law_found", "_law_blocks", "_law_runs"] spKept := by
  refine F.ok scKept (fun vs H Q E h => ?_) (fun cdv A outer s H vs Q E hr h => ?_)
  · obtain ⟨fo, kvs, rfl, _⟩ := h
    rfl
  · obtain ⟨fo, kvs, rfl, hfo, few, q⟩ := h
    have hu := hu_of hr
    refine ⟨_, pss_cons (ps_lock (ps_for PassesOwn.never rfl (pi_keys (pv 0)) (pg_name (i := 3) scKept.nd rfl (.inl rfl))
        (pss_one (ps_if (PW.pt (pw_or (pt_cmpR op_eq (pe_ix ix_tup (pv 3) pe_int (fun _ _ => rfl)) pe_str (nomark _))
            (pw_or (pt_cmpR op_gt (pe_dget hu (pv 0) (pv 3) (fun _ _ => rfl)) (pv 1) (nomark _))
            (pw_or1 (PW.pt (pw_and (pt_cmpR op_eq (pe_ix ix_tup (pv 3) pe_int (fun _ _ => rfl)) pe_str (nomark _)) (pw_and1 (pt_cmpR op_gt (pe_dget hu (pv 0) (pv 3) (fun _ _ => rfl)) (pv 2) (nomark _)))))))))
          (pss_one (ps_ret pe_bl)) pss_nil))))
      (pss_one (ps_ret pe_bl)), ?_⟩
    refine ⟨fo, _, hfo, trivial, fun od => ?_⟩
    refine ⟨_, rfl, fo, od, rfl, .inr ⟨kvs, upd_same, ?_⟩⟩
    refine for_gen (J := Itkt fo od kvs) kvs.length (fun i σ H' => (∃ y, σ = [some (.ref fo), some (.int 10), some (.int 6), y]) ∧ H' fo = some (.frz od (.dT kvs))) ⟨⟨none, rfl⟩, upd_same⟩ (fun i σ H' hi ⟨_, e⟩ => ⟨e, hi⟩) (fun σ H' ⟨_, e⟩ => ⟨e, Nat.le_refl _⟩) ?_ ?_
    · rintro i x σ H1 H2 hi ⟨⟨y, rfl⟩, hf⟩ ⟨rfl, k, v, qa, ek, rfl, hqa⟩
      obtain ⟨s, h, m, e, hs, hm, hm6⟩ := few _ (List.mem_of_getElem? ek)
      injection e with e1 e2
      subst e1
      subst e2
      obtain ⟨v', hv'⟩ : ∃ v', valV kvs (fkey s h) = some v' := by
        cases ev : valV kvs (fkey s h) with
        | some v' => exact ⟨v', rfl⟩
        | none => exact absurd (List.mem_map_of_mem (f := (·.1)) (List.mem_of_getElem? ek)) (valV_not ev)
      obtain ⟨s2, h2, m2, e, _, hm2, hm26⟩ := few _ (valV_mem hv')
      injection e with e1 e2
      obtain ⟨rfl, rfl⟩ := fkey_inj e1
      subst e2
      have hk : H2 qa = some (.tup [.str s, .int h]) := hqa
      have hget : DGet H2 fo (.ref qa) (some (.int (m2 : Nat))) := .inr ⟨kvs, fkey s h, qa, .inr ⟨od, hf⟩, rfl, hqa, hv'.symm⟩
      refine ⟨_, rfl, qa, _, 0, _, rfl, rfl, SqT.of hk, atI_nat (j := 0) rfl, rfl, _, rfl, ?_⟩
      refine ite2 (fun z => absurd (V.str.inj (of_decide_eq_true z)) hs) (fun _ => ?_)
      refine ⟨_, rfl, _, rfl, fo, _, rfl, hget, _, rfl, _, _, rfl, rfl, _, rfl, ?_⟩
      refine ite2 (fun z => absurd (of_decide_eq_true z : (10 : Int) < (m2 : Nat)) (by omega)) (fun _ => ?_)
      refine ⟨_, rfl, qa, _, 0, _, rfl, rfl, SqT.of hk, atI_nat (j := 0) rfl, rfl, _, rfl, ?_⟩
      refine ite2 (fun z => ?_) (fun _ => iteF ⟨⟨_, rfl⟩, hf⟩)
      have hrun := hm26 (V.str.inj (of_decide_eq_true z))
      refine ⟨_, rfl, _, rfl, fo, _, rfl, hget, _, rfl, _, _, rfl, rfl, _, rfl, ?_⟩
      exact ite2 (fun z => absurd (of_decide_eq_true z : (6 : Int) < (m2 : Nat)) (by omega)) (fun _ => ⟨⟨_, rfl⟩, hf⟩)
    · rintro σ H1 ⟨⟨y, rfl⟩, hf⟩
      exact ⟨hf, q _⟩
end
end Sh

namespace Sh
open PySem PySem.Spec PyProof.Rows L2
abbrev sLaw : Stmt := topS 46
theorem occ_kids {c : List NestedKey} {n : Nd} (h : Occ c n) (hb : n.isBlock = true) : n.kids ≠ [] := by
  have h1 := occ_block h hb
  cases hl : hgt n with
  | zero =>
    rw [hl] at h1
    obtain ⟨e, _, rfl⟩ := List.mem_map.mp h1
    cases hb
  | succ l =>
    rw [hl] at h1
    obtain ⟨ns, rfl, h2, _, _⟩ := next_mem h1
    exact h2
theorem few_of {p c : List NestedKey} {T T0 : List Nd} {kvs : List (List Key × V)} (h : ∃ s t, c = s ++ p ++ t) (hT : ∀ n, n ∈ T ↔ Occ p n) (hT0 : ∀ n, n ∈ T0 ↔ Occ c n) (f : Found T T0 kvs) : FewK kvs := by
  rintro q hq
  obtain ⟨s, l, F, rfl, hne, nd, hF⟩ := f q hq
  have hall : ∀ n ∈ F, Occ p n ∧ ¬ Occ c n ∧ kindS n = s ∧ hgt n = l := fun n hn => by
    obtain ⟨a, b, d, e⟩ := hF n hn
    exact ⟨(hT n).mp a, fun z => b ((hT0 n).mpr z), d, e⟩
  have noleaf : ¬ s = "leaf" := fun z => by
    obtain ⟨n, hn⟩ := List.exists_mem_of_ne_nil F hne
    obtain ⟨a, b, d, _⟩ := hall n hn
    rw [z] at d
    cases n with
    | leaf e => exact b (law_leaves h _ rfl a)
    | run c k => exact leaf_run d.symm
    | block cs => exact leaf_block d.symm
  have run6 : s = "run" → F.length ≤ 6 := fun z => law_runs h l F nd fun n hn => by
    obtain ⟨a, b, d, e⟩ := hall n hn
    rw [z] at d
    cases n with
    | leaf _ => exact absurd d leaf_run
    | run _ _ => exact ⟨rfl, e, a, b⟩
    | block _ => exact absurd d block_run
  have ten : F.length ≤ 10 := by
    by_cases z : s = "run"
    · have := run6 z; omega
    · refine law_blocks h l F nd fun n hn => ?_
      obtain ⟨a, b, d, e⟩ := hall n hn
      cases n with
      | leaf _ => exact absurd d.symm noleaf
      | run _ _ => exact absurd d.symm z
      | block _ => exact ⟨rfl, e, a, b⟩
  exact ⟨s, l, F.length, rfl, noleaf, ten, run6⟩
theorem cut_part (c : List NestedKey) (lo hi : Option Int) : ∃ s t, c = s ++ cutK c lo hi ++ t := by
  refine ⟨c.take (HT.sIx c.length 0 lo), (c.drop (HT.sIx c.length 0 lo)).drop (HT.sIx c.length c.length hi - HT.sIx c.length 0 lo), ?_⟩
  unfold cutK
  rw [List.append_assoc, List.take_append_drop, List.take_append_drop]
section
variable {P : Program} {w : World} {K : PySem.W.Frag} {mg : Str → Option Value} {base : Heap} {C : Addr}
/-! ### law -/
theorem scLaw : FnScope ["_law_script", "_law_tape_here", "_law_contents_here", "_law_many", "_law_start", "_law_end", "_law_part", "_law_found"] ["_law_script"] (defScope sLaw) := ⟨rfl, rfl, rfl, by decide +kernel, rfl, by decide +kernel, by decide +kernel⟩
def spLaw (K : PySem.W.Frag) : Sp := fun vs H Q _ => ∃ (a : Addr) (ns : List Int), vs = [.ref a] ∧ SqL K H a (ns.map V.int) ∧ ∀ H', Q (.bl true) H'
theorem ok_law {f : Addr} {fd : FuncData} {k : Nat} (F : Fun K "law" "law" sLaw f fd) (T : Txt mg) (GT : FnG P w K mg base "_law_tape" k ["_law_script"] (spTape K)) (GS : FnG P w K mg base "_law_spread" k ["_law_tape_here"] spSpread) (GD : FnG P w K mg base "_law_draw" k ["_law_tape_here", "_law_many"] spDraw) (GF : FnG P w K mg base "_law_fresh" k ["_law_tables", "_law_table"] spFresh) (GTab : FnG P w K mg base "table_of" k ["contents"] spTableOf) (GK : FnG P w K mg base "_law_kept" k ["_law_found", "_law_blocks", "_law_runs"] spKept) : FnOk P w K mg base CX0 (k + 1) f fd ["_law_script"] (spLaw K) := by
  obtain ⟨f1, fd1, g1, k1, b1, GT⟩ := GT
  obtain ⟨f2, fd2, g2, k2, b2, GS⟩ := GS
  obtain ⟨f3, fd3, g3, k3, b3, GD⟩ := GD
  obtain ⟨f4, fd4, g4, k4, b4, GF⟩ := GF
  obtain ⟨f5, fd5, g5, k5, b5, GTab⟩ := GTab
  obtain ⟨f6, fd6, g6, k6, b6, GK⟩ := GK
  refine F.ok scLaw (fun vs H Q E h => ?_) (fun cdv A outer s H vs Q E hr h => ?_)
  · obtain ⟨a, ns, rfl, _⟩ := h
    rfl
  · obtain ⟨a, ns, rfl, hS, q⟩ := h
    refine ⟨_, pss_cons (ps_set (i := 1) scLaw.nd rfl (.inl rfl) (pe_call GT hr (by rfl) g1 k1 b1 .nil pass0 (pa_cons (pv 0) pa_nil)))
      (pss_cons (ps_set (i := 2) scLaw.nd rfl (.inl rfl) (pe_call GS hr (by rfl) g2 k2 b2 .nil pass0 (pa_cons (pv 1) pa_nil)))
      (pss_cons (ps_set (i := 3) scLaw.nd rfl (.inl rfl) (pe_callB call_len_seq (by rfl) T.len PySem.boot_len (pa_cons (pv 2) pa_nil)))
      (pss_cons (ps_set (i := 4) scLaw.nd rfl (.inl rfl) (pe_call GD hr (by rfl) g3 k3 b3 .nil pass0 (pa_cons (pv 1) (pa_cons (pe_ix ix_list (pe_lst (pa_cons pe_int (pa_cons (pe_op op_add (pv 3) pe_int) pa_nil))) (pe_call GD hr (by rfl) g3 k3 b3 .nil pass0 (pa_cons (pv 1) (pa_cons pe_int pa_nil))) (fun _ _ => rfl)) pa_nil))))
      (pss_cons (ps_set (i := 5) scLaw.nd rfl (.inl rfl) (pe_op op_sub (pv 3) (pe_call GD hr (by rfl) g3 k3 b3 .nil pass0 (pa_cons (pv 1) (pa_cons (pe_callB (call_min2 rfl) (by rfl) T.min boot_min (pa_cons (pe_op op_add (pv 3) pe_int) (pa_cons (pe_ix ix_list (pe_lst (pa_cons pe_int (pa_cons pe_int pa_nil))) (pe_call GD hr (by rfl) g3 k3 b3 .nil pass0 (pa_cons (pv 1) (pa_cons pe_int pa_nil))) (fun _ _ => rfl)) pa_nil))) pa_nil)))))
      (pss_cons (ps_set (i := 6) scLaw.nd rfl (.inl rfl) (pe_slice sl_list (pv 2) (po_some (pv 4)) (po_some (pe_callB (call_max2 rfl) (by rfl) T.max boot_max (pa_cons (pv 4) (pa_cons (pv 5) pa_nil))))))
      (pss_cons (ps_set (i := 7) scLaw.nd rfl (.inl rfl) (pe_call GF hr (by rfl) g4 k4 b4 .nil pass0 (pa_cons (pe_lst (pa_cons (pe_call GTab hr (by rfl) g5 k5 b5 .nil pass0 (pa_cons (pe_callTy call_tuple_of (by rfl) T.tuple boot_tuple (pa_cons (pv 2) pa_nil)) pa_nil)) pa_nil)) (pa_cons (pe_call GTab hr (by rfl) g5 k5 b5 .nil pass0 (pa_cons (pe_callTy call_tuple_of (by rfl) T.tuple boot_tuple (pa_cons (pv 6) pa_nil)) pa_nil)) pa_nil))))
      (pss_one (ps_ret (pe_call GK hr (by rfl) g6 k6 b6 .nil pass0 (pa_cons (pv 7) (pa_cons pe_int (pa_cons pe_int pa_nil)))))))))))), ?_⟩
    refine ⟨_, rfl, a, ns, rfl, hS, fun H1 TP s1 t1 nT => ?_⟩
    refine ⟨_, rfl, TP, rfl, t1, fun H2 D c t2 kp2 hD cD hl => ?_⟩
    obtain ⟨vs, hvs, hvl⟩ := cD.len
    refine ⟨_, rfl, D, vs, rfl, .inl (SqL.of hvs), ?_⟩
    refine ⟨_, rfl, _, rfl, _, _, rfl, rfl, by show 2 ≤ sizeLine; decide, fun p np => ?_⟩
    have t2' := t2.same (same_upd (o := HO.lst [.int 9, .int ((vs.length : Nat) + 1)]) np)
    have hp := t2.ne np
    refine ⟨_, rfl, TP, 2, rfl, t2', by decide, by decide, fun H3 r3 t3 kp3 hr3 => ?_⟩
    refine ix_of (is := [9, (vs.length : Nat) + 1]) (kp3 _ _ upd_same hp) (by show r3 < 2; omega) fun m hm => ?_
    have hm1 : 1 ≤ m ∧ m < 4611686018427387904 := by
      simp at hm
      rcases hm with rfl | rfl <;> omega
    refine ⟨TP, m, rfl, t3, hm1.1, hm1.2, fun H4 r4 t4 kp4 hr4 => ?_⟩
    refine ⟨_, rfl, _, rfl, _, rfl, _, _, rfl, rfl, by show 2 ≤ sizeLine; decide, fun p2 np2 => ?_⟩
    have t4' := t4.same (same_upd (o := HO.lst [.int 9, .int 2000]) np2)
    have hp2 := t4.ne np2
    refine ⟨_, rfl, TP, 2, rfl, t4', by decide, by decide, fun H5 r5 t5 kp5 hr5 => ?_⟩
    refine ix_of (is := [9, 2000]) (kp5 _ _ upd_same hp2) (by show r5 < 2; omega) fun m2 hm2 => ?_
    have hm2' : 1 ≤ m2 ∧ m2 ≤ 2000 := by
      simp at hm2
      rcases hm2 with rfl | rfl <;> omega
    refine ⟨_, _, rfl, TP, _, rfl, t5, ?_, ?_, fun H6 r6 t6 kp6 hr6 => ?_⟩
    · by_cases z : m2 < (vs.length : Nat) + 1
      · rw [if_pos z]; omega
      · rw [if_neg z]; omega
    · by_cases z : m2 < (vs.length : Nat) + 1
      · rw [if_pos z]; omega
      · rw [if_neg z]; omega
    refine ⟨_, _, rfl, rfl, ?_⟩
    have cD6 : Cont H6 D c := (((cD.same (same_upd np)).keepX t2' kp3 hD).keepX t3 kp4 hD |>.same (same_upd np2)).keepX t4' kp5 hD |>.keepX t5 kp6 hD
    refine ⟨_, rfl, _, rfl, _, rfl, _, rfl, _, rfl, _, _, rfl, _, rfl, ?_⟩
    refine rSlL_of cD6 fun H7 D7 s7 n7 cD7 => ?_
    have cD67 := cD6.same s7
    have part := cut_part c (some (r4 : Int)) (some (if ((vs.length : Nat) : Int) - (r6 : Int) > (r4 : Int) then ((vs.length : Nat) : Int) - (r6 : Int) else (r4 : Int)))
    have plen := cutK_len c (some (r4 : Int)) (some (if ((vs.length : Nat) : Int) - (r6 : Int) > (r4 : Int) then ((vs.length : Nat) : Int) - (r6 : Int) else (r4 : Int)))
    revert cD7 part plen
    generalize cutK c (some (r4 : Int)) (some (if ((vs.length : Nat) : Int) - (r6 : Int) > (r4 : Int) then ((vs.length : Nat) : Int) - (r6 : Int) else (r4 : Int))) = part
    intro cD7 hpart plen
    obtain ⟨⟨us, hus, nku⟩, hok⟩ := cD67
    obtain ⟨⟨us2, hus2, nku2⟩, hok2⟩ := cD7
    refine ⟨_, rfl, D, us, rfl, .inl ⟨SqL.of hus, fun ta nta => ?_⟩⟩
    have sa := same_upd (o := HO.tup us) nta
    refine ⟨ta, c, us, rfl, upd_same, NKs.keep (tups_of sa) _ _ nku, hok, by omega, fun H8 q0 T0 s8 TV0 tb0 occ0 wf0 tl0 => ?_⟩
    refine ⟨by show 1 ≤ sizeLine; decide, fun ts nts => ?_⟩
    have sb := same_upd (o := HO.lst [.ref q0]) nts
    have s78 := (sa.trans s8).trans sb
    refine ⟨_, rfl, D7, us2, rfl, .inl ⟨SqL.of (s78 _ _ hus2), fun tc ntc => ?_⟩⟩
    have sc := same_upd (o := HO.tup us2) ntc
    refine ⟨tc, part, us2, rfl, upd_same, NKs.keep (tups_of (s78.trans sc)) _ _ nku2, hok2, by omega, fun H9 q1 T1 s9 TV1 tb1 occ1 wf1 tl1 => ?_⟩
    have sd := sc.trans s9
    refine ⟨ts, q0, q1, T0, T1, rfl, sd _ _ upd_same, TV0.keep (tups_of (sb.trans sd)), TV1, tb0, tb1, wf0, wf1, (fun n hn hb => occ_kids ((occ1 n).mp hn) hb), tl0, tl1, fun HA fo kvs sA hfo hF => ?_⟩
    exact ⟨_, rfl, fo, kvs, rfl, hfo, few_of hpart occ1 occ0 hF, q⟩
end
end Sh

namespace Sh
open PySem PySem.Spec PyProof.Rows L2
/-! ### what the top has written, joined -/
theorem all_mk {l : PySem.W.OpenLaw} {w : World} {K : PySem.W.Frag} {h : Heap} {mg : Str → Option Value} {fa C : Addr} (X : K.In h) (G : h.Ns mainGlobals mg) (hfa : mg "law" = some (.ref fa))
    {f0 f1 f2 f3 f4 f5 f6 f7 f8 f9 f10 f11 f12 f13 f14 f15 f16 f17 f18 f19 f20 f21 f22 f23 f24 f25 f26 f27 f28 f29 f30 f31 f32 f33 f34 f35 f36 f37 f38 f39 : Addr} {od0 an0 od1 an1 od2 an2 od3 an3 od4 an4 od5 an5 od6 an6 od7 an7 od8 an8 od9 an9 od10 an10 od11 an11 od12 an12 od13 an13 od14 an14 od15 an15 od16 an16 od17 an17 od18 an18 od19 an19 od20 an20 od21 an21 od22 an22 od23 an23 od24 an24 od25 an25 od26 an26 od27 an27 od28 an28 od29 an29 od30 an30 od31 an31 od32 an32 od33 an33 od34 an34 od35 an35 od36 an36 od37 an37 od38 an38 od39 an39 : Option Addr} {sl0 sl1 sl2 sl3 sl4 sl5 sl6 sl7 sl8 sl9 sl10 sl11 sl12 sl13 sl14 sl15 sl16 sl17 sl18 sl19 sl20 sl21 sl22 sl23 sl24 sl25 sl26 sl27 sl28 sl29 sl30 sl31 sl32 sl33 sl34 sl35 sl36 sl37 sl38 sl39 : Array (Option Value)} {oc0 kV0 dc0 pm0 cd0 ct0 oc1 kV1 dc1 pm1 cd1 ct1 oc2 kV2 dc2 pm2 cd2 ct2 oc3 kV3 dc3 pm3 cd3 ct3 oc4 kV4 dc4 pm4 cd4 ct4 oc5 kV5 dc5 pm5 cd5 ct5 oc6 kV6 dc6 pm6 cd6 ct6 oc7 kV7 dc7 pm7 cd7 ct7 oc8 kV8 dc8 pm8 cd8 ct8 oc9 kV9 dc9 pm9 cd9 ct9 oc10 kV10 dc10 pm10 cd10 ct10 oc11 kV11 dc11 pm11 cd11 ct11 oc12 kV12 dc12 pm12 cd12 ct12 oc13 kV13 dc13 pm13 cd13 ct13 oc14 kV14 dc14 pm14 cd14 ct14 oc15 kV15 dc15 pm15 cd15 ct15 oc16 kV16 dc16 pm16 cd16 ct16 oc17 kV17 dc17 pm17 cd17 ct17 oc18 kV18 dc18 pm18 cd18 ct18 oc19 kV19 dc19 pm19 cd19 ct19 oc20 kV20 dc20 pm20 cd20 ct20 oc21 kV21 dc21 pm21 cd21 ct21 oc22 kV22 dc22 pm22 cd22 ct22 oc23 kV23 dc23 pm23 cd23 ct23 oc24 kV24 dc24 pm24 cd24 ct24 oc25 kV25 dc25 pm25 cd25 ct25 oc26 kV26 dc26 pm26 cd26 ct26 oc27 kV27 dc27 pm27 cd27 ct27 oc28 kV28 dc28 pm28 cd28 ct28 oc29 kV29 dc29 pm29 cd29 ct29 oc30 kV30 dc30 pm30 cd30 ct30 oc31 kV31 dc31 pm31 cd31 ct31 oc32 kV32 dc32 pm32 cd32 ct32 oc33 kV33 dc33 pm33 cd33 ct33 oc34 kV34 dc34 pm34 cd34 ct34 oc35 kV35 dc35 pm35 cd35 ct35 oc36 kV36 dc36 pm36 cd36 ct36 oc37 kV37 dc37 pm37 cd37 ct37 oc38 kV38 dc38 pm38 cd38 ct38 oc39 kV39 dc39 pm39 cd39 ct39 : Value} {tD tR : Tok}
    (a0 : PySem.W.nsIn K mainGlobals "digits_of" = some (some (.ref f0)))
    (l0 : K.lookup f0 = some ⟨oc0, od0, .func (PySem.W.fnOf "digits_of" "digits_of" (defArgs sDigits) (defBody sDigits) (defScope sDigits) .none kV0 dc0 pm0 an0 cd0 ct0), sl0⟩) (c0 : PySem.W.codeIn K cd0 "digits_of" = true) (k0 : PySem.W.keepIn K (.ref f0) = true)
    (a1 : PySem.W.nsIn K mainGlobals "code_of" = some (some (.ref f1)))
    (l1 : K.lookup f1 = some ⟨oc1, od1, .func (PySem.W.fnOf "code_of" "code_of" (defArgs sCode) (defBody sCode) (defScope sCode) .none kV1 dc1 pm1 an1 cd1 ct1), sl1⟩) (c1 : PySem.W.codeIn K cd1 "code_of" = true) (k1 : PySem.W.keepIn K (.ref f1) = true)
    (a2 : PySem.W.nsIn K mainGlobals "run_code" = some (some (.ref f2)))
    (l2 : K.lookup f2 = some ⟨oc2, od2, .func (PySem.W.fnOf "run_code" "run_code" (defArgs sRunCode) (defBody sRunCode) (defScope sRunCode) .none kV2 dc2 pm2 an2 cd2 ct2), sl2⟩) (c2 : PySem.W.codeIn K cd2 "run_code" = true) (k2 : PySem.W.keepIn K (.ref f2) = true)
    (a3 : PySem.W.nsIn K mainGlobals "block_code" = some (some (.ref f3)))
    (l3 : K.lookup f3 = some ⟨oc3, od3, .func (PySem.W.fnOf "block_code" "block_code" (defArgs sBlockCode) (defBody sBlockCode) (defScope sBlockCode) .none kV3 dc3 pm3 an3 cd3 ct3), sl3⟩) (c3 : PySem.W.codeIn K cd3 "block_code" = true) (k3 : PySem.W.keepIn K (.ref f3) = true)
    (a4 : PySem.W.nsIn K mainGlobals "groups_of" = some (some (.ref f4)))
    (l4 : K.lookup f4 = some ⟨oc4, od4, .func (PySem.W.fnOf "groups_of" "groups_of" (defArgs sGroups) (defBody sGroups) (defScope sGroups) .none kV4 dc4 pm4 an4 cd4 ct4), sl4⟩) (c4 : PySem.W.codeIn K cd4 "groups_of" = true) (k4 : PySem.W.keepIn K (.ref f4) = true)
    (a5 : PySem.W.nsIn K mainGlobals "first_difference" = some (some (.ref f5)))
    (l5 : K.lookup f5 = some ⟨oc5, od5, .func (PySem.W.fnOf "first_difference" "first_difference" (defArgs sFirst) (defBody sFirst) (defScope sFirst) .none kV5 dc5 pm5 an5 cd5 ct5), sl5⟩) (c5 : PySem.W.codeIn K cd5 "first_difference" = true) (k5 : PySem.W.keepIn K (.ref f5) = true)
    (a6 : PySem.W.nsIn K mainGlobals "coin_after" = some (some (.ref f6)))
    (l6 : K.lookup f6 = some ⟨oc6, od6, .func (PySem.W.fnOf "coin_after" "coin_after" (defArgs sCoin) (defBody sCoin) (defScope sCoin) .none kV6 dc6 pm6 an6 cd6 ct6), sl6⟩) (c6 : PySem.W.codeIn K cd6 "coin_after" = true) (k6 : PySem.W.keepIn K (.ref f6) = true)
    (a7 : PySem.W.nsIn K mainGlobals "coins_of_codes" = some (some (.ref f7)))
    (l7 : K.lookup f7 = some ⟨oc7, od7, .func (PySem.W.fnOf "coins_of_codes" "coins_of_codes" (defArgs sCoins) (defBody sCoins) (defScope sCoins) .none kV7 dc7 pm7 an7 cd7 ct7), sl7⟩) (c7 : PySem.W.codeIn K cd7 "coins_of_codes" = true) (k7 : PySem.W.keepIn K (.ref f7) = true)
    (a8 : PySem.W.nsIn K mainGlobals "mix" = some (some (.ref f8)))
    (l8 : K.lookup f8 = some ⟨oc8, od8, .func (PySem.W.fnOf "mix" "mix" (defArgs sMix) (defBody sMix) (defScope sMix) .none kV8 dc8 pm8 an8 cd8 ct8), sl8⟩) (c8 : PySem.W.codeIn K cd8 "mix" = true) (k8 : PySem.W.keepIn K (.ref f8) = true)
    (a9 : PySem.W.nsIn K mainGlobals "one_round" = some (some (.ref f9)))
    (l9 : K.lookup f9 = some ⟨oc9, od9, .func (PySem.W.fnOf "one_round" "one_round" (defArgs sRound) (defBody sRound) (defScope sRound) .none kV9 dc9 pm9 an9 cd9 ct9), sl9⟩) (c9 : PySem.W.codeIn K cd9 "one_round" = true) (k9 : PySem.W.keepIn K (.ref f9) = true)
    (a10 : PySem.W.nsIn K mainGlobals "colors_of_coins" = some (some (.ref f10)))
    (l10 : K.lookup f10 = some ⟨oc10, od10, .func (PySem.W.fnOf "colors_of_coins" "colors_of_coins" (defArgs sColors) (defBody sColors) (defScope sColors) .none kV10 dc10 pm10 an10 cd10 ct10), sl10⟩) (c10 : PySem.W.codeIn K cd10 "colors_of_coins" = true) (k10 : PySem.W.keepIn K (.ref f10) = true)
    (a11 : PySem.W.nsIn K mainGlobals "is_peak" = some (some (.ref f11)))
    (l11 : K.lookup f11 = some ⟨oc11, od11, .func (PySem.W.fnOf "is_peak" "is_peak" (defArgs sPeak) (defBody sPeak) (defScope sPeak) .none kV11 dc11 pm11 an11 cd11 ct11), sl11⟩) (c11 : PySem.W.codeIn K cd11 "is_peak" = true) (k11 : PySem.W.keepIn K (.ref f11) = true)
    (a12 : PySem.W.nsIn K mainGlobals "starts_of" = some (some (.ref f12)))
    (l12 : K.lookup f12 = some ⟨oc12, od12, .func (PySem.W.fnOf "starts_of" "starts_of" (defArgs sStarts) (defBody sStarts) (defScope sStarts) .none kV12 dc12 pm12 an12 cd12 ct12), sl12⟩) (c12 : PySem.W.codeIn K cd12 "starts_of" = true) (k12 : PySem.W.keepIn K (.ref f12) = true)
    (a13 : PySem.W.nsIn K mainGlobals "cut" = some (some (.ref f13)))
    (l13 : K.lookup f13 = some ⟨oc13, od13, .func (PySem.W.fnOf "cut" "cut" (defArgs sCut) (defBody sCut) (defScope sCut) .none kV13 dc13 pm13 an13 cd13 ct13), sl13⟩) (c13 : PySem.W.codeIn K cd13 "cut" = true) (k13 : PySem.W.keepIn K (.ref f13) = true)
    (a14 : PySem.W.nsIn K mainGlobals "list_nodes" = some (some (.ref f14)))
    (l14 : K.lookup f14 = some ⟨oc14, od14, .func (PySem.W.fnOf "list_nodes" "list_nodes" (defArgs sListNodes) (defBody sListNodes) (defScope sListNodes) .none kV14 dc14 pm14 an14 cd14 ct14), sl14⟩) (c14 : PySem.W.codeIn K cd14 "list_nodes" = true) (k14 : PySem.W.keepIn K (.ref f14) = true)
    (a15 : PySem.W.nsIn K mainGlobals "leaf_row" = some (some (.ref f15)))
    (l15 : K.lookup f15 = some ⟨oc15, od15, .func (PySem.W.fnOf "leaf_row" "leaf_row" (defArgs sLeafRow) (defBody sLeafRow) (defScope sLeafRow) .none kV15 dc15 pm15 an15 cd15 ct15), sl15⟩) (c15 : PySem.W.codeIn K cd15 "leaf_row" = true) (k15 : PySem.W.keepIn K (.ref f15) = true)
    (a16 : PySem.W.nsIn K mainGlobals "item_row" = some (some (.ref f16)))
    (l16 : K.lookup f16 = some ⟨oc16, od16, .func (PySem.W.fnOf "item_row" "item_row" (defArgs sItemRow) (defBody sItemRow) (defScope sItemRow) .none kV16 dc16 pm16 an16 cd16 ct16), sl16⟩) (c16 : PySem.W.codeIn K cd16 "item_row" = true) (k16 : PySem.W.keepIn K (.ref f16) = true)
    (a17 : PySem.W.nsIn K mainGlobals "color_row" = some (some (.ref f17)))
    (l17 : K.lookup f17 = some ⟨oc17, od17, .func (PySem.W.fnOf "color_row" "color_row" (defArgs sColorRow) (defBody sColorRow) (defScope sColorRow) .none kV17 dc17 pm17 an17 cd17 ct17), sl17⟩) (c17 : PySem.W.codeIn K cd17 "color_row" = true) (k17 : PySem.W.keepIn K (.ref f17) = true)
    (a18 : PySem.W.nsIn K mainGlobals "grow" = some (some (.ref f18)))
    (l18 : K.lookup f18 = some ⟨oc18, od18, .func (PySem.W.fnOf "grow" "grow" (defArgs sGrow) (defBody sGrow) (defScope sGrow) .none kV18 dc18 pm18 an18 cd18 ct18), sl18⟩) (c18 : PySem.W.codeIn K cd18 "grow" = true) (k18 : PySem.W.keepIn K (.ref f18) = true)
    (a19 : PySem.W.nsIn K mainGlobals "add_tree" = some (some (.ref f19)))
    (l19 : K.lookup f19 = some ⟨oc19, od19, .func (PySem.W.fnOf "add_tree" "add_tree" (defArgs sAddTree) (defBody sAddTree) (defScope sAddTree) .none kV19 dc19 pm19 an19 cd19 ct19), sl19⟩) (c19 : PySem.W.codeIn K cd19 "add_tree" = true) (k19 : PySem.W.keepIn K (.ref f19) = true)
    (a20 : PySem.W.nsIn K mainGlobals "placed" = some (some (.ref f20)))
    (l20 : K.lookup f20 = some ⟨oc20, od20, .func (PySem.W.fnOf "placed" "placed" (defArgs sPlaced) (defBody sPlaced) (defScope sPlaced) .none kV20 dc20 pm20 an20 cd20 ct20), sl20⟩) (c20 : PySem.W.codeIn K cd20 "placed" = true) (k20 : PySem.W.keepIn K (.ref f20) = true)
    (a21 : PySem.W.nsIn K mainGlobals "table_of" = some (some (.ref f21)))
    (l21 : K.lookup f21 = some ⟨oc21, od21, .func (PySem.W.fnOf "table_of" "table_of" (defArgs sTableOf) (defBody sTableOf) (defScope sTableOf) .none kV21 dc21 pm21 an21 cd21 ct21), sl21⟩) (c21 : PySem.W.codeIn K cd21 "table_of" = true) (k21 : PySem.W.keepIn K (.ref f21) = true)
    (a22 : PySem.W.nsIn K mainGlobals "_law_tape" = some (some (.ref f22)))
    (l22 : K.lookup f22 = some ⟨oc22, od22, .func (PySem.W.fnOf "_law_tape" "_law_tape" (defArgs sTape) (defBody sTape) (defScope sTape) .none kV22 dc22 pm22 an22 cd22 ct22), sl22⟩) (c22 : PySem.W.codeIn K cd22 "_law_tape" = true) (k22 : PySem.W.keepIn K (.ref f22) = true)
    (a23 : PySem.W.nsIn K mainGlobals "_law_draw" = some (some (.ref f23)))
    (l23 : K.lookup f23 = some ⟨oc23, od23, .func (PySem.W.fnOf "_law_draw" "_law_draw" (defArgs sDraw) (defBody sDraw) (defScope sDraw) .none kV23 dc23 pm23 an23 cd23 ct23), sl23⟩) (c23 : PySem.W.codeIn K cd23 "_law_draw" = true) (k23 : PySem.W.keepIn K (.ref f23) = true)
    (a24 : PySem.W.nsIn K mainGlobals "_law_sign" = some (some (.ref f24)))
    (l24 : K.lookup f24 = some ⟨oc24, od24, .func (PySem.W.fnOf "_law_sign" "_law_sign" (defArgs sSign) (defBody sSign) (defScope sSign) .none kV24 dc24 pm24 an24 cd24 ct24), sl24⟩) (c24 : PySem.W.codeIn K cd24 "_law_sign" = true) (k24 : PySem.W.keepIn K (.ref f24) = true)
    (a25 : PySem.W.nsIn K mainGlobals "_law_word" = some (some (.ref f25)))
    (l25 : K.lookup f25 = some ⟨oc25, od25, .func (PySem.W.fnOf "_law_word" "_law_word" (defArgs sWord) (defBody sWord) (defScope sWord) .none kV25 dc25 pm25 an25 cd25 ct25), sl25⟩) (c25 : PySem.W.codeIn K cd25 "_law_word" = true) (k25 : PySem.W.keepIn K (.ref f25) = true)
    (a26 : PySem.W.nsIn K mainGlobals "_law_scalar" = some (some (.ref f26)))
    (l26 : K.lookup f26 = some ⟨oc26, od26, .func (PySem.W.fnOf "_law_scalar" "_law_scalar" (defArgs sScalar) (defBody sScalar) (defScope sScalar) .none kV26 dc26 pm26 an26 cd26 ct26), sl26⟩) (c26 : PySem.W.codeIn K cd26 "_law_scalar" = true) (k26 : PySem.W.keepIn K (.ref f26) = true)
    (a27 : PySem.W.nsIn K mainGlobals "_law_element" = some (some (.ref f27)))
    (l27 : K.lookup f27 = some ⟨oc27, od27, .func (PySem.W.fnOf "_law_element" "_law_element" (defArgs sElement) (defBody sElement) (defScope sElement) .none kV27 dc27 pm27 an27 cd27 ct27), sl27⟩) (c27 : PySem.W.codeIn K cd27 "_law_element" = true) (k27 : PySem.W.keepIn K (.ref f27) = true)
    (a28 : PySem.W.nsIn K mainGlobals "_law_contents" = some (some (.ref f28)))
    (l28 : K.lookup f28 = some ⟨oc28, od28, .func (PySem.W.fnOf "_law_contents" "_law_contents" (defArgs sContents) (defBody sContents) (defScope sContents) .none kV28 dc28 pm28 an28 cd28 ct28), sl28⟩) (c28 : PySem.W.codeIn K cd28 "_law_contents" = true) (k28 : PySem.W.keepIn K (.ref f28) = true)
    (a29 : PySem.W.nsIn K mainGlobals "_law_large" = some (some (.ref f29)))
    (l29 : K.lookup f29 = some ⟨oc29, od29, .func (PySem.W.fnOf "_law_large" "_law_large" (defArgs sLarge) (defBody sLarge) (defScope sLarge) .none kV29 dc29 pm29 an29 cd29 ct29), sl29⟩) (c29 : PySem.W.codeIn K cd29 "_law_large" = true) (k29 : PySem.W.keepIn K (.ref f29) = true)
    (a30 : PySem.W.nsIn K mainGlobals "_law_numbers" = some (some (.ref f30)))
    (l30 : K.lookup f30 = some ⟨oc30, od30, .func (PySem.W.fnOf "_law_numbers" "_law_numbers" (defArgs sNumbers) (defBody sNumbers) (defScope sNumbers) .none kV30 dc30 pm30 an30 cd30 ct30), sl30⟩) (c30 : PySem.W.codeIn K cd30 "_law_numbers" = true) (k30 : PySem.W.keepIn K (.ref f30) = true)
    (a31 : PySem.W.nsIn K mainGlobals "_law_heights" = some (some (.ref f31)))
    (l31 : K.lookup f31 = some ⟨oc31, od31, .func (PySem.W.fnOf "_law_heights" "_law_heights" (defArgs sHeights) (defBody sHeights) (defScope sHeights) .none kV31 dc31 pm31 an31 cd31 ct31), sl31⟩) (c31 : PySem.W.codeIn K cd31 "_law_heights" = true) (k31 : PySem.W.keepIn K (.ref f31) = true)
    (a32 : PySem.W.nsIn K mainGlobals "_law_fresh" = some (some (.ref f32)))
    (l32 : K.lookup f32 = some ⟨oc32, od32, .func (PySem.W.fnOf "_law_fresh" "_law_fresh" (defArgs sFresh) (defBody sFresh) (defScope sFresh) .none kV32 dc32 pm32 an32 cd32 ct32), sl32⟩) (c32 : PySem.W.codeIn K cd32 "_law_fresh" = true) (k32 : PySem.W.keepIn K (.ref f32) = true)
    (a33 : PySem.W.nsIn K mainGlobals "_law_kept" = some (some (.ref f33)))
    (l33 : K.lookup f33 = some ⟨oc33, od33, .func (PySem.W.fnOf "_law_kept" "_law_kept" (defArgs sKept) (defBody sKept) (defScope sKept) .none kV33 dc33 pm33 an33 cd33 ct33), sl33⟩) (c33 : PySem.W.codeIn K cd33 "_law_kept" = true) (k33 : PySem.W.keepIn K (.ref f33) = true)
    (a34 : PySem.W.nsIn K mainGlobals "_law_spread" = some (some (.ref f34)))
    (l34 : K.lookup f34 = some ⟨oc34, od34, .func (PySem.W.fnOf "_law_spread" "_law_spread" (defArgs sSpread) (defBody sSpread) (defScope sSpread) .none kV34 dc34 pm34 an34 cd34 ct34), sl34⟩) (c34 : PySem.W.codeIn K cd34 "_law_spread" = true) (k34 : PySem.W.keepIn K (.ref f34) = true)
    (a35 : PySem.W.nsIn K mainGlobals "law" = some (some (.ref f35)))
    (l35 : K.lookup f35 = some ⟨oc35, od35, .func (PySem.W.fnOf "law" "law" (defArgs sLaw) (defBody sLaw) (defScope sLaw) .none kV35 dc35 pm35 an35 cd35 ct35), sl35⟩) (c35 : PySem.W.codeIn K cd35 "law" = true) (k35 : PySem.W.keepIn K (.ref f35) = true)
    (aC : PySem.W.nsIn K mainGlobals "NodeTable" = some (some (.ref C)))
    (a36 : PySem.W.findIn K (.ref C) "__init__" = some (some (.ref f36))) (i36 : PySem.W.isFn K (.ref f36) = true)
    (l36 : K.lookup f36 = some ⟨oc36, od36, .func (PySem.W.fnOf "__init__" "NodeTable.__init__" (defArgs sTInit) (defBody sTInit) (defScope sTInit) .none kV36 dc36 pm36 an36 cd36 ct36), sl36⟩) (c36 : PySem.W.codeIn K cd36 "NodeTable.__init__" = true) (k36 : PySem.W.keepIn K (.ref f36) = true)
    (a37 : PySem.W.findIn K (.ref C) "number_of" = some (some (.ref f37))) (i37 : PySem.W.isFn K (.ref f37) = true)
    (l37 : K.lookup f37 = some ⟨oc37, od37, .func (PySem.W.fnOf "number_of" "NodeTable.number_of" (defArgs sTNum) (defBody sTNum) (defScope sTNum) .none kV37 dc37 pm37 an37 cd37 ct37), sl37⟩) (c37 : PySem.W.codeIn K cd37 "NodeTable.number_of" = true) (k37 : PySem.W.keepIn K (.ref f37) = true)
    (a38 : PySem.W.findIn K (.ref C) "measure" = some (some (.ref f38))) (i38 : PySem.W.isFn K (.ref f38) = true)
    (l38 : K.lookup f38 = some ⟨oc38, od38, .func (PySem.W.fnOf "measure" "NodeTable.measure" (defArgs sTMeas) (defBody sTMeas) (defScope sTMeas) .none kV38 dc38 pm38 an38 cd38 ct38), sl38⟩) (c38 : PySem.W.codeIn K cd38 "NodeTable.measure" = true) (k38 : PySem.W.keepIn K (.ref f38) = true)
    (a39 : PySem.W.findIn K (.ref C) "item_number" = some (some (.ref f39))) (i39 : PySem.W.isFn K (.ref f39) = true)
    (l39 : K.lookup f39 = some ⟨oc39, od39, .func (PySem.W.fnOf "item_number" "NodeTable.item_number" (defArgs sTItem) (defBody sTItem) (defScope sTItem) .none kV39 dc39 pm39 an39 cd39 ct39), sl39⟩) (c39 : PySem.W.codeIn K cd39 "NodeTable.item_number" = true) (k39 : PySem.W.keepIn K (.ref f39) = true)
    (pg : PySem.W.plainGet K C Str.empty = true) (hd : PySem.W.hasDictIn K C = true) (po : PySem.W.plainOver K C = true) (sa : PySem.W.findIn K (.ref C) "__setattr__" = some (some (.builtin "object.__setattr__"))) (mk : PySem.W.makesIn K C = true) (kc : PySem.W.keepIn K (.ref C) = true)
    (n0 : PySem.W.findIn K (.ref C) "numbers" = some none)
    (n1 : PySem.W.findIn K (.ref C) "entries" = some none)
    (n2 : PySem.W.findIn K (.ref C) "codes" = some none)
    (n3 : PySem.W.findIn K (.ref C) "sizes" = some none)
    (z0 : PySem.W.nsIn K mainGlobals "range" = some none)
    (z1 : PySem.W.nsIn K mainGlobals "len" = some none)
    (z2 : PySem.W.nsIn K mainGlobals "tuple" = some none)
    (z3 : PySem.W.nsIn K mainGlobals "isinstance" = some none)
    (z4 : PySem.W.nsIn K mainGlobals "str" = some none)
    (z5 : PySem.W.nsIn K mainGlobals "sum" = some none)
    (z6 : PySem.W.nsIn K mainGlobals "zip" = some none)
    (z7 : PySem.W.nsIn K mainGlobals "int" = some none)
    (z8 : PySem.W.nsIn K mainGlobals "abs" = some none)
    (z9 : PySem.W.nsIn K mainGlobals "list" = some none)
    (z10 : PySem.W.nsIn K mainGlobals "max" = some none)
    (z11 : PySem.W.nsIn K mainGlobals "min" = some none)
    (z12 : PySem.W.nsIn K mainGlobals "ord" = some none)
    (dg : PySem.W.nsIn K mainGlobals "DIGIT" = some (some (.int 65536 tD))) (rd : PySem.W.nsIn K mainGlobals "ROUNDS" = some (some (.int 4 tR))) :
    ∃ fd : FuncData, (∀ (s : Shared) (v : Value), BindsTo s fd ⟨[v], []⟩ [("_law_script", v)]) ∧ ∀ base : Heap, K.In base → base.Ns mainGlobals mg → FnOk l.prog w K mg base CX0 24 fa fd ["_law_script"] (spLaw K) := by
  have e := hfa.symm.trans (PySem.W.mg_of X G a35)
  cases e
  have T : Txt mg := ⟨⟨tD, PySem.W.mg_of X G dg⟩, ⟨tR, PySem.W.mg_of X G rd⟩, PySem.W.mg_none_of X G z0, PySem.W.mg_none_of X G z1, PySem.W.mg_none_of X G z2, PySem.W.mg_none_of X G z3, PySem.W.mg_none_of X G z4, PySem.W.mg_none_of X G z5, PySem.W.mg_none_of X G z6, PySem.W.mg_none_of X G z7, PySem.W.mg_none_of X G z8, PySem.W.mg_none_of X G z9, PySem.W.mg_none_of X G z10, PySem.W.mg_none_of X G z11, PySem.W.mg_none_of X G z12⟩
  have TC : TxtC K C := ⟨⟨pg, hd, po, sa⟩, n0, n1, n2, n3⟩
  have gC := PySem.W.mg_of X G aC
  have F0 := fun_mk (st := sDigits) l0 c0 k0
  have b0 := F0.binds (ps := ["number", "count"]) fun _ _ _ _ _ _ us hl => match us, hl with | [_, _], _ => rfl
  have g0 := PySem.W.mg_of X G a0
  have F1 := fun_mk (st := sCode) l1 c1 k1
  have b1 := F1.binds (ps := ["element"]) fun _ _ _ _ _ _ us hl => match us, hl with | [_], _ => rfl
  have g1 := PySem.W.mg_of X G a1
  have F2 := fun_mk (st := sRunCode) l2 c2 k2
  have b2 := F2.binds (ps := ["times", "child_code"]) fun _ _ _ _ _ _ us hl => match us, hl with | [_, _], _ => rfl
  have g2 := PySem.W.mg_of X G a2
  have F3 := fun_mk (st := sBlockCode) l3 c3 k3
  have b3 := F3.binds (ps := ["child_codes"]) fun _ _ _ _ _ _ us hl => match us, hl with | [_], _ => rfl
  have g3 := PySem.W.mg_of X G a3
  have F4 := fun_mk (st := sGroups) l4 c4 k4
  have b4 := F4.binds (ps := ["row"]) fun _ _ _ _ _ _ us hl => match us, hl with | [_], _ => rfl
  have g4 := PySem.W.mg_of X G a4
  have F5 := fun_mk (st := sFirst) l5 c5 k5
  have b5 := F5.binds (ps := ["before", "code"]) fun _ _ _ _ _ _ us hl => match us, hl with | [_, _], _ => rfl
  have g5 := PySem.W.mg_of X G a5
  have F6 := fun_mk (st := sCoin) l6 c6 k6
  have b6 := F6.binds (ps := ["before", "code"]) fun _ _ _ _ _ _ us hl => match us, hl with | [_, _], _ => rfl
  have g6 := PySem.W.mg_of X G a6
  have F7 := fun_mk (st := sCoins) l7 c7 k7
  have b7 := F7.binds (ps := ["codes"]) fun _ _ _ _ _ _ us hl => match us, hl with | [_], _ => rfl
  have g7 := PySem.W.mg_of X G a7
  have F8 := fun_mk (st := sMix) l8 c8 k8
  have b8 := F8.binds (ps := ["a", "b"]) fun _ _ _ _ _ _ us hl => match us, hl with | [_, _], _ => rfl
  have g8 := PySem.W.mg_of X G a8
  have F9 := fun_mk (st := sRound) l9 c9 k9
  have b9 := F9.binds (ps := ["numbers"]) fun _ _ _ _ _ _ us hl => match us, hl with | [_], _ => rfl
  have g9 := PySem.W.mg_of X G a9
  have F10 := fun_mk (st := sColors) l10 c10 k10
  have b10 := F10.binds (ps := ["coins"]) fun _ _ _ _ _ _ us hl => match us, hl with | [_], _ => rfl
  have g10 := PySem.W.mg_of X G a10
  have F11 := fun_mk (st := sPeak) l11 c11 k11
  have b11 := F11.binds (ps := ["colors", "place"]) fun _ _ _ _ _ _ us hl => match us, hl with | [_, _], _ => rfl
  have g11 := PySem.W.mg_of X G a11
  have F12 := fun_mk (st := sStarts) l12 c12 k12
  have b12 := F12.binds (ps := ["colors"]) fun _ _ _ _ _ _ us hl => match us, hl with | [_], _ => rfl
  have g12 := PySem.W.mg_of X G a12
  have F13 := fun_mk (st := sCut) l13 c13 k13
  have b13 := F13.binds (ps := ["items", "starts"]) fun _ _ _ _ _ _ us hl => match us, hl with | [_, _], _ => rfl
  have g13 := PySem.W.mg_of X G a13
  have F14 := fun_mk (st := sListNodes) l14 c14 k14
  have b14 := F14.binds (ps := ["table", "root", "places"]) fun _ _ _ _ _ _ us hl => match us, hl with | [_, _, _], _ => rfl
  have g14 := PySem.W.mg_of X G a14
  have F15 := fun_mk (st := sLeafRow) l15 c15 k15
  have b15 := F15.binds (ps := ["table", "contents"]) fun _ _ _ _ _ _ us hl => match us, hl with | [_, _], _ => rfl
  have g15 := PySem.W.mg_of X G a15
  have F16 := fun_mk (st := sItemRow) l16 c16 k16
  have b16 := F16.binds (ps := ["table", "row"]) fun _ _ _ _ _ _ us hl => match us, hl with | [_, _], _ => rfl
  have g16 := PySem.W.mg_of X G a16
  have F17 := fun_mk (st := sColorRow) l17 c17 k17
  have b17 := F17.binds (ps := ["table", "items"]) fun _ _ _ _ _ _ us hl => match us, hl with | [_, _], _ => rfl
  have g17 := PySem.W.mg_of X G a17
  have F18 := fun_mk (st := sGrow) l18 c18 k18
  have b18 := F18.binds (ps := ["table", "contents"]) fun _ _ _ _ _ _ us hl => match us, hl with | [_, _], _ => rfl
  have g18 := PySem.W.mg_of X G a18
  have F19 := fun_mk (st := sAddTree) l19 c19 k19
  have b19 := F19.binds (ps := ["table", "contents"]) fun _ _ _ _ _ _ us hl => match us, hl with | [_, _], _ => rfl
  have g19 := PySem.W.mg_of X G a19
  have F20 := fun_mk (st := sPlaced) l20 c20 k20
  have b20 := F20.binds (ps := ["entry", "places"]) fun _ _ _ _ _ _ us hl => match us, hl with | [_, _], _ => rfl
  have g20 := PySem.W.mg_of X G a20
  have F21 := fun_mk (st := sTableOf) l21 c21 k21
  have b21 := F21.binds (ps := ["contents"]) fun _ _ _ _ _ _ us hl => match us, hl with | [_], _ => rfl
  have g21 := PySem.W.mg_of X G a21
  have F22 := fun_mk (st := sTape) l22 c22 k22
  have b22 := F22.binds (ps := ["_law_script"]) fun _ _ _ _ _ _ us hl => match us, hl with | [_], _ => rfl
  have g22 := PySem.W.mg_of X G a22
  have F23 := fun_mk (st := sDraw) l23 c23 k23
  have b23 := F23.binds (ps := ["_law_tape_here", "_law_many"]) fun _ _ _ _ _ _ us hl => match us, hl with | [_, _], _ => rfl
  have g23 := PySem.W.mg_of X G a23
  have F24 := fun_mk (st := sSign) l24 c24 k24
  have b24 := F24.binds (ps := ["_law_tape_here"]) fun _ _ _ _ _ _ us hl => match us, hl with | [_], _ => rfl
  have g24 := PySem.W.mg_of X G a24
  have F25 := fun_mk (st := sWord) l25 c25 k25
  have b25 := F25.binds (ps := ["_law_tape_here"]) fun _ _ _ _ _ _ us hl => match us, hl with | [_], _ => rfl
  have g25 := PySem.W.mg_of X G a25
  have F26 := fun_mk (st := sScalar) l26 c26 k26
  have b26 := F26.binds (ps := ["_law_tape_here"]) fun _ _ _ _ _ _ us hl => match us, hl with | [_], _ => rfl
  have g26 := PySem.W.mg_of X G a26
  have F27 := fun_mk (st := sElement) l27 c27 k27
  have b27 := F27.binds (ps := ["_law_tape_here"]) fun _ _ _ _ _ _ us hl => match us, hl with | [_], _ => rfl
  have g27 := PySem.W.mg_of X G a27
  have F28 := fun_mk (st := sContents) l28 c28 k28
  have b28 := F28.binds (ps := ["_law_tape_here", "_law_most"]) fun _ _ _ _ _ _ us hl => match us, hl with | [_, _], _ => rfl
  have g28 := PySem.W.mg_of X G a28
  have F29 := fun_mk (st := sLarge) l29 c29 k29
  have b29 := F29.binds (ps := ["_law_tape_here", "_law_size"]) fun _ _ _ _ _ _ us hl => match us, hl with | [_, _], _ => rfl
  have g29 := PySem.W.mg_of X G a29
  have F30 := fun_mk (st := sNumbers) l30 c30 k30
  have b30 := F30.binds (ps := ["_law_known", "_law_table"]) fun _ _ _ _ _ _ us hl => match us, hl with | [_, _], _ => rfl
  have g30 := PySem.W.mg_of X G a30
  have F31 := fun_mk (st := sHeights) l31 c31 k31
  have b31 := F31.binds (ps := ["_law_table"]) fun _ _ _ _ _ _ us hl => match us, hl with | [_], _ => rfl
  have g31 := PySem.W.mg_of X G a31
  have F32 := fun_mk (st := sFresh) l32 c32 k32
  have b32 := F32.binds (ps := ["_law_tables", "_law_table"]) fun _ _ _ _ _ _ us hl => match us, hl with | [_, _], _ => rfl
  have g32 := PySem.W.mg_of X G a32
  have F33 := fun_mk (st := sKept) l33 c33 k33
  have b33 := F33.binds (ps := ["_law_found", "_law_blocks", "_law_runs"]) fun _ _ _ _ _ _ us hl => match us, hl with | [_, _, _], _ => rfl
  have g33 := PySem.W.mg_of X G a33
  have F34 := fun_mk (st := sSpread) l34 c34 k34
  have b34 := F34.binds (ps := ["_law_tape_here"]) fun _ _ _ _ _ _ us hl => match us, hl with | [_], _ => rfl
  have g34 := PySem.W.mg_of X G a34
  have F35 := fun_mk (st := sLaw) l35 c35 k35
  have b35 := F35.binds (ps := ["_law_script"]) fun _ _ _ _ _ _ us hl => match us, hl with | [_], _ => rfl
  have g35 := PySem.W.mg_of X G a35
  have F36 := fun_mk (st := sTInit) l36 c36 k36
  have b36 := F36.binds (ps := ["self"]) fun _ _ _ _ _ _ us hl => match us, hl with | [_], _ => rfl
  have F37 := fun_mk (st := sTNum) l37 c37 k37
  have b37 := F37.binds (ps := ["self", "entry"]) fun _ _ _ _ _ _ us hl => match us, hl with | [_, _], _ => rfl
  have F38 := fun_mk (st := sTMeas) l38 c38 k38
  have b38 := F38.binds (ps := ["self", "entry"]) fun _ _ _ _ _ _ us hl => match us, hl with | [_, _], _ => rfl
  have F39 := fun_mk (st := sTItem) l39 c39 k39
  have b39 := F39.binds (ps := ["self", "number", "times"]) fun _ _ _ _ _ _ us hl => match us, hl with | [_, _, _], _ => rfl
  refine ⟨PySem.W.fnOf "law" "law" (defArgs sLaw) (defBody sLaw) (defScope sLaw) .none kV35 dc35 pm35 an35 cd35 ct35, fun s v => .of_eq rfl, fun base _ _ => ?_⟩
  have mN : Meth K C "number_of" f37 := ⟨a37, i37, k37⟩
  have mM : Meth K C "measure" f38 := ⟨a38, i38, k38⟩
  have mI : Meth K C "item_number" f39 := ⟨a39, i39, k39⟩
  have MK : Mk K C f36 := ⟨mk, a36, i36, kc⟩
  have Z := Env.mk (mg := mg) TC T F38 b38 mM F1 b1 g1 F0 b0 g0 F2 b2 g2 F3 b3 g3
  have GN : MtG l.prog w K mg base C "number_of" 5 ["self", "entry"] (spNum l.prog w C) := ⟨f37, _, mN, b37, ok_number (k := 0) F37 Z⟩
  have GI : MtG l.prog w K mg base C "item_number" 6 ["self", "number", "times"] (spItem l.prog w C) := ⟨f39, _, mI, b39, ok_item (k := 0) F39 F37 b37 mN Z⟩
  have G1 : FnG l.prog w K mg base "groups_of" 1 ["row"] (spGroups K) := ⟨f4, _, g4, k4, b4, ok_groups (k := 0) F4 T⟩
  have G2 : FnG l.prog w K mg base "coins_of_codes" 3 ["codes"] (spCoins K) := ⟨f7, _, g7, k7, b7, ok_coins (k := 0) F7 F6 b6 g6 F5 b5 g5 T⟩
  have G3 : FnG l.prog w K mg base "colors_of_coins" 3 ["coins"] (spColors K) := ⟨f10, _, g10, k10, b10, ok_colors (k := 0) F10 F9 b9 g9 F8 b8 g8 T⟩
  have G4 : FnG l.prog w K mg base "starts_of" 2 ["colors"] (spStarts K) := ⟨f12, _, g12, k12, b12, ok_starts (k := 0) F12 F11 b11 g11 T⟩
  have G5 : FnG l.prog w K mg base "cut" 1 ["items", "starts"] (spCut K) := ⟨f13, _, g13, k13, b13, ok_cut (k := 0) F13 T⟩
  have G6 : FnG l.prog w K mg base "leaf_row" 6 ["table", "contents"] (spLeafRow l.prog w K C) := ⟨f15, _, g15, k15, b15, ok_leafRow F15 TC GN⟩
  have G7 : FnG l.prog w K mg base "item_row" 7 ["table", "row"] (spItemRow l.prog w K C) := ⟨f16, _, g16, k16, b16, ok_itemRow F16 TC T GI (G1.mono (by decide))⟩
  have G8 : FnG l.prog w K mg base "color_row" 4 ["table", "items"] (spColorRow l.prog w K C) := ⟨f17, _, g17, k17, b17, ok_colorRow F17 TC G2 G3⟩
  have G9 : FnG l.prog w K mg base "grow" 8 ["table", "contents"] (spGrow l.prog w C) := ⟨f18, _, g18, k18, b18, ok_grow F18 TC T (GN.mono (by decide)) (G6.mono (by decide)) G7 (G8.mono (by decide)) (G4.mono (by decide)) (G5.mono (by decide))⟩
  have G10 : FnG l.prog w K mg base "add_tree" 9 ["table", "contents"] (spAddTree l.prog w C) := ⟨f19, _, g19, k19, b19, ok_addTree F19 G9⟩
  have G11 : FnG l.prog w K mg base "list_nodes" 22 ["table", "root", "places"] (spListNodes l.prog w C 21) := ⟨f14, _, g14, k14, b14, ok_listNodes F14 b14 g14 TC T 21⟩
  have G12 : FnG l.prog w K mg base "placed" 1 ["entry", "places"] (spPlaced) := ⟨f20, _, g20, k20, b20, ok_placed (k := 0) F20 T⟩
  have GJ : FnOk l.prog w K mg base CX0 1 f36 _ ["self"] (spTInit l.prog w C) := ok_tinit (k := 0) F36 TC
  have G13 : FnG l.prog w K mg base "table_of" 23 ["contents"] (spTableOf) := ⟨f21, _, g21, k21, b21, ok_tableOf (k := 21) F21 T TC gC MK b36 (GJ.mono (by decide)) (G10.mono (by decide)) G11 (G12.mono (by decide))⟩
  have G14 : FnG l.prog w K mg base "_law_tape" 1 ["_law_script"] (spTape K) := ⟨f22, _, g22, k22, b22, ok_tape (k := 0) F22 T⟩
  have G15 : FnG l.prog w K mg base "_law_draw" 1 ["_law_tape_here", "_law_many"] (spDraw) := ⟨f23, _, g23, k23, b23, ok_draw (k := 0) F23 T⟩
  have G16 : FnG l.prog w K mg base "_law_sign" 2 ["_law_tape_here"] (spSign) := ⟨f24, _, g24, k24, b24, ok_sign F24 G15⟩
  have G17 : FnG l.prog w K mg base "_law_word" 3 ["_law_tape_here"] (spWord) := ⟨f25, _, g25, k25, b25, ok_word F25 T (G15.mono (by decide)) G16⟩
  have G18 : FnG l.prog w K mg base "_law_scalar" 4 ["_law_tape_here"] (spScalar) := ⟨f26, _, g26, k26, b26, ok_scalar F26 (G15.mono (by decide)) G17⟩
  have G19 : FnG l.prog w K mg base "_law_element" 5 ["_law_tape_here"] (spElement) := ⟨f27, _, g27, k27, b27, ok_element F27 (G15.mono (by decide)) G18⟩
  have G20 : FnG l.prog w K mg base "_law_contents" 6 ["_law_tape_here", "_law_most"] (spContents) := ⟨f28, _, g28, k28, b28, ok_contents F28 T (G15.mono (by decide)) G19⟩
  have G21 : FnG l.prog w K mg base "_law_large" 2 ["_law_tape_here", "_law_size"] (spLarge) := ⟨f29, _, g29, k29, b29, ok_large F29 T G15⟩
  have G22 : FnG l.prog w K mg base "_law_spread" 7 ["_law_tape_here"] (spSpread) := ⟨f34, _, g34, k34, b34, ok_spread F34 (G15.mono (by decide)) G20 (G21.mono (by decide))⟩
  have G23 : FnG l.prog w K mg base "_law_numbers" 1 ["_law_known", "_law_table"] (spNumbers l.prog w) := ⟨f30, _, g30, k30, b30, ok_numbers (k := 0) F30 T⟩
  have G24 : FnG l.prog w K mg base "_law_heights" 1 ["_law_table"] (spHeights) := ⟨f31, _, g31, k31, b31, ok_heights (k := 0) F31⟩
  have G25 : FnG l.prog w K mg base "_law_fresh" 2 ["_law_tables", "_law_table"] (spFresh) := ⟨f32, _, g32, k32, b32, ok_fresh F32 T G23 G24⟩
  have G26 : FnG l.prog w K mg base "_law_kept" 1 ["_law_found", "_law_blocks", "_law_runs"] (spKept) := ⟨f33, _, g33, k33, b33, ok_kept (k := 0) F33⟩
  exact ok_law F35 T (G14.mono (by decide)) (G22.mono (by decide)) (G15.mono (by decide)) (G25.mono (by decide)) G13 (G26.mono (by decide))
end Sh
open PySem PySem.W PyProof.Rows
set_option maxHeartbeats 0 in
theorem PySem.Challenge.cw_sameshape_k26_whole_parts_keep_nodes_holds : PySem.Challenge.rw_sameshape_k26_whole_parts_keep_nodes.Holds := by
  w_on; o_law; k_head; (case hw => w_witness2)
  k_fill
  refine L2.walk_ofK (l := PySem.Challenge.rw_sameshape_k26_whole_parts_keep_nodes) (n := 63) (k := 24) (x := "_law_script") (CX := L2.CX0) (sp := Sh.spLaw) rfl (by decide) rfl ⟨rfl, by decide, by decide⟩ (fun w h Y => PySem.W.kIn_of Y) ?F (fun _ _ a ns _ _ hS => ⟨a, ns, rfl, hS, fun _ => rfl⟩) (fun _ _ _ _ h => h)
  case F =>
    intro w mg fa h KX G hmg
    refine' Sh.all_mk KX G hmg ?a0 ?l0 ?c0 ?k0 ?a1 ?l1 ?c1 ?k1 ?a2 ?l2 ?c2 ?k2 ?a3 ?l3 ?c3 ?k3 ?a4 ?l4 ?c4 ?k4 ?a5 ?l5 ?c5 ?k5 ?a6 ?l6 ?c6 ?k6 ?a7 ?l7 ?c7 ?k7 ?a8 ?l8 ?c8 ?k8 ?a9 ?l9 ?c9 ?k9 ?a10 ?l10 ?c10 ?k10 ?a11 ?l11 ?c11 ?k11 ?a12 ?l12 ?c12 ?k12 ?a13 ?l13 ?c13 ?k13 ?a14 ?l14 ?c14 ?k14 ?a15 ?l15 ?c15 ?k15 ?a16 ?l16 ?c16 ?k16 ?a17 ?l17 ?c17 ?k17 ?a18 ?l18 ?c18 ?k18 ?a19 ?l19 ?c19 ?k19 ?a20 ?l20 ?c20 ?k20 ?a21 ?l21 ?c21 ?k21 ?a22 ?l22 ?c22 ?k22 ?a23 ?l23 ?c23 ?k23 ?a24 ?l24 ?c24 ?k24 ?a25 ?l25 ?c25 ?k25 ?a26 ?l26 ?c26 ?k26 ?a27 ?l27 ?c27 ?k27 ?a28 ?l28 ?c28 ?k28 ?a29 ?l29 ?c29 ?k29 ?a30 ?l30 ?c30 ?k30 ?a31 ?l31 ?c31 ?k31 ?a32 ?l32 ?c32 ?k32 ?a33 ?l33 ?c33 ?k33 ?a34 ?l34 ?c34 ?k34 ?a35 ?l35 ?c35 ?k35 ?aC ?a36 ?i36 ?l36 ?c36 ?k36 ?a37 ?i37 ?l37 ?c37 ?k37 ?a38 ?i38 ?l38 ?c38 ?k38 ?a39 ?i39 ?l39 ?c39 ?k39 ?pg ?hd ?po ?sa ?mk ?kc ?n0 ?n1 ?n2 ?n3 ?z0 ?z1 ?z2 ?z3 ?z4 ?z5 ?z6 ?z7 ?z8 ?z9 ?z10 ?z11 ?z12 ?dg ?rd
    (case a0 => k_is); (case l0 => k_is); (case c0 => k_is); (case k0 => k_is); (case a1 => k_is); (case l1 => k_is)
    (case c1 => k_is); (case k1 => k_is); (case a2 => k_is); (case l2 => k_is); (case c2 => k_is); (case k2 => k_is)
    (case a3 => k_is); (case l3 => k_is); (case c3 => k_is); (case k3 => k_is); (case a4 => k_is); (case l4 => k_is)
    (case c4 => k_is); (case k4 => k_is); (case a5 => k_is); (case l5 => k_is); (case c5 => k_is); (case k5 => k_is)
    (case a6 => k_is); (case l6 => k_is); (case c6 => k_is); (case k6 => k_is); (case a7 => k_is); (case l7 => k_is)
    (case c7 => k_is); (case k7 => k_is); (case a8 => k_is); (case l8 => k_is); (case c8 => k_is); (case k8 => k_is)
    (case a9 => k_is); (case l9 => k_is); (case c9 => k_is); (case k9 => k_is); (case a10 => k_is); (case l10 => k_is)
    (case c10 => k_is); (case k10 => k_is); (case a11 => k_is); (case l11 => k_is); (case c11 => k_is); (case k11 => k_is)
    (case a12 => k_is); (case l12 => k_is); (case c12 => k_is); (case k12 => k_is); (case a13 => k_is); (case l13 => k_is)
    (case c13 => k_is); (case k13 => k_is); (case a14 => k_is); (case l14 => k_is); (case c14 => k_is); (case k14 => k_is)
    (case a15 => k_is); (case l15 => k_is); (case c15 => k_is); (case k15 => k_is); (case a16 => k_is); (case l16 => k_is)
    (case c16 => k_is); (case k16 => k_is); (case a17 => k_is); (case l17 => k_is); (case c17 => k_is); (case k17 => k_is)
    (case a18 => k_is); (case l18 => k_is); (case c18 => k_is); (case k18 => k_is); (case a19 => k_is); (case l19 => k_is)
    (case c19 => k_is); (case k19 => k_is); (case a20 => k_is); (case l20 => k_is); (case c20 => k_is); (case k20 => k_is)
    (case a21 => k_is); (case l21 => k_is); (case c21 => k_is); (case k21 => k_is); (case a22 => k_is); (case l22 => k_is)
    (case c22 => k_is); (case k22 => k_is); (case a23 => k_is); (case l23 => k_is); (case c23 => k_is); (case k23 => k_is)
    (case a24 => k_is); (case l24 => k_is); (case c24 => k_is); (case k24 => k_is); (case a25 => k_is); (case l25 => k_is)
    (case c25 => k_is); (case k25 => k_is); (case a26 => k_is); (case l26 => k_is); (case c26 => k_is); (case k26 => k_is)
    (case a27 => k_is); (case l27 => k_is); (case c27 => k_is); (case k27 => k_is); (case a28 => k_is); (case l28 => k_is)
    (case c28 => k_is); (case k28 => k_is); (case a29 => k_is); (case l29 => k_is); (case c29 => k_is); (case k29 => k_is)
    (case a30 => k_is); (case l30 => k_is); (case c30 => k_is); (case k30 => k_is); (case a31 => k_is); (case l31 => k_is)
    (case c31 => k_is); (case k31 => k_is); (case a32 => k_is); (case l32 => k_is); (case c32 => k_is); (case k32 => k_is)
    (case a33 => k_is); (case l33 => k_is); (case c33 => k_is); (case k33 => k_is); (case a34 => k_is); (case l34 => k_is)
    (case c34 => k_is); (case k34 => k_is); (case a35 => k_is); (case l35 => k_is); (case c35 => k_is); (case k35 => k_is)
    (case aC => k_is); (case a36 => k_is); (case i36 => k_is); (case l36 => k_is); (case c36 => k_is); (case k36 => k_is)
    (case a37 => k_is); (case i37 => k_is); (case l37 => k_is); (case c37 => k_is); (case k37 => k_is); (case a38 => k_is)
    (case i38 => k_is); (case l38 => k_is); (case c38 => k_is); (case k38 => k_is); (case a39 => k_is); (case i39 => k_is)
    (case l39 => k_is); (case c39 => k_is); (case k39 => k_is); (case pg => k_is); (case hd => k_is); (case po => k_is)
    (case sa => k_is); (case mk => k_is); (case kc => k_is); (case n0 => k_is); (case n1 => k_is); (case n2 => k_is)
    (case n3 => k_is); (case z0 => k_is); (case z1 => k_is); (case z2 => k_is); (case z3 => k_is); (case z4 => k_is)
    (case z5 => k_is); (case z6 => k_is); (case z7 => k_is); (case z8 => k_is); (case z9 => k_is); (case z10 => k_is)
    (case z11 => k_is); (case z12 => k_is); (case dg => k_is); (case rd => k_is)
