/-
  Folded sheets, as plain functions. No condition.
-/
import Derived.Test.YtfckkkmacjjmhaaDoorMD
namespace Go.Ab
open Go.RowKit Go.Dw

/-- a side of a cell -/
structure Lf where
  row : Int
  col : Int
  back : Bool
  turned : Bool
  deriving DecidableEq
def Lf.c (x : Lf) : List V := [.i x.row, .i x.col, .b x.back, .b x.turned]
def lf0 : Lf := ⟨0, 0, false, false⟩
def glf (l : List Lf) (k : Nat) : Lf := l.getD k lf0
def V.lfs (l : List Lf) : V := .sl 4 l.length fun k => (glf l k).c
/-- where something holds first -/
def idxF (p : Nat → Bool) (n : Nat) : Int := match (List.range n).find? p with | some i => (i : Int) | none => -1
theorem idxF_some {p : Nat → Bool} {n i : Nat} (hi : i < n) (h : p i = true) (h0 : ∀ j, j < i → p j = false) : idxF p n = i := by
  have : (List.range n).find? p = some i := List.find?_range_eq_some.2 ⟨h, by simpa using hi, by simpa using h0⟩
  rw [idxF, this]
theorem idxF_none {p : Nat → Bool} {n : Nat} (h : ∀ j, j < n → p j = false) : idxF p n = -1 := by
  have : (List.range n).find? p = none := by simpa using h
  rw [idxF, this]
theorem idxF_inv {p : Nat → Bool} {n : Nat} : (idxF p n = -1 ∧ ∀ j, j < n → p j = false) ∨ ∃ i, i < n ∧ idxF p n = i ∧ p i = true ∧ ∀ j, j < i → p j = false := by
  cases h : (List.range n).find? p with
  | none => exact .inl ⟨by rw [idxF, h], by simpa using h⟩
  | some i =>
    obtain ⟨h1, h2, h3⟩ := List.find?_range_eq_some.1 h
    exact .inr ⟨i, by simpa using h2, by rw [idxF, h], h1, by simpa using h3⟩
/-- the error of folds -/
def folB (k : Int) : Bool := decide (k < 1) || decide (2 < k)
def chkF (f : List Int) : Int := if f.length = 0 ∨ 5 < f.length then 6 else if f.any folB then 2 else 0
theorem chkF_many {f : List Int} (h : f.length = 0 ∨ 5 < f.length) : chkF f = 6 := by rw [chkF, if_pos h]
theorem chkF_bad {f : List Int} (h : ¬ (f.length = 0 ∨ 5 < f.length)) {i : Nat} (hi : i < f.length) (hb : folB (gi f i) = true) : chkF f = 2 := by
  rw [chkF, if_neg h, if_pos]
  rw [List.any_eq_true]
  exact ⟨f[i], List.getElem_mem hi, by simpa [gi, List.getD_eq_getElem?_getD, List.getElem?_eq_getElem hi] using hb⟩
theorem chkF_ok {f : List Int} (h : ¬ (f.length = 0 ∨ 5 < f.length)) (hb : ∀ i, i < f.length → folB (gi f i) = false) : chkF f = 0 := by
  rw [chkF, if_neg h, if_neg]
  rw [List.any_eq_true]
  rintro ⟨x, hx, hxb⟩
  obtain ⟨i, hi, rfl⟩ := List.mem_iff_getElem.1 hx
  have := hb i hi
  simp [gi, List.getD_eq_getElem?_getD, List.getElem?_eq_getElem hi] at this
  rw [this] at hxb; cases hxb
theorem chkF_inv {f : List Int} (h : chkF f = 0) : (0 < f.length ∧ f.length ≤ 5) ∧ ∀ i, i < f.length → gi f i = 1 ∨ gi f i = 2 := by
  unfold chkF at h
  split at h
  · omega
  · split at h
    · omega
    · rename_i h1 h2
      refine ⟨by omega, fun i hi => ?_⟩
      have : folB (gi f i) = false := by
        cases hb : folB (gi f i) with
        | false => rfl
        | true =>
          exfalso; apply h2
          rw [List.any_eq_true]
          exact ⟨f[i], List.getElem_mem hi, by simpa [gi, List.getD_eq_getElem?_getD, List.getElem?_eq_getElem hi] using hb⟩
      simp [folB] at this
      omega
/-- what was laid upon a cell -/
def othL (own : Lf) (fold rows cols : Int) : Lf := if fold = 2 then ⟨2 * rows - 1 - own.row, own.col, !own.back, !own.turned⟩ else ⟨own.row, 2 * cols - 1 - own.col, !own.back, own.turned⟩
def twoL (own : Lf) (fold rows cols : Int) : List Lf := if own.back then [own, othL own fold rows cols] else [othL own fold rows cols, own]
def unfL (l : List Lf) (fold rows cols : Int) : List Lf := l.flatMap fun own => twoL own fold rows cols
theorem twoL_len (own : Lf) (fold rows cols : Int) : (twoL own fold rows cols).length = 2 := by unfold twoL; split <;> rfl
theorem unfL_len (l : List Lf) (fold rows cols : Int) : (unfL l fold rows cols).length = 2 * l.length := by
  induction l with
  | nil => rfl
  | cons x l ih => rw [unfL, List.flatMap_cons, List.length_append, twoL_len, ← unfL, ih, List.length_cons]; omega
theorem glf_cons2 (a b : Lf) (l : List Lf) (k : Nat) : glf (a :: b :: l) (k + 2) = glf l k := by simp [glf]
theorem two_at {α : Type} (g : α → List Lf) (hg : ∀ x, (g x).length = 2) : ∀ (l : List α) (k : Nat) (h : k < l.length), glf (l.flatMap g) (2 * k) = glf (g l[k]) 0 ∧ glf (l.flatMap g) (2 * k + 1) = glf (g l[k]) 1
  | x :: l, 0, _ => by
    have := hg x
    match hgx : g x, this with
    | [a, b], _ => rw [List.flatMap_cons, hgx]; simp [glf, hgx]
  | x :: l, k + 1, h => by
    have h2 := hg x
    match hgx : g x, h2 with
    | [a, b], _ =>
      have := two_at g hg l k (by simpa using h)
      rw [List.flatMap_cons, hgx]
      simp only [List.cons_append, List.nil_append, List.getElem_cons_succ]
      rw [show 2 * (k + 1) = 2 * k + 2 by omega, show 2 * k + 2 + 1 = 2 * k + 1 + 2 by omega, glf_cons2, glf_cons2]
      exact this
theorem glf_get {l : List Lf} {k : Nat} (h : k < l.length) : glf l k = l[k] := by simp [glf, List.getD_eq_getElem?_getD, List.getElem?_eq_getElem h]
theorem unfL_at {l : List Lf} {fold rows cols : Int} {k : Nat} (h : k < l.length) : glf (unfL l fold rows cols) (2 * k) = (if (glf l k).back then glf l k else othL (glf l k) fold rows cols) ∧ glf (unfL l fold rows cols) (2 * k + 1) = (if (glf l k).back then othL (glf l k) fold rows cols else glf l k) := by
  obtain ⟨h1, h2⟩ := two_at (fun own => twoL own fold rows cols) (fun _ => twoL_len _ _ _ _) l k h
  rw [unfL, h1, h2, glf_get h]
  unfold twoL
  split <;> simp [glf]
def gr0 (k : Int) : Int := if k = 2 then 2 else 1
def gr1 (k : Int) : Int := if k = 2 then 1 else 2
/-- the cells of a folded sheet from the top down, and the rows and columns of the open one -/
def stkS : List Int → List Lf × Int × Int
  | [] => ([lf0], 1, 1)
  | k :: f => (unfL (stkS f).1 k (stkS f).2.1 (stkS f).2.2, (stkS f).2.1 * gr0 k, (stkS f).2.2 * gr1 k)
def stkL (f : List Int) : List Lf := (stkS f).1
theorem stkL_len : ∀ f : List Int, (stkL f).length = 2 ^ f.length
  | [] => rfl
  | k :: f => by
    have := stkL_len f
    rw [stkL, stkS, unfL_len, ← stkL, this, List.length_cons, Nat.pow_succ]; omega
def Lf.flip (x : Lf) : Lf := ⟨x.row, x.col, !x.back, x.turned⟩
def pgL (f : List Int) : List Lf := (stkL f).flatMap fun x => [x, x.flip]
theorem pgL_len (f : List Int) : (pgL f).length = 2 * (stkL f).length := by
  rw [pgL]
  generalize stkL f = l
  induction l with
  | nil => rfl
  | cons x l ih => rw [List.flatMap_cons, List.length_append, ih]; simp; omega
theorem pgL_at {f : List Int} {k : Nat} (h : k < (stkL f).length) : glf (pgL f) (2 * k) = glf (stkL f) k ∧ glf (pgL f) (2 * k + 1) = (glf (stkL f) k).flip := by
  obtain ⟨h1, h2⟩ := two_at (fun x : Lf => [x, x.flip]) (fun _ => rfl) (stkL f) k h
  rw [pgL, h1, h2, glf_get h]
  exact ⟨rfl, rfl⟩
/-- folds are numbers of 1 and 2 -/
def FO (f : List Int) : Prop := ∀ x ∈ f, x = 1 ∨ x = 2
theorem FO_of {f : List Int} (h : ∀ i, i < f.length → gi f i = 1 ∨ gi f i = 2) : FO f := fun x hx => by
  obtain ⟨i, hi, rfl⟩ := List.mem_iff_getElem.1 hx
  have := h i hi
  simpa [gi, List.getD_eq_getElem?_getD, List.getElem?_eq_getElem hi] using this
theorem stk_bd : ∀ {f : List Int} (_ : FO f), (1 ≤ (stkS f).2.1 ∧ 1 ≤ (stkS f).2.2 ∧ (stkS f).2.1 * (stkS f).2.2 = 2 ^ f.length) ∧ ∀ x ∈ stkL f, (0 ≤ x.row ∧ x.row < (stkS f).2.1) ∧ (0 ≤ x.col ∧ x.col < (stkS f).2.2)
  | [], _ => ⟨⟨by decide, by decide, by decide⟩, fun x hx => by simp [stkL, stkS] at hx; subst hx; decide⟩
  | k :: f, h => by
    obtain ⟨⟨h1, h2, h3⟩, h4⟩ := stk_bd (f := f) fun x hx => h x (by simp [hx])
    have hk := h k (by simp)
    have e : (2 : Int) ^ (k :: f).length = 2 * 2 ^ f.length := by rw [List.length_cons, Int.pow_succ]; omega
    refine ⟨?_, fun x hx => ?_⟩
    · rw [e, stkS]
      simp only
      rcases hk with rfl | rfl
      · refine ⟨by simp [gr0]; omega, by simp [gr1]; omega, ?_⟩
        rw [show gr0 1 = 1 from rfl, show gr1 1 = 2 from rfl, Int.mul_one, ← Int.mul_assoc, h3]; omega
      · refine ⟨by simp [gr0]; omega, by simp [gr1]; omega, ?_⟩
        rw [show gr0 2 = 2 from rfl, show gr1 2 = 1 from rfl, Int.mul_one, Int.mul_right_comm, h3]; omega
    · rw [stkL, stkS] at hx
      simp only [unfL, List.mem_flatMap] at hx
      obtain ⟨own, ho, hx⟩ := hx
      obtain ⟨⟨q1, q2⟩, q3, q4⟩ := h4 own ho
      have hx' : x = own ∨ x = othL own k (stkS f).2.1 (stkS f).2.2 := by
        unfold twoL at hx
        split at hx <;> simp at hx
        · exact hx
        · exact hx.symm
      rw [stkS]
      simp only
      rcases hk with rfl | rfl
      · rw [show gr0 1 = 1 from rfl, show gr1 1 = 2 from rfl]
        rcases hx' with rfl | rfl
        · omega
        · simp [othL]; omega
      · rw [show gr0 2 = 2 from rfl, show gr1 2 = 1 from rfl]
        rcases hx' with rfl | rfl
        · omega
        · simp [othL]; omega
theorem pow_le5 {n : Nat} (h : n ≤ 5) : 2 ^ n ≤ 32 := Nat.pow_le_pow_right (by decide) h
theorem mul_le_of {a b c : Int} (ha : 1 ≤ a) (hb : 1 ≤ b) (h : a * b = c) : a ≤ c ∧ b ≤ c := by
  constructor
  · have := Int.mul_le_mul_of_nonneg_left hb (show 0 ≤ a by omega); omega
  · have := Int.mul_le_mul_of_nonneg_right ha (show 0 ≤ b by omega); omega
theorem stk_le {f : List Int} (h : FO f) (hl : f.length ≤ 5) : (stkS f).2.1 ≤ 32 ∧ (stkS f).2.2 ≤ 32 := by
  obtain ⟨⟨h1, h2, h3⟩, _⟩ := stk_bd h
  have hp : (2 : Int) ^ f.length ≤ 32 := by
    have := pow_le5 hl
    exact_mod_cast this
  have := mul_le_of h1 h2 h3
  omega
end Go.Ab
