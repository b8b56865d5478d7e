/-
  Several texts in one: Folded sheets, as plain functions. No condition. .. Ranges over functions whose rounds lay new memory, and hold it: the iterator writes to memory that it laid itself alone. Conditions: told in each theorem.
-/
import Derived.Test.YtfckkkmacjjmhaaDoorMD
namespace Go.Ab
open Go.RowKit Go.Dw
structure Lf where
 row : Int
 col : Int
 back : Bool
 turned : Bool
 deriving DecidableEq
def Lf.c (x : Lf) : List V := [.i x.row, .i x.col, .b x.back, .b x.turned]
def lf0 : Lf := ⟨0, 0, false, false⟩
def glf (l : List Lf) (k : Nat) : Lf := l.getD k lf0
def V.lfs (l : List Lf) : V := .sl 4 l.length fun k => (glf l k).c
def idxF (p : Nat → Bool) (n : Nat) : Int := match (List.range n).find? p with | some i => (i : Int) | none => -1
theorem idxF_some {p : Nat → Bool} {n i : Nat} (hi : i < n) (h : p i = true) (h0 : ∀ j, j < i → p j = false) : idxF p n = i := by
 have : (List.range n).find? p = some i := List.find?_range_eq_some.2 ⟨h, by simpa using hi, by simpa using h0⟩
 rw [idxF, this]
theorem idxF_none {p : Nat → Bool} {n : Nat} (h : ∀ j, j < n → p j = false) : idxF p n = -1 := by
 have : (List.range n).find? p = none := by simpa using h
 rw [idxF, this]
theorem idxF_inv {p : Nat → Bool} {n : Nat} : (idxF p n = -1 ∧ ∀ j, j < n → p j = false) ∨ ∃ i, i < n ∧ idxF p n = i ∧ p i = true ∧ ∀ j, j < i → p j = false := by
 cases h : (List.range n).find? p with
 | none => exact .inl ⟨by rw [idxF, h], by simpa using h⟩
 | some i =>
  obtain ⟨h1, h2, h3⟩ := List.find?_range_eq_some.1 h
  exact .inr ⟨i, by simpa using h2, by rw [idxF, h], h1, by simpa using h3⟩
def folB (k : Int) : Bool := decide (k < 1) || decide (2 < k)
def chkF (f : List Int) : Int := if f.length = 0 ∨ 5 < f.length then 6 else if f.any folB then 2 else 0
theorem chkF_many {f : List Int} (h : f.length = 0 ∨ 5 < f.length) : chkF f = 6 := by rw [chkF, if_pos h]
theorem chkF_bad {f : List Int} (h : ¬ (f.length = 0 ∨ 5 < f.length)) {i : Nat} (hi : i < f.length) (hb : folB (gi f i) = true) : chkF f = 2 := by
 rw [chkF, if_neg h, if_pos]
 rw [List.any_eq_true]
 exact ⟨f[i], List.getElem_mem hi, by simpa [gi, List.getD_eq_getElem?_getD, List.getElem?_eq_getElem hi] using hb⟩
theorem chkF_ok {f : List Int} (h : ¬ (f.length = 0 ∨ 5 < f.length)) (hb : ∀ i, i < f.length → folB (gi f i) = false) : chkF f = 0 := by
 rw [chkF, if_neg h, if_neg]
 rw [List.any_eq_true]
 rintro ⟨x, hx, hxb⟩
 obtain ⟨i, hi, rfl⟩ := List.mem_iff_getElem.1 hx
 have := hb i hi
 simp [gi, List.getD_eq_getElem?_getD, List.getElem?_eq_getElem hi] at this
 rw [this] at hxb; cases hxb
theorem chkF_inv {f : List Int} (h : chkF f = 0) : (0 < f.length ∧ f.length ≤ 5) ∧ ∀ i, i < f.length → gi f i = 1 ∨ gi f i = 2 := by
 unfold chkF at h
 split at h
 ·
  omega
 ·
  split at h
  ·
   omega
  ·
   rename_i h1 h2
   refine ⟨by omega, fun i hi => ?_⟩
   have : folB (gi f i) = false := by
    cases hb : folB (gi f i) with
    | false => rfl
    | true =>
     exfalso; apply h2
     rw [List.any_eq_true]
     exact ⟨f[i], List.getElem_mem hi, by simpa [gi, List.getD_eq_getElem?_getD, List.getElem?_eq_getElem hi] using hb⟩
   simp [folB] at this
   omega
def othL (own : Lf) (fold rows cols : Int) : Lf := if fold = 2 then ⟨2 * rows - 1 - own.row, own.col, !own.back, !own.turned⟩ else ⟨own.row, 2 * cols - 1 - own.col, !own.back, own.turned⟩
def twoL (own : Lf) (fold rows cols : Int) : List Lf := if own.back then [own, othL own fold rows cols] else [othL own fold rows cols, own]
def unfL (l : List Lf) (fold rows cols : Int) : List Lf := l.flatMap fun own => twoL own fold rows cols
theorem twoL_len (own : Lf) (fold rows cols : Int) : (twoL own fold rows cols).length = 2 := by unfold twoL; split <;> rfl
theorem unfL_len (l : List Lf) (fold rows cols : Int) : (unfL l fold rows cols).length = 2 * l.length := by
 induction l with
 | nil => rfl
 | cons x l ih => rw [unfL, List.flatMap_cons, List.length_append, twoL_len, ← unfL, ih, List.length_cons]; omega
theorem glf_cons2 (a b : Lf) (l : List Lf) (k : Nat) : glf (a :: b :: l) (k + 2) = glf l k := by simp [glf]
theorem two_at {α : Type} (g : α → List Lf) (hg : ∀ x, (g x).length = 2) : ∀ (l : List α) (k : Nat) (h : k < l.length), glf (l.flatMap g) (2 * k) = glf (g l[k]) 0 ∧ glf (l.flatMap g) (2 * k + 1) = glf (g l[k]) 1
 | x :: l, 0, _ => by
  have := hg x
  match hgx : g x, this with
  | [a, b], _ => rw [List.flatMap_cons, hgx]; simp [glf, hgx]
 | x :: l, k + 1, h => by
  have h2 := hg x
  match hgx : g x, h2 with
  | [a, b], _ =>
   have := two_at g hg l k (by simpa using h)
   rw [List.flatMap_cons, hgx]
   simp only [List.cons_append, List.nil_append, List.getElem_cons_succ]
   rw [show 2 * (k + 1) = 2 * k + 2 by omega, show 2 * k + 2 + 1 = 2 * k + 1 + 2 by omega, glf_cons2, glf_cons2]
   exact this
theorem glf_get {l : List Lf} {k : Nat} (h : k < l.length) : glf l k = l[k] := by simp [glf, List.getD_eq_getElem?_getD, List.getElem?_eq_getElem h]
theorem unfL_at {l : List Lf} {fold rows cols : Int} {k : Nat} (h : k < l.length) : glf (unfL l fold rows cols) (2 * k) = (if (glf l k).back then glf l k else othL (glf l k) fold rows cols) ∧ glf (unfL l fold rows cols) (2 * k + 1) = (if (glf l k).back then othL (glf l k) fold rows cols else glf l k) := by
 obtain ⟨h1, h2⟩ := two_at (fun own => twoL own fold rows cols) (fun _ => twoL_len _ _ _ _) l k h
 rw [unfL, h1, h2, glf_get h]
 unfold twoL
 split <;> simp [glf]
def gr0 (k : Int) : Int := if k = 2 then 2 else 1
def gr1 (k : Int) : Int := if k = 2 then 1 else 2
def stkS : List Int → List Lf × Int × Int
 | [] => ([lf0], 1, 1)
 | k :: f => (unfL (stkS f).1 k (stkS f).2.1 (stkS f).2.2, (stkS f).2.1 * gr0 k, (stkS f).2.2 * gr1 k)
def stkL (f : List Int) : List Lf := (stkS f).1
theorem stkL_len : ∀ f : List Int, (stkL f).length = 2 ^ f.length
 | [] => rfl
 | k :: f => by
  have := stkL_len f
  rw [stkL, stkS, unfL_len, ← stkL, this, List.length_cons, Nat.pow_succ]; omega
def Lf.flip (x : Lf) : Lf := ⟨x.row, x.col, !x.back, x.turned⟩
def pgL (f : List Int) : List Lf := (stkL f).flatMap fun x => [x, x.flip]
theorem pgL_len (f : List Int) : (pgL f).length = 2 * (stkL f).length := by
 rw [pgL]
 generalize stkL f = l
 induction l with
 | nil => rfl
 | cons x l ih => rw [List.flatMap_cons, List.length_append, ih]; simp; omega
theorem pgL_at {f : List Int} {k : Nat} (h : k < (stkL f).length) : glf (pgL f) (2 * k) = glf (stkL f) k ∧ glf (pgL f) (2 * k + 1) = (glf (stkL f) k).flip := by
 obtain ⟨h1, h2⟩ := two_at (fun x : Lf => [x, x.flip]) (fun _ => rfl) (stkL f) k h
 rw [pgL, h1, h2, glf_get h]
 exact ⟨rfl, rfl⟩
def FO (f : List Int) : Prop := ∀ x ∈ f, x = 1 ∨ x = 2
theorem FO_of {f : List Int} (h : ∀ i, i < f.length → gi f i = 1 ∨ gi f i = 2) : FO f := fun x hx => by
 obtain ⟨i, hi, rfl⟩ := List.mem_iff_getElem.1 hx
 have := h i hi
 simpa [gi, List.getD_eq_getElem?_getD, List.getElem?_eq_getElem hi] using this
theorem stk_bd : ∀ {f : List Int} (_ : FO f), (1 ≤ (stkS f).2.1 ∧ 1 ≤ (stkS f).2.2 ∧ (stkS f).2.1 * (stkS f).2.2 = 2 ^ f.length) ∧ ∀ x ∈ stkL f, (0 ≤ x.row ∧ x.row < (stkS f).2.1) ∧ (0 ≤ x.col ∧ x.col < (stkS f).2.2)
 | [], _ => ⟨⟨by decide, by decide, by decide⟩, fun x hx => by simp [stkL, stkS] at hx; subst hx; decide⟩
 | k :: f, h => by
  obtain ⟨⟨h1, h2, h3⟩, h4⟩ := stk_bd (f := f) fun x hx => h x (by simp [hx])
  have hk := h k (by simp)
  have e : (2 : Int) ^ (k :: f).length = 2 * 2 ^ f.length := by rw [List.length_cons, Int.pow_succ]; omega
  refine ⟨?_, fun x hx => ?_⟩
  ·
   rw [e, stkS]
   simp only
   rcases hk with rfl | rfl
   ·
    refine ⟨by simp [gr0]; omega, by simp [gr1]; omega, ?_⟩
    rw [show gr0 1 = 1 from rfl, show gr1 1 = 2 from rfl, Int.mul_one, ← Int.mul_assoc, h3]; omega
   ·
    refine ⟨by simp [gr0]; omega, by simp [gr1]; omega, ?_⟩
    rw [show gr0 2 = 2 from rfl, show gr1 2 = 1 from rfl, Int.mul_one, Int.mul_right_comm, h3]; omega
  ·
   rw [stkL, stkS] at hx
   simp only [unfL, List.mem_flatMap] at hx
   obtain ⟨own, ho, hx⟩ := hx
   obtain ⟨⟨q1, q2⟩, q3, q4⟩ := h4 own ho
   have hx' : x = own ∨ x = othL own k (stkS f).2.1 (stkS f).2.2 := by
    unfold twoL at hx
    split at hx <;> simp at hx
    ·
     exact hx
    ·
     exact hx.symm
   rw [stkS]
   simp only
   rcases hk with rfl | rfl
   ·
    rw [show gr0 1 = 1 from rfl, show gr1 1 = 2 from rfl]
    rcases hx' with rfl | rfl
    ·
     omega
    ·
     simp [othL]; omega
   ·
    rw [show gr0 2 = 2 from rfl, show gr1 2 = 1 from rfl]
    rcases hx' with rfl | rfl
    ·
     omega
    ·
     simp [othL]; omega
theorem pow_le5 {n : Nat} (h : n ≤ 5) : 2 ^ n ≤ 32 := Nat.pow_le_pow_right (by decide) h
theorem mul_le_of {a b c : Int} (ha : 1 ≤ a) (hb : 1 ≤ b) (h : a * b = c) : a ≤ c ∧ b ≤ c := by
 constructor
 ·
  have := Int.mul_le_mul_of_nonneg_left hb (show 0 ≤ a by omega); omega
 ·
  have := Int.mul_le_mul_of_nonneg_right ha (show 0 ≤ b by omega); omega
theorem stk_le {f : List Int} (h : FO f) (hl : f.length ≤ 5) : (stkS f).2.1 ≤ 32 ∧ (stkS f).2.2 ≤ 32 := by
 obtain ⟨⟨h1, h2, h3⟩, _⟩ := stk_bd h
 have hp : (2 : Int) ^ f.length ≤ 32 := by
  have := pow_le5 hl
  exact_mod_cast this
 have := mul_le_of h1 h2 h3
 omega
end Go.Ab

namespace Go.Ab
open Go.RowKit Go.Dw
def outB (n lo hi : Int) : Bool := decide (n < lo) || decide (hi < n)
def copB (n : Int) : Bool := outB n 1 1048576
def chkC (c : List Int) (slots plate : Int) : Int := if 8 < c.length then 6 else if c.any copB then 2 else if outB slots 1 64 || outB plate 0 1048576 then 3 else 0
theorem any_gi {c : List Int} {p : Int → Bool} : c.any p = true ↔ ∃ i, i < c.length ∧ p (gi c i) = true := by
 rw [List.any_eq_true]
 constructor
 ·
  rintro ⟨x, hx, h⟩
  obtain ⟨i, hi, rfl⟩ := List.mem_iff_getElem.1 hx
  exact ⟨i, hi, by simpa [gi, List.getD_eq_getElem?_getD, List.getElem?_eq_getElem hi] using h⟩
 ·
  rintro ⟨i, hi, h⟩
  exact ⟨c[i], List.getElem_mem hi, by simpa [gi, List.getD_eq_getElem?_getD, List.getElem?_eq_getElem hi] using h⟩
theorem chkC_1 {c : List Int} {s p : Int} (h : 8 < c.length) : chkC c s p = 6 := by rw [chkC, if_pos h]
theorem chkC_2 {c : List Int} {s p : Int} (h : ¬ 8 < c.length) {i : Nat} (hi : i < c.length) (hb : copB (gi c i) = true) : chkC c s p = 2 := by rw [chkC, if_neg h, if_pos (any_gi.2 ⟨i, hi, hb⟩)]
theorem chkC_any {c : List Int} (hb : ∀ i, i < c.length → copB (gi c i) = false) : ¬ c.any copB = true := fun h => by
 obtain ⟨i, hi, h⟩ := any_gi.1 h
 rw [hb i hi] at h; cases h
theorem chkC_3 {c : List Int} {s p : Int} (h : ¬ 8 < c.length) (hb : ∀ i, i < c.length → copB (gi c i) = false) (ho : (outB s 1 64 || outB p 0 1048576) = true) : chkC c s p = 3 := by rw [chkC, if_neg h, if_neg (chkC_any hb), if_pos ho]
theorem chkC_4 {c : List Int} {s p : Int} (h : ¬ 8 < c.length) (hb : ∀ i, i < c.length → copB (gi c i) = false) (ho : ¬ (outB s 1 64 || outB p 0 1048576) = true) : chkC c s p = 0 := by rw [chkC, if_neg h, if_neg (chkC_any hb), if_neg ho]
def CO (c : List Int) : Prop := ∀ x ∈ c, 1 ≤ x ∧ x ≤ 1048576
theorem CO.gi {c : List Int} (h : CO c) {i : Nat} (hi : i < c.length) : 1 ≤ gi c i ∧ gi c i ≤ 1048576 := by
 have := h _ (List.getElem_mem hi)
 simpa [Dw.gi, List.getD_eq_getElem?_getD, List.getElem?_eq_getElem hi] using this
theorem chkC_inv {c : List Int} {s p : Int} (h : chkC c s p = 0) : c.length ≤ 8 ∧ CO c ∧ (1 ≤ s ∧ s ≤ 64) ∧ 0 ≤ p ∧ p ≤ 1048576 := by
 unfold chkC at h
 split at h
 ·
  omega
 ·
  split at h
  ·
   omega
  ·
   rename_i h2
   split at h
   ·
    omega
   ·
    rename_i h3
    refine ⟨by omega, fun x hx => ?_, ?_⟩
    ·
     cases hb : copB x with
     | false => simp [copB, outB] at hb; omega
     | true => exact absurd (List.any_eq_true.2 ⟨x, hx, hb⟩) h2
    ·
     simp [outB] at h3; omega
def plc (n s : Int) : Int := (n + s - 1) / s
theorem plc_iff {n s q : Int} (hs : 1 ≤ s) : plc n s ≤ q ↔ n ≤ q * s := by
 unfold plc
 rw [Int.le_iff_lt_add_one, Int.ediv_lt_iff_lt_mul oM, Int.add_mul]
 omega
theorem plc_pos {n s : Int} (hn : 1 ≤ n) (hs : 1 ≤ s) : 1 ≤ plc n s := by
 have : ¬ plc n s ≤ 0 := by rw [plc_iff hs]; omega
 omega
theorem plc_mono {n s s' : Int} (hn : 1 ≤ n) (hs : 1 ≤ s) (h : s ≤ s') : plc n s' ≤ plc n s := by
 rw [plc_iff oM]
 have h1 := (plc_iff (n := n) (q := plc n s) hs).1 (Int.le_refl _)
 have h2 := plc_pos hn hs
 have : plc n s * s ≤ plc n s * s' := Int.mul_le_mul_of_nonneg_left h oM
 omega
theorem plc_one {n s : Int} (hs : 1 ≤ s) (h : n ≤ s) : plc n s ≤ 1 := by rw [plc_iff hs]; omega
theorem plc_le {n s : Int} (hn : 1 ≤ n) (hs : 1 ≤ s) : plc n s ≤ n := by
 rw [plc_iff hs]
 have : n * 1 ≤ n * s := Int.mul_le_mul_of_nonneg_left hs oM
 omega
theorem tdiv_plc {n s : Int} (hn : 1 ≤ n) (hs : 1 ≤ s) : (n + s - 1).tdiv s = plc n s := Int.tdiv_eq_ediv_of_nonneg oM
def plcS (c : List Int) (s : Int) : Nat → Int
 | 0 => 0
 | k + 1 => plcS c s k + plc (gi c k) s
theorem plcS_bd {c : List Int} (h : CO c) {s : Int} (hs : 1 ≤ s) : ∀ k, k ≤ c.length → (k : Int) ≤ plcS c s k ∧ plcS c s k ≤ 1048576 * k
 | 0, _ => by simp [plcS]
 | k + 1, hk => by
  have := plcS_bd h hs k oM
  have q := h.gi (i := k) oM
  have p1 := plc_pos q.1 hs
  have p2 := plc_le q.1 hs
  rw [plcS]; omega
theorem plcS_mono {c : List Int} (h : CO c) {s s' : Int} (hs : 1 ≤ s) (hss : s ≤ s') : ∀ k, k ≤ c.length → plcS c s' k ≤ plcS c s k
 | 0, _ => Int.le_refl _
 | k + 1, hk => by
  have := plcS_mono h hs hss k oM
  have q := plc_mono (h.gi (i := k) oM).1 hs hss
  rw [plcS, plcS]; omega
theorem plcS_top {c : List Int} {s : Int} (hs : 1 ≤ s) (h : ∀ i, i < c.length → gi c i ≤ s) : ∀ k, k ≤ c.length → plcS c s k ≤ k
 | 0, _ => by simp [plcS]
 | k + 1, hk => by
  have := plcS_top hs h k oM
  have q := plc_one hs (h k oM)
  rw [plcS]; omega
structure IsRun (c : List Int) (slots F : Int) : Prop where
 pos : 1 ≤ F
 ok : plcS c F c.length ≤ slots
 least : ∀ s, 1 ≤ s → s < F → slots < plcS c s c.length
theorem IsRun.uniq {c : List Int} {slots F G : Int} (h : IsRun c slots F) (k : IsRun c slots G) : F = G := by
 rcases Int.lt_trichotomy F G with hl | hl | hl
 ·
  have := k.least F h.pos hl; have := h.ok; omega
 ·
  exact hl
 ·
  have := h.least G k.pos hl; have := k.ok; omega
def fewN (c : List Int) (slots : Int) : Int := if c.length = 0 then 0 else idxF (fun s => decide (plcS c ((s : Int) + 1) c.length ≤ slots)) 1048576 + 1
theorem fewN_spec {c : List Int} (h : CO c) {slots : Int} (hl : (c.length : Int) ≤ slots) (h0 : c.length ≠ 0) : IsRun c slots (fewN c slots) ∧ fewN c slots ≤ 1048576 := by
 rw [fewN, if_neg h0]
 rcases idxF_inv (p := fun s : Nat => decide (plcS c ((s : Int) + 1) c.length ≤ slots)) (n := 1048576) with ⟨_, hn⟩ | ⟨i, hi, e, h1, h2⟩
 ·
  exfalso
  have := hn 1048575 oM
  have t := plcS_top (c := c) (s := ((1048575 : Nat) : Int) + 1) oM (fun i hi => by have := (h.gi hi).2; omega) c.length (Nat.le_refl _)
  simp only [decide_eq_false_iff_not] at this
  omega
 ·
  rw [e]
  refine ⟨⟨by omega, by simpa using h1, fun s hs1 hs2 => ?_⟩, by omega⟩
  have := h2 (s - 1).toNat oM
  simp only [decide_eq_false_iff_not] at this
  rw [show (((s - 1).toNat : Nat) : Int) + 1 = s by omega] at this
  omega
theorem fewN_nil {c : List Int} {slots : Int} (h : c.length = 0) : fewN c slots = 0 := by rw [fewN, if_pos h]
theorem fewN_eq {c : List Int} (h : CO c) {slots F : Int} (hl : (c.length : Int) ≤ slots) (h0 : c.length ≠ 0) (hF : IsRun c slots F) : fewN c slots = F := (fewN_spec h hl h0).1.uniq hF
def runE (c : List Int) (slots : Int) : Int := if chkC c slots 0 ≠ 0 then chkC c slots 0 else if slots < c.length then 14 else 0
def runS (c : List Int) (slots : Int) : Int := if runE c slots = 0 then fewN c slots else 0
def runL (c : List Int) (slots : Int) : List Int := if runE c slots = 0 then c.map fun n => plc n (fewN c slots) else []
theorem gi_map {c : List Int} {g : Int → Int} {i : Nat} (h : i < c.length) : gi (c.map g) i = g (gi c i) := by
 simp [gi, List.getD_eq_getElem?_getD, List.getElem?_eq_getElem h]
end Go.Ab

namespace Go.Ab
open Go.RowKit Go.Dw
def Ob.fz (id : Nat) (v : V) : Ob → Ob
 | .box t cs => .box t (V.fzL id v cs)
 | .row e sz n r => .row e sz n r
 | .mp s f => .mp s (f.map (V.fz id v))
def fzS (σ : Nat → Option Ob) (id : Nat) (v : V) : Nat → Option Ob := fun i => if i = id then none else (σ i).map (Ob.fz id v)
theorem Le.freezeIn {s : S} (id : Nat) {e sz n : Nat} {row row' : Nat → List V} (hσ : s.σ id = some (.row e sz n row)) (hi : ∀ i, i < n → V.idfL (row i) = true) (he' : ∀ i, i < n → row i = row' i) :
  Le s ⟨fun t => V.fz id (.sl sz n row') (s.tm t), fzS s.σ id (.sl sz n row'), s.nx⟩ := by
 intro P N C a w ⟨L, ρ, h⟩
 obtain ⟨v, xs, hv, hown, hsz, hl, hb⟩ := h.g.ob id _ hσ
 have hlt := (h.g.ob id _ hσ).lt
 obtain ⟨v', hv', hlt⟩ := hlt
 rw [hv] at hv'; injection hv' with hv'; subst hv'
 have ex : Ext w L ρ w (fun b => L b ∨ blk v = some b) ρ := ⟨fun b hb => ⟨.inl hb, rfl⟩, fun _ _ h => h⟩
 have h0 : ∀ y, ρ id = some y → R w (fun b => L b ∨ blk v = some b) ρ (.sl sz n row') y := by
  intro y hy
  refine R_rows (row := row) ?_ he'
  rw [hv] at hy; injection hy with hy; subst hy
  obtain ⟨A, c, hA⟩ : ∃ A c, v = .slice A n c := by
   rcases hown.2 with ⟨h1, h2⟩ | ⟨g', cap, cur, h1, _⟩
   ·
    exact ⟨_, _, by rw [h1, h2]⟩
   ·
    exact ⟨_, _, h1⟩
  have hcap : n ≤ c := by
   rcases hown.2 with ⟨h1, h2⟩ | ⟨g', cap, cur, h1, _, _, h3, _⟩
   ·
    omega
   ·
    rw [h1] at hA; injection hA with _ _ hA3; omega
  rw [hA]
  refine .sl' hcap fun hpos => ?_
  rcases hown.2 with ⟨_, h2⟩ | ⟨g', cap, cur, h1, _, hh, hc1, hc2, hc3, hc4⟩
  ·
   omega
  ·
   rw [h1] at hA
   injection hA with hA1 hA2 hA3
   refine ⟨g', 0, hA1.symm, .inr (by rw [← hA1]; rfl), fun i hi => ?_, fun i j u hil hu => ?_⟩
   ·
    exact hsz i hi
   ·
    have hj : j < sz := by rw [← hsz i hil]; exact (List.getElem?_eq_some_iff.1 hu).1
    have hfl : (slRows n row).flatten[i * sz + j]? = some u := by rw [flat_get (slRows_sz hsz) (slRows_get hil) hj, hu]
    obtain ⟨y, hy, hry, hone⟩ := hl.get hfl
    refine ⟨y, ?_, hone, (hry.free (V.idfL_get (hi i hil) hu) ρ0).ext ⟨fun b hb => ⟨.inl hb, rfl⟩, fun _ _ h => h⟩⟩
    rw [cell_of_row w g' _ cur e (0, 0) hh, Nat.zero_add]
    rw [← hc4, List.getElem?_take] at hy
    split at hy
    ·
     simpa using hy
    ·
     cases hy
 refine ⟨fun b => L b ∨ blk v = some b, ρ, ⟨⟨fun b hbl => ?_, h.g.new, fun id' o (ho : fzS s.σ id _ id' = some o) => ?_, ?_, h.g.glE ex⟩, h.fr, fun t => R_fz h0 _ _ ((h.tm t).ext ex), h.size, ?_, h.pin⟩⟩
 ·
  rcases hbl with hbl | hbl
  ·
   exact h.g.ll b hbl
  ·
   exact ⟨(hlt b hbl).1, C.wl b (hlt b hbl).2.1⟩
 ·
  by_cases he : id' = id
  ·
   subst he; rw [fzS, if_pos rfl] at ho; cases ho
  ·
   rw [fzS, if_neg he] at ho
   cases ho' : s.σ id' with
   | none => rw [ho'] at ho; cases ho
   | some o' =>
   rw [ho'] at ho
   injection ho with ho
   subst ho
   have k := (h.g.ob id' o' ho').keep ex fun x k hx hk => ⟨rfl, by
    rintro (hL | hL)
    ·
     obtain ⟨y, hy, hy2⟩ := (h.g.ob id' o' ho').lt
     rw [hx] at hy; injection hy with hy; subst hy
     exact (hy2 k hk).2.2 hL
    ·
     exact h.g.sep id' id x v k he (by rw [ho']; simp) (by rw [hσ]; simp) hx hv hk hL⟩
   cases o' with
   | row _ _ _ _ => exact k
   | mp str f =>
    obtain ⟨B, es, cl, hv', hBW, hBL, hh, hl⟩ := k
    exact ⟨B, es, cl, hv', hBW, hBL, hh, hl.mapF (fun v => by rw [V.fz]) fun i u x _ hr => R_fz h0 _ _ hr⟩
   | box t cs =>
    obtain ⟨B, xs, hv', hBW, hBL, hh, hl⟩ := k
    refine ⟨B, xs, hv', hBW, hBL, hh, ⟨by rw [← hl.1, V.fzL_len], fun i u x hu hx => ?_⟩⟩
    rw [V.fzL_get] at hu
    cases hc : cs[i]? with
    | none => rw [hc] at hu; cases hu
    | some u' =>
     rw [hc] at hu
     injection hu with hu
     subst hu
     obtain ⟨q1, q2⟩ := hl.2 i u' x hc hx
     exact ⟨R_fz h0 _ _ q1, q2⟩
 ·
  intro i j x y k hij hi' hj hx hy hk
  refine h.g.sep i j x y k hij (fun hc => hi' ?_) (fun hc => hj ?_) hx hy hk
  ·
   show fzS s.σ id _ i = none
   rw [fzS, hc]
   split <;> rfl
  ·
   show fzS s.σ id _ j = none
   rw [fzS, hc]
   split <;> rfl
 ·
  obtain ⟨Ds, h4, h5, h6⟩ := h.defers
  refine ⟨Ds, h4, h5, fun D hD => ?_⟩
  obtain ⟨h7, h8, h9⟩ := h6 D hD
  refine ⟨h7, h8, ?_⟩
  rintro (hL | hL)
  ·
   exact h9 hL
  ·
   rcases hown.2 with ⟨h, _⟩ | ⟨g', cap, cur, h, _, hh, _⟩
   ·
    rw [h] at hL; simp [blk] at hL
   ·
    rw [h] at hL; simp [blk] at hL; subst hL; rw [hh] at h7; cases h7
theorem le_freezeIn {tm : Nat → V} {σ : Nat → Option Ob} {nx : Nat} (id : Nat) {e sz n n' : Nat} {row row' : Nat → List V} (hσ : σ id = some (.row e sz n row)) (hi : ∀ i, V.idfL (row' i) = true) (hn : n = n') (he : ∀ i, i < n → row i = row' i) :
  Le ⟨tm, σ, nx⟩ ⟨fun t => V.fz id (.sl sz n' row') (tm t), fzS σ id (.sl sz n' row'), nx⟩ := by
 subst hn
 exact Le.freezeIn (s := ⟨tm, σ, nx⟩) id hσ (fun i h => by rw [he i h]; exact hi i) he
section
variable {P : Program} {b : Frame} {a : Act} {k : List Item} {cs : List Frame} {w : World} {F : Fence} {n : Nat}
end
section
variable {P : Program} {N : Nat} {C : Cx P N} {Q : Exit → S → Prop} {s : S} {id : Nat}
end
end Go.Ab

namespace Go.Ab
open Go.RowKit Go.Dw
mutual
def V.inN (n : Nat) : V → Bool
 | .agg cs => V.inNL n cs
 | .tup cs => V.inNL n cs
 | .fn _ a b => V.inNL n a && V.inNL n b
 | .ifc _ v => v.inN n
 | .gd _ v => v.inN n
 | .own i => decide (500 ≤ i) && decide (i < 500 + n)
 | .ref i _ => decide (500 ≤ i) && decide (i < 500 + n)
 | .oel i _ _ _ => decide (500 ≤ i) && decide (i < 500 + n)
 | .osl i _ _ _ => decide (500 ≤ i) && decide (i < 500 + n)
 | _ => true
def V.inNL (n : Nat) : List V → Bool
 | [] => true
 | v :: l => v.inN n && V.inNL n l
end
theorem V.inNL_get {n : Nat} : ∀ {l : List V} (_ : V.inNL n l = true) {i : Nat} {u : V} (_ : l[i]? = some u), u.inN n = true
 | v :: l, h, 0, u, hu => by
  simp at hu; subst hu
  simp only [V.inNL, Bool.and_eq_true] at h
  exact h.1
 | v :: l, h, i + 1, u, hu => by
  simp only [V.inNL, Bool.and_eq_true] at h
  exact V.inNL_get h.2 (by simpa using hu)
theorem R.into {n : Nat} {w : World} {L : Nat → Prop} {ρ : Nat → Option Value} {u : V} {x : Value} (h : R w L ρ u x) : ∀ (_ : u.inN n = true) (ρ' : Nat → Option Value), (∀ id v, 500 ≤ id → id < 500 + n → ρ id = some v → ρ' id = some v) → R w L ρ' u x := by
 induction h with
 | any => exact fun _ _ _ => .any _ _
 | c => exact fun _ _ _ => .c _ _
 | agg ρ cs xs f hl hf hr ih =>
  intro hi ρ' hρ
  simp only [V.inN] at hi
  exact .agg _ _ _ f hl hf fun i u hu => ih i u hu (V.inNL_get hi hu) ρ' hρ
 | tup ρ cs xs f hl hf hr ih =>
  intro hi ρ' hρ
  simp only [V.inN] at hi
  exact .tup _ _ _ f hl hf fun i u hu => ih i u hu (V.inNL_get hi hu) ρ' hρ
 | nil => exact fun _ _ _ => .nil _
 | emp => exact fun _ _ _ => .emp _ _
 | sl0 => exact fun _ _ _ => .sl0 _ _ _ _ _
 | sl ρ sz n row b o c f hb hcap hlen hf hr ih => exact fun _ ρ' _ => .sl _ _ _ _ _ _ _ f hb hcap hlen hf hr
 | ptr ρ cs b o f hb hf hr ih => exact fun _ ρ' _ => .ptr _ _ _ _ f hb hf hr
 | own ρ id x h h1 =>
  intro hi ρ' hρ
  simp only [V.inN, Bool.and_eq_true, decide_eq_true_eq] at hi
  exact .own _ _ _ (hρ _ _ hi.1 hi.2 h) h1
 | ref ρ id off b h =>
  intro hi ρ' hρ
  simp only [V.inN, Bool.and_eq_true, decide_eq_true_eq] at hi
  exact .ref _ _ _ _ (hρ _ _ hi.1 hi.2 h)
 | oel ρ id sz i off b n c h =>
  intro hi ρ' hρ
  simp only [V.inN, Bool.and_eq_true, decide_eq_true_eq] at hi
  exact .oel _ _ _ _ _ _ n c (hρ _ _ hi.1 hi.2 h)
 | osl ρ id sz off k b m c c2 A h hn hA =>
  intro hi ρ' hρ
  simp only [V.inN, Bool.and_eq_true, decide_eq_true_eq] at hi
  exact .osl _ _ _ _ _ _ m c _ _ (hρ _ _ hi.1 hi.2 h) hn hA
 | fn ρ f fs cs xs ys g h hl hm hg hh hr hs ih1 ih2 =>
  intro hi ρ' hρ
  simp only [V.inN, Bool.and_eq_true] at hi
  exact .fn _ _ _ _ _ _ g h hl hm hg hh (fun i u hu => ih1 i u hu (V.inNL_get hi.1 hu) ρ' hρ) fun i u hu => ih2 i u hu (V.inNL_get hi.2 hu) ρ' hρ
 | ifc ρ t u x h ih =>
  intro hi ρ' hρ
  simp only [V.inN] at hi
  exact .ifc _ _ _ _ (ih hi ρ' hρ)
 | gd ρ g u x h h' ih =>
  intro hi ρ' hρ
  simp only [V.inN] at hi
  exact .gd _ _ _ _ (fun hg => ih hg hi ρ' hρ) h'
theorem RV.into {n : Nat} {w : World} {L : Nat → Prop} {ρ ρ' : Nat → Option Value} {us : List V} {xs : List Value} (h : RV w L ρ us xs) (hi : V.inNL n us = true) (hρ : ∀ id v, 500 ≤ id → id < 500 + n → ρ id = some v → ρ' id = some v) : RV w L ρ' us xs :=
 ⟨h.1, fun i u x hu hx => (h.2 i u x hu hx).into (V.inNL_get hi hu) ρ' hρ⟩
theorem RL.into {n : Nat} {w : World} {L : Nat → Prop} {ρ ρ' : Nat → Option Value} {us : List V} {xs : List Value} (h : RL w L ρ us xs) (hi : V.inNL n us = true) (hρ : ∀ id v, 500 ≤ id → id < 500 + n → ρ id = some v → ρ' id = some v) : RL w L ρ' us xs :=
 ⟨h.1, fun i u x hu hx => ⟨(h.2 i u x hu hx).1.into (V.inNL_get hi hu) ρ' hρ, (h.2 i u x hu hx).2⟩⟩
theorem RV_ren {w : World} {L : Nat → Prop} {ρ : Nat → Option Value} (g : Nat → Nat) {us : List V} {xs : List Value} (h : RV w L ρ (V.renL g us) xs) : RV w L (fun i => ρ (g i)) us xs :=
 ⟨by rw [← h.1, V.renL_len], fun i u x hu hx => R_renL g us i u x hu (h.2 i (u.ren g) x (by rw [V.renL_get, hu]; rfl) hx)⟩
def Ob.inN (n : Nat) : Ob → Prop
 | .box _ cs => V.inNL n cs = true
 | .row _ _ m f => ∀ i, i < m → V.inNL n (f i) = true
 | .mp _ f => ∀ k u, f.look k = some u → V.inN n u = true
theorem V.inNL_append {n : Nat} : ∀ {l m : List V}, V.inNL n l = true → V.inNL n m = true → V.inNL n (l ++ m) = true
 | [], m, _, h => h
 | v :: l, m, h, k => by
  simp only [V.inNL, Bool.and_eq_true, List.cons_append] at h ⊢
  exact ⟨h.1, V.inNL_append h.2 k⟩
theorem inN_slRows {k : Nat} {row : Nat → List V} : ∀ n, (∀ i, i < n → V.inNL k (row i) = true) → V.inNL k (slRows n row).flatten = true := by
 intro n h
 have key : ∀ l : List (List V), (∀ x ∈ l, V.inNL k x = true) → V.inNL k l.flatten = true := by
  intro l
  induction l with
  | nil => intro _; rfl
  | cons x l ih => intro h; rw [List.flatten_cons]; exact V.inNL_append (h x (by simp)) (ih fun y hy => h y (by simp [hy]))
 refine key _ fun x hx => ?_
 simp only [slRows, List.mem_map, List.mem_range] at hx
 obtain ⟨i, hi, rfl⟩ := hx
 exact h i hi
def insF (ins : List Ob) (id : Nat) : Option Ob := if 500 ≤ id then ins[id - 500]? else none
def outF (outs : List (Option Ob)) (obs : List Ob) (id : Nat) : Option Ob := if 500 ≤ id then (outs[id - 500]?).join else obs[id]?
def AM (P : Program) (f : FuncId) (args : List V) (ins : List Ob) (v : V) (outs : List (Option Ob)) (obs : List Ob) : Prop :=
 (∀ (args : Array Value) (w : World), (callFunc f args).run P w = .ok (.enter f args) w) ∧
 ∀ (W LB L : Nat → Prop) (w : World) (ρ : Nat → Option Value) (vs : Array Value), (∀ b, W b → LB b) → (∀ b, W b → ¬ L b) → G W LB (insF ins) w L ρ → (∀ id, (id < 500 ∨ 500 + ins.length ≤ id) → ρ id = none) → RV w L ρ args vs.toList →
  Calls P f vs w fun e w' => ∃ x, e = .returned x ∧ Tch W w w' ∧ ∃ L' ρ', G W LB (outF outs obs) w' L' ρ' ∧ Ext w L ρ w' L' ρ' ∧ R w' L' ρ' v x ∧ ∀ j, obs.length ≤ j → (j < 500 ∨ 500 + ins.length ≤ j) → ρ' j = none
def clampM (k n nx i : Nat) : Nat := if i < k ∨ (500 ≤ i ∧ i < 500 + n) then i else nx * 100000 + i
def RetPostM (T : List TI) (fn : Func) (n : Nat) (v : V) (outs : List (Option Ob)) (obs : List Ob) : Exit → S → Prop := fun e s => (e = .normal ∨ e = .ret) ∧ ∃ s', Le s s' ∧ resV T s' fn.results.toList = some v ∧ (∀ i ob, obs[i]? = some ob → s'.σ i = some ob) ∧ (∀ i ob, outs[i]? = some (some ob) → s'.σ (500 + i) = some ob) ∧
 v.ren (clampM obs.length n s'.nx) = v ∧ (∀ ob ∈ obs, ob.ren (clampM obs.length n s'.nx) = ob) ∧ (∀ ob : Ob, some ob ∈ outs → ob.ren (clampM obs.length n s'.nx) = ob)
theorem am_introP {T : List TI} {P : Program} (hT : TabOk T P) (hmx : P.follows .mixedOrders = true) {f : FuncId} {fn : Func} {c : Code} {N : Nat} (hk : FnOk P f fn c N) {args : List V} {ins : List Ob} {v : V} {outs : List (Option Ob)} {obs : List Ob} (hargs : args.length ≤ N) (hn : outs.length = ins.length) (hn4 : ins.length ≤ 400) (_ : obs.length ≤ 90)
  (h : ∀ C : Cx P N, C.F = Fence.wide → (∀ id x, C.dfs.pin id = some x → 500 ≤ id ∧ id < 500 + ins.length) → C.dfs.tl = [] → AW C c (RetPostM T fn ins.length v outs obs) ⟨fun t => args.getD t .any, insF ins, 1⟩) : AM P f args ins v outs obs := by
 refine ⟨hk.call, fun W LB L w ρ vs hwl hWL hG hρn hvs => ?_⟩
 have hsome : ∀ i, i < ins.length → ∃ ob x, ins[i]? = some ob ∧ insF ins (500 + i) = some ob ∧ ρ (500 + i) = some x ∧ ∀ k, blk x = some k → k < w.heap.size ∧ W k ∧ ¬ L k := by
  intro i hi
  have h1 : ins[i]? = some ins[i] := List.getElem?_eq_getElem hi
  have h2 : insF ins (500 + i) = some ins[i] := by unfold insF; rw [if_pos oM, Nat.add_sub_cancel_left]; exact h1
  obtain ⟨x, hx, hx2⟩ := (hG.ob _ _ h2).lt
  exact ⟨_, x, h1, h2, hx, hx2⟩
 obtain ⟨C, hW, hLB, hd, hFw, htl⟩ : ∃ C : Cx P N, C.W = W ∧ C.LB = LB ∧ C.dfs.pin = (fun id => if 500 ≤ id ∧ id < 500 + ins.length then ρ id else none) ∧ C.F = Fence.wide ∧ C.dfs.tl = [] :=
  ⟨⟨W, LB, hwl, ⟨[], fun id => if 500 ≤ id ∧ id < 500 + ins.length then ρ id else none, fun id x hp => by
   split at hp
   ·
    omega
   ·
    cases hp⟩, hmx, Fence.wide, .inl rfl⟩, rfl, rfl, rfl, rfl, rfl⟩
 have hvl : vs.size = args.length := by have := hvs.1; simpa using this.symm
 refine callsIn_wide.1 (callsIn_of_wp_marks (n := 0) hk.hf hk.hb trivial ?_ rfl)
 have hw := h C hFw (fun id x hp => by
  rw [hd] at hp
  simp only at hp
  split at hp
  ·
   assumption
  ·
   cases hp) htl
 unfold AW at hw
 rw [hFw] at hw
 refine wpIn_mono (hw _ w ⟨L, ρ, ⟨?_, fun id hid => ?_, fun t => ?_, ?_, ?_, fun id x hp => ?_⟩⟩) ?_
 ·
  rw [hW, hLB]; exact hG
 ·
  have hid' : 1 * 100000 ≤ id := hid
  exact hρn id (.inr oM)
 ·
  by_cases ht : t < args.length
  ·
   have h1 : args[t]? = some args[t] := List.getElem?_eq_getElem ht
   obtain ⟨x, hx, hr⟩ := hvs.get h1
   have e1 : args.getD t .any = args[t] := by simp [List.getD_eq_getElem?_getD, h1]
   have e2 : (vs ++ Array.replicate (fn.ntmps - vs.size) undef).getD t undef = x := by
    rw [Array.getD_eq_getD_getElem?, Array.getElem?_append_left oM]
    have : vs[t]? = some x := by simpa using hx
    rw [this]; rfl
   show R w L ρ (args.getD t .any) _
   rw [e1, e2]; exact hr
  ·
   have e1 : args.getD t .any = .any := by simp [List.getD_eq_getElem?_getD, List.getElem?_eq_none (Nat.le_of_not_lt ht)]
   show R w L ρ (args.getD t .any) _
   rw [e1]; exact .any _ _
 ·
  rw [← hk.hn] at hargs ⊢
  simp; omega
 ·
  exact ⟨[], by rw [htl]; rfl, by simp, by simp⟩
 ·
  rw [hd] at hp
  simp only at hp
  split at hp
  ·
   exact hp
  ·
   cases hp
 ·
  rintro e a' w' ⟨s', ⟨he, s'', hle, hres, hob, hout, hcv, hco, hcu⟩, g', t⟩
  obtain ⟨L', ρ', g''⟩ := hle C a' w' g'
  rw [hW] at t
  obtain ⟨Ds, d1, d2, d3⟩ := g''.defers
  rw [htl, List.append_nil] at d1
  refine end_marks' Ds he d1 d2 (fun D hD => (d3 D hD).1) fun w2 ht2 => ?_
  obtain ⟨g2, e2⟩ := g''.g.marks ht2 d3
  obtain ⟨x, hx, hr⟩ := resV_run hT g2 (fun t => (g''.tm t).ext e2) fn hres
  have hWD : ∀ D ∈ Ds, W D := fun D hD => by have := (d3 D hD).2.1; rw [hW] at this; exact this
  have tt : Tch W w w2 := t.trans (ht2.mono fun k _ hkD => hWD k hkD)
  refine ⟨x, hx, x, rfl, tt, ?_⟩
  have hr2 : R w2 L' (fun i => ρ' (clampM obs.length ins.length s''.nx i)) v x := R_ren _ _ _ (by rw [hcv]; exact hr)
  have hlt : ∀ i, i < obs.length → clampM obs.length ins.length s''.nx i = i := fun i hi => by unfold clampM; rw [if_pos (.inl hi)]
  have hlt5 : ∀ i, 500 ≤ i → i < 500 + ins.length → clampM obs.length ins.length s''.nx i = i := fun i h1 h2 => by unfold clampM; rw [if_pos (.inr ⟨h1, h2⟩)]
  have hoF : ∀ id o, outF outs obs id = some o → s''.σ id = some o ∧ clampM obs.length ins.length s''.nx id = id ∧ o.ren (clampM obs.length ins.length s''.nx) = o := by
   intro id o ho
   unfold outF at ho
   split at ho
   ·
    rename_i h5
    have ho' : outs[id - 500]? = some (some o) := by
     cases hq : outs[id - 500]? with
     | none => rw [hq] at ho; cases ho
     | some q => rw [hq] at ho; simp at ho; rw [ho]
    have hlt' := (List.getElem?_eq_some_iff.1 ho').1
    refine ⟨?_, hlt5 id h5 oM, hcu o (List.mem_of_getElem? ho')⟩
    have := hout (id - 500) o ho'
    rwa [show 500 + (id - 500) = id by omega] at this
   ·
    exact ⟨hob id o ho, hlt id (List.getElem?_eq_some_iff.1 ho).1, hco o (List.mem_of_getElem? ho)⟩
  have hE2 : Ext w2 L' (fun i => ρ' (clampM obs.length ins.length s''.nx i)) w2 (fun b => L' b ∨ L b) (fun i => ρ' (clampM obs.length ins.length s''.nx i)) := ⟨fun b hb => ⟨.inl hb, rfl⟩, fun _ _ h => h⟩
  refine ⟨fun b => L' b ∨ L b, fun i => ρ' (clampM obs.length ins.length s''.nx i), ⟨fun b hb => ?_, fun b hb => ?_, fun id o ho => ?_, fun i j x y k hij hi hj => ?_, g2.glL hE2.l⟩, ⟨fun b hb => ⟨.inr hb, tt.block b (hG.ll b hb).1 fun hc => hWL b hc hb⟩, fun id x hx => ?_⟩, hr2.ext hE2, fun j hj hj5 => ?_⟩
  ·
   rcases hb with hb | hb
   ·
    have := g2.ll b hb
    rw [hLB] at this
    exact ⟨this.1, this.2⟩
   ·
    exact ⟨Nat.lt_of_lt_of_le (hG.ll b hb).1 tt.size, (hG.ll b hb).2⟩
  ·
   exact hG.new b (Nat.le_trans tt.size hb)
  ·
   obtain ⟨q1, q2, q3⟩ := hoF id o ho
   have hr0 := g2.ob id o q1
   rw [hW] at hr0
   have hr : Real W w2 L' (fun i => ρ' (clampM obs.length ins.length s''.nx i)) id o := Real.ren (by rw [q2, q3]; exact hr0)
   obtain ⟨y, hy, hy2⟩ := hr.lt
   refine hr.keep hE2 fun x k hx hk => ?_
   rw [hx] at hy; injection hy with hy; subst hy
   refine ⟨rfl, ?_⟩
   rintro (h1 | h1)
   ·
    exact (hy2 k hk).2.2 h1
   ·
    exact hWL k (hy2 k hk).2.1 h1
  ·
   have key : ∀ i, outF outs obs i ≠ none → s''.σ i ≠ none ∧ clampM obs.length ins.length s''.nx i = i := fun i hi => by
    cases ho : outF outs obs i with
    | none => exact absurd ho hi
    | some o => obtain ⟨q1, q2, _⟩ := hoF i o ho; exact ⟨by rw [q1]; simp, q2⟩
   simp only [(key i hi).2, (key j hj).2]
   exact g2.sep i j x y k hij (key i hi).1 (key j hj).1
  ·
   show ρ' (clampM obs.length ins.length s''.nx id) = some x
   by_cases h5 : 500 ≤ id ∧ id < 500 + ins.length
   ·
    rw [hlt5 id h5.1 h5.2]
    exact g''.pin id x (by rw [hd]; simp only; rw [if_pos h5]; exact hx)
   ·
    rw [hρn id oM] at hx; cases hx
  ·
   have e3 : clampM obs.length ins.length s''.nx j = s''.nx * 100000 + j := if_neg oM
   show ρ' (clampM obs.length ins.length s''.nx j) = none
   rw [e3]
   exact g''.fr _ (by unfold freshA; omega)
theorem am_intro {T : List TI} {P : Program} (hT : TabOk T P) (hmx : P.follows .mixedOrders = true) {f : FuncId} {fn : Func} {c : Code} {N : Nat} (hk : FnOk P f fn c N) {args : List V} {ins : List Ob} {v : V} {outs : List (Option Ob)} {obs : List Ob} (hargs : args.length ≤ N) (hn : outs.length = ins.length) (hn4 : ins.length ≤ 400) (ho : obs.length ≤ 90)
  (h : ∀ C : Cx P N, C.F = Fence.wide → AW C c (RetPostM T fn ins.length v outs obs) ⟨fun t => args.getD t .any, insF ins, 1⟩) : AM P f args ins v outs obs :=
 am_introP hT hmx hk hargs hn hn4 ho fun C hF _ _ => h C hF
def nameG (nx : Nat) (d : Option Tmp) (ns : List Nat) (id : Nat) : Nat := if 500 ≤ id then ns.getD (id - 500) (nx * 100000 + 1000 * id + d.getD 0) else callG nx d id
def outD (g : Nat → Nat) : List Nat → List (Option Ob) → List (Nat × Option Ob)
 | k :: ks, o :: os => (k, o.map (Ob.ren g)) :: outD g ks os
 | _, _ => []
def preD : List Nat → List Ob → List (Nat × Ob)
 | k :: ks, o :: os => (k, o) :: preD ks os
 | _, _ => []
theorem upds_append (σ : Nat → Option Ob) : ∀ l m : List (Nat × Option Ob), upds σ (l ++ m) = upds (upds σ l) m
 | [], m => rfl
 | (k, o) :: l, m => by simp only [List.cons_append, upds]; exact upds_append _ l m
theorem outD_in (g : Nat → Nat) : ∀ (ns : List Nat) (os : List (Option Ob)) (σ : Nat → Option Ob) (id : Nat) (o : Ob), ns.Nodup → os.length = ns.length → upds σ (outD g ns os) id = some o → (∃ (i : Nat) (ob : Ob), ns[i]? = some id ∧ os[i]? = some (some ob) ∧ o = ob.ren g) ∨ (σ id = some o ∧ id ∉ ns)
 | [], os, σ, id, o, _, _, h => .inr ⟨by simpa [outD, upds] using h, by simp⟩
 | n :: ns, [], σ, id, o, _, hl, h => by simp at hl
 | n :: ns, x :: os, σ, id, o, hn, hl, h => by
  rw [outD, upds] at h
  have hn' := List.nodup_cons.1 hn
  rcases outD_in g ns os _ id o hn'.2 (by simpa using hl) h with ⟨i, ob, h1, h2, h3⟩ | ⟨h1, h2⟩
  ·
   exact .inl ⟨i + 1, ob, by simpa using h1, by simpa using h2, h3⟩
  ·
   by_cases he : id = n
   ·
    subst he
    rw [upd_same] at h1
    cases x with
    | none => cases h1
    | some x => simp at h1; exact .inl ⟨0, x, rfl, rfl, h1.symm⟩
   ·
    rw [upd_ne _ _ he] at h1
    exact .inr ⟨h1, by simp [he, h2]⟩
theorem preD_in : ∀ {ns : List Nat} {os : List Ob} {i : Nat} {n : Nat} {o : Ob}, ns[i]? = some n → os[i]? = some o → (n, o) ∈ preD ns os
 | [], _, _, _, _, h, _ => by simp at h
 | _ :: _, [], _, _, _, _, h => by simp at h
 | a :: ns, b :: os, 0, n, o, h, k => by simp at h k; subst h k; simp [preD]
 | a :: ns, b :: os, i + 1, n, o, h, k => by
  simp at h k
  exact List.mem_cons_of_mem _ (preD_in h k)
section
variable {P : Program} {W LB : Nat → Prop} {d : Option Tmp} {ty : TypeId} {pos : String} {af : Array Edge} {gd : Option (Nat × Bool)} {ev : Operand → V}
def Hex (P : Program) (o : Oper) (ev : Operand → V) (f : FuncId) (as0 : List V) : Prop :=
 ∀ (w : World) (L : Nat → Prop) (ρ : Nat → Option Value) (g : Operand → Value), (∀ x ∈ o.op.operands, R w L ρ (ev x) (g x)) → ∃ vs : Array Value, ((∀ (args : Array Value) (w : World), (callFunc f args).run P w = .ok (.enter f args) w) → (execOp g o).run P w = .ok (.enter f vs) w) ∧ RV w L ρ as0 vs.toList
theorem as_callMG {o : Oper} {f : FuncId} {as0 args : List V} {ins ins' : List Ob} {v : V} {outs : List (Option Ob)} {obs : List Ob} (hc : AM P f args ins v outs obs) (hwl : ∀ b, W b → LB b) (ns : List Nat) (hp : plainOp o.op = true) (hex : Hex P o ev f as0) (nx : Nat)
  (hargs : as0 = V.renL (nameG nx d ns) args) (hin : V.inNL ins.length args = true) (hd : d.all (fun t => decide (t < 1000)) = true) (hobs : obs.length ≤ 90)
  (hns : ns.Nodup) (hnl : ns.length = ins.length) (hol : outs.length = ins.length) (hil : ins'.length = ins.length) (hins : ∀ (i : Nat) (o o' : Ob), ins[i]? = some o → ins'[i]? = some o' → ObEq o' (o.ren (nameG nx d ns)) ∧ o.inN ins.length) :
  AStep P W LB o ev (v.ren (nameG nx d ns)) (preD ns ins') ((List.range obs.length).map (callG nx d)) (outD (nameG nx d ns) ns outs ++ callD (nameG nx d ns) 0 obs) := by
 intro σ w L ρ g hG hr hpre hnew
 obtain ⟨vs, hrun0, hz⟩ := hex w L ρ g hr
 obtain ⟨G0, hG0⟩ : ∃ G0, G0 = nameG nx d ns := ⟨_, rfl⟩
 rw [← hG0] at hargs hins ⊢
 obtain ⟨n, hn⟩ : ∃ n, n = ins.length := ⟨_, rfl⟩
 rw [← hn] at hin hnl hol hil hins
 have gpin : ∀ i, i < n → ∃ m, ns[i]? = some m ∧ G0 (500 + i) = m := by
  intro i hi
  have h2 : ns[i]? = some ns[i] := List.getElem?_eq_getElem oM
  refine ⟨_, h2, ?_⟩
  rw [hG0]; unfold nameG
  rw [if_pos oM, Nat.add_sub_cancel_left, List.getD_eq_getElem?_getD, h2]; rfl
 have gnew : ∀ j, j < 500 → G0 j = callG nx d j := fun j hj => by rw [hG0]; unfold nameG; rw [if_neg oM]
 -- the objects that are handed
 have hobj : ∀ i, i < n → ∃ m o o' x, ns[i]? = some m ∧ G0 (500 + i) = m ∧ ins[i]? = some o ∧ σ m = some o' ∧ ObEq o' (o.ren G0) ∧ o.inN n ∧ Real W w L ρ m o' ∧ ρ m = some x ∧ ∀ k, blk x = some k → k < w.heap.size ∧ W k ∧ ¬ L k := by
  intro i hi
  obtain ⟨m, hm, hgm⟩ := gpin i hi
  have h2 : ins[i]? = some ins[i] := List.getElem?_eq_getElem oM
  have h3 : ins'[i]? = some ins'[i] := List.getElem?_eq_getElem oM
  have h4 := hpre _ (preD_in hm h3)
  obtain ⟨h5, h6⟩ := hins i _ _ h2 h3
  have h7 := hG.ob m _ h4
  obtain ⟨x, hx, hx2⟩ := h7.lt
  exact ⟨m, _, _, x, hm, hgm, h2, h4, h5, h6, h7, hx, hx2⟩
 obtain ⟨ρ1, hρ1⟩ : ∃ ρ1 : Nat → Option Value, ∀ id, ρ1 id = if 500 ≤ id ∧ id < 500 + n then ρ (G0 id) else none := ⟨_, fun _ => rfl⟩
 have hρ1p : ∀ i, i < n → ρ1 (500 + i) = ρ (G0 (500 + i)) := fun i hi => by rw [hρ1, if_pos oM]
 have hinto : ∀ id v, 500 ≤ id → id < 500 + n → (fun i => ρ (G0 i)) id = some v → ρ1 id = some v := fun id v h5 h6 h7 => by rw [hρ1, if_pos ⟨h5, h6⟩]; exact h7
 have hrv : RV w L ρ1 args vs.toList := by
  rw [hargs] at hz
  exact (RV_ren G0 hz).into hin hinto
 obtain ⟨W1, hW1⟩ : ∃ W1 : Nat → Prop, ∀ b, W1 b ↔ (∃ i x, i < n ∧ ρ1 (500 + i) = some x ∧ blk x = some b) ∨ w.heap.size ≤ b := ⟨_, fun _ => Iff.rfl⟩
 have hW1old : ∀ b, W1 b → b < w.heap.size → W b ∧ ¬ L b ∧ ∃ i m x, i < n ∧ ns[i]? = some m ∧ σ m ≠ none ∧ ρ m = some x ∧ blk x = some b := by
  intro b hb hlt
  rcases (hW1 b).1 hb with ⟨i, x, hi, hx, hbx⟩ | h
  ·
   obtain ⟨m, o, o', x', q1, q2, q3, q4, q5, q6, q7, q8, q9⟩ := hobj i hi
   rw [hρ1p i hi, q2, q8] at hx
   injection hx with hx; subst hx
   exact ⟨(q9 b hbx).2.1, (q9 b hbx).2.2, i, m, _, hi, q1, by rw [q4]; simp, q8, hbx⟩
  ·
   omega
 have hW1W : ∀ b, W1 b → W b := fun b hb => by
  by_cases hlt : b < w.heap.size
  ·
   exact (hW1old b hb hlt).1
  ·
   exact (hG.new b oM).1
 have hW1L : ∀ b, W1 b → ¬ L b := fun b hb hL => by
  have hlt := (hG.ll b hL).1
  exact (hW1old b hb hlt).2.1 hL
 -- the callee's own view
 have hinsF : ∀ id o, insF ins id = some o → ∃ i, i < n ∧ id = 500 + i ∧ ins[i]? = some o := by
  intro id o ho
  unfold insF at ho
  split at ho
  ·
   exact ⟨id - 500, by rw [hn]; exact (List.getElem?_eq_some_iff.1 ho).1, by omega, ho⟩
  ·
   cases ho
 have hG1 : G W1 (fun b => L b ∨ W1 b) (insF ins) w L ρ1 := by
  refine ⟨fun b hb => ⟨(hG.ll b hb).1, .inl hb⟩, fun b hb => ?_, fun id o ho => ?_, fun i j x y k hij hi hj hx hy hk => ?_, hG.gl⟩
  ·
   have : W1 b := (hW1 b).2 (.inr hb)
   exact ⟨this, .inr this⟩
  ·
   obtain ⟨i, hi, rfl, hio⟩ := hinsF id o ho
   obtain ⟨m, o2, o', x, q1, q2, q3, q4, q5, q6, q7, q8, q9⟩ := hobj i hi
   rw [hio] at q3; injection q3 with q3; subst q3
   have hre : Real W w L (fun i => ρ (G0 i)) (500 + i) o := Real.ren (by rw [q2]; exact q7.eq q5)
   have hbW : ∀ k, blk x = some k → W1 k ∧ ¬ L k := fun k hk => ⟨(hW1 k).2 (.inl ⟨i, x, hi, by rw [hρ1p i hi, q2]; exact q8, hk⟩), (q9 k hk).2.2⟩
   have hxe : (fun i => ρ (G0 i)) (500 + i) = some x := by show ρ (G0 (500 + i)) = some x; rw [q2]; exact q8
   cases o with
   | box t cs =>
    obtain ⟨b, ys', r1, r2, r3, r4, r5⟩ := hre
    have e0 := r1
    rw [hxe] at e0; injection e0 with e0
    have := hbW b (by rw [e0]; rfl)
    exact ⟨b, ys', hinto _ _ oM oM r1, this.1, r3, r4, r5.into q6 hinto⟩
   | row e sz nn row =>
    obtain ⟨y, ys', r1, r2, r3, r4, r5⟩ := hre
    have e0 := r1
    rw [hxe] at e0; injection e0 with e0; subst e0
    exact ⟨_, ys', hinto _ _ oM oM r1, r2, r3, r4.into (inN_slRows _ q6) hinto, fun k hk => hbW k hk⟩
   | mp str f =>
    obtain ⟨b, es, cl, r1, r2, r3, r4, r5⟩ := hre
    have e0 := r1
    rw [hxe] at e0; injection e0 with e0
    have := hbW b (by rw [e0]; rfl)
    exact ⟨b, es, cl, hinto _ _ oM oM r1, this.1, r3, r4, r5.imp fun i u x hu hr => hr.into (q6 i u hu) _ hinto⟩
  ·
   cases hoi : insF ins i with
   | none => exact absurd hoi hi
   | some oi =>
    cases hoj : insF ins j with
    | none => exact absurd hoj hj
    | some oj =>
     obtain ⟨a, ha, rfl, _⟩ := hinsF i oi hoi
     obtain ⟨b, hb, rfl, _⟩ := hinsF j oj hoj
     obtain ⟨m, o2, o', x', q1, q2, q3, q4, q5, q6, q7, q8, q9⟩ := hobj a ha
     obtain ⟨m', o2', o'', x'', p1, p2, p3, p4, p5, p6, p7, p8, p9⟩ := hobj b hb
     rw [hρ1p a ha, q2] at hx
     rw [hρ1p b hb, p2] at hy
     refine hG.sep m m' x y k (fun e => hij ?_) (by rw [q4]; simp) (by rw [p4]; simp) hx hy hk
     subst e
     have l1 := List.getElem?_eq_some_iff.1 q1
     have l2 := List.getElem?_eq_some_iff.1 p1
     obtain ⟨l1a, l1b⟩ := l1
     obtain ⟨l2a, l2b⟩ := l2
     have pw := List.pairwise_iff_getElem.1 hns
     have : a = b := by
      rcases Nat.lt_trichotomy a b with h | h | h
      ·
       exact absurd (l1b.trans l2b.symm) (pw a b l1a l2a h)
      ·
       exact h
      ·
       exact absurd (l2b.trans l1b.symm) (pw b a l2a l1a h)
     rw [this]
 have hrun := hrun0 hc.1
 refine OpDoes.enter hp hrun ((hc.2 W1 (fun b => L b ∨ W1 b) L w ρ1 _ (fun b h => .inr h) hW1L hG1 (fun id hid => by rw [hρ1, if_neg (by rw [← hn] at hid; omega)]) hrv).mono ?_)
 rintro e w' ⟨x, rfl, tt, L', ρ', hG', hE', hv, hnn⟩
 obtain ⟨D, hD, hd'⟩ : ∃ D : Nat, d.getD 0 = D ∧ D < 1000 := ⟨_, rfl, by cases d with | none => decide | some t => simpa using hd⟩
 have ginj : ∀ i j, callG nx d i = callG nx d j → i = j := fun i j h => by unfold callG at h; rw [hD] at h; omega
 have hpinE : ∀ i, i < n → ρ' (500 + i) = ρ (G0 (500 + i)) := by
  intro i hi
  obtain ⟨m, o, o', x', q1, q2, q3, q4, q5, q6, q7, q8, q9⟩ := hobj i hi
  rw [q2, q8]
  exact hE'.r _ _ (by rw [hρ1p i hi, q2]; exact q8)
 obtain ⟨ρ2, hρ2⟩ : ∃ ρ2 : Nat → Option Value, ρ2 = fun id => if id ∈ (List.range obs.length).map (callG nx d) then ρ' ((id - nx * 100000) / 1000) else ρ id := ⟨_, rfl⟩
 have hgi : ∀ j, j < obs.length → ρ2 (callG nx d j) = ρ' j := by
  intro j hj
  have : (callG nx d j - nx * 100000) / 1000 = j := by unfold callG; rw [hD]; omega
  rw [hρ2]
  simp only
  rw [if_pos (List.mem_map.2 ⟨j, by simpa using hj, rfl⟩), this]
 have hout : ∀ id, id ∉ (List.range obs.length).map (callG nx d) → ρ2 id = ρ id := by
  intro id hid; rw [hρ2]; simp only; rw [if_neg hid]
 have hkeep : ∀ id y, ρ id = some y → ρ2 id = some y := fun id y hy => by
  rw [hout id (fun hc => by rw [hnew id hc] at hy; cases hy)]; exact hy
 have hon : ∀ j y, ρ' j = some y → ρ2 (G0 j) = some y := by
  intro j y hy
  by_cases hj : j < obs.length
  ·
   rw [gnew j oM, hgi j hj]; exact hy
  ·
   by_cases h5 : 500 ≤ j ∧ j < 500 + n
   ·
    have e5 : j = 500 + (j - 500) := by omega
    rw [e5, hpinE (j - 500) oM] at hy
    rw [e5]
    exact hkeep _ _ hy
   ·
    rw [hnn j oM (by rw [← hn]; omega)] at hy; cases hy
 have ex : Ext w L ρ w' L' ρ2 := ⟨hE'.l, hkeep⟩
 have hLL : ∀ b, L' b → L b ∨ W1 b := fun b hb => (hG'.ll b hb).2
 have hofD : ∀ D', w.heap[D']? = some (.deferred (some [])) → ¬ W1 D' := fun D' hD' hc => by
  have hlt := (Array.getElem?_eq_some_iff.1 hD').1
  obtain ⟨_, _, i, m, y, _, _, hs, hy, hbk⟩ := hW1old D' hc hlt
  cases hso : σ m with
  | none => exact hs hso
  | some o => exact (hG.ob m o hso).no_deferred hy hbk hD'
 have names : ∀ (id : Nat) (o : Ob), upds σ (outD G0 ns outs ++ callD G0 0 obs) id = some o → (∃ j ob, outF outs obs j = some ob ∧ id = G0 j ∧ o = ob.ren G0) ∨ (σ id = some o ∧ id ∉ ns ∧ id ∉ (List.range obs.length).map (callG nx d)) := by
  intro id o ho
  rw [upds_append] at ho
  have key : ∀ (obs' : List Ob) (j0 : Nat) (σ : Nat → Option Ob), upds σ (callD G0 j0 obs') id = some o → (∃ j ob, obs'[j]? = some ob ∧ id = G0 (j0 + j) ∧ o = ob.ren G0) ∨ (σ id = some o ∧ ∀ j, j < obs'.length → id ≠ G0 (j0 + j)) := by
   intro obs'
   induction obs' with
   | nil => intro j0 σ ho; exact .inr ⟨ho, fun j hj => by simp at hj⟩
   | cons ob obs' ih =>
    intro j0 σ ho
    rw [callD, upds] at ho
    rcases ih (j0 + 1) _ ho with ⟨j, ob', h1, h2, h3⟩ | ⟨h1, h2⟩
    ·
     exact .inl ⟨j + 1, ob', by simpa using h1, by rw [h2]; congr 1; omega, h3⟩
    ·
     by_cases he : id = G0 j0
     ·
      subst he
      rw [upd_same] at h1; injection h1 with h1
      exact .inl ⟨0, ob, rfl, rfl, h1.symm⟩
     ·
      rw [upd_ne _ _ he] at h1
      refine .inr ⟨h1, fun j hj => ?_⟩
      cases j with
      | zero => exact he
      | succ j => have := h2 j (by simpa using hj); rwa [show j0 + (j + 1) = j0 + 1 + j by omega]
  rcases key obs 0 _ ho with ⟨j, ob, h1, h2, h3⟩ | ⟨h1, h2⟩
  ·
   have hj := (List.getElem?_eq_some_iff.1 h1).1
   refine .inl ⟨j, ob, ?_, by rw [h2, Nat.zero_add], h3⟩
   unfold outF; rw [if_neg oM]; exact h1
  ·
   rcases outD_in G0 ns outs σ id o hns oM h1 with ⟨i, ob, p1, p2, p3⟩ | ⟨p1, p2⟩
   ·
    have hi : i < n := by have := (List.getElem?_eq_some_iff.1 p1).1; omega
    obtain ⟨m, hm, hgm⟩ := gpin i hi
    rw [p1] at hm; injection hm with hm
    refine .inl ⟨500 + i, ob, ?_, by rw [hgm, hm], p3⟩
    unfold outF; rw [if_pos oM, Nat.add_sub_cancel_left, p2]; rfl
   ·
    refine .inr ⟨p1, p2, fun hc => ?_⟩
    obtain ⟨j, hj, rfl⟩ := List.mem_map.1 hc
    have hj' : j < obs.length := by simpa using hj
    exact h2 j hj' (by rw [Nat.zero_add, gnew j oM])
 -- what was not handed stands
 have oldb : ∀ i y k, σ i ≠ none → i ∉ ns → ρ i = some y → blk y = some k → k < w.heap.size ∧ ¬ W1 k := by
  intro i y k hs hni hy hk
  cases ho : σ i with
  | none => exact absurd ho hs
  | some o =>
   obtain ⟨y', hy', hlt⟩ := (hG.ob i o ho).lt
   rw [hy] at hy'; injection hy' with hy'; subst hy'
   refine ⟨(hlt k hk).1, fun hc => ?_⟩
   obtain ⟨_, _, a, m, z, _, hm, hsm, hz, hbz⟩ := hW1old k hc (hlt k hk).1
   exact hG.sep i m y z k (fun e => hni (by rw [e]; exact List.mem_of_getElem? hm)) hs hsm hy hz hk hbz
 refine ⟨x, rfl, L', ρ2, ⟨fun b hbl => ?_, fun b hbs => hG.new b (Nat.le_trans tt.size hbs), fun id o ho => ?_, ?_, hG.glE ex⟩, R_renOn _ hon hv, tt.mono fun k _ hk => hW1W k hk, ex, fun id hid => hout id hid, fun D' hD' => ⟨(tt.block D' (Array.getElem?_eq_some_iff.1 hD').1 (hofD D' hD')).trans hD', fun hl => (hLL D' hl).resolve_right (hofD D' hD')⟩⟩
 ·
  refine ⟨(hG'.ll b hbl).1, ?_⟩
  rcases hLL b hbl with h | h
  ·
   exact (hG.ll b h).2
  ·
   exact hwl b (hW1W b h)
 ·
  rcases names id o ho with ⟨j, ob, h1, h2, h3⟩ | ⟨h1, h2, h2'⟩
  ·
   subst h2 h3
   exact (hG'.ob j ob h1).renOn _ hon hW1W
  ·
   have hk := hG.ob id o h1
   refine hk.keep ex fun y k hy hk2 => ?_
   obtain ⟨y', hy', hlt⟩ := hk.lt
   rw [hy] at hy'; injection hy' with hy'; subst hy'
   obtain ⟨l1, l2, l3⟩ := hlt k hk2
   have hnw := (oldb id y k (by rw [h1]; simp) h2 hy hk2).2
   exact ⟨tt.block k l1 hnw, fun hc => (hLL k hc).elim l3 hnw⟩
 ·
  intro i j y z k hij hi hj hyi hzj hk hkz
  have cases' : ∀ i, upds σ (outD G0 ns outs ++ callD G0 0 obs) i ≠ none → (∃ q ob, outF outs obs q = some ob ∧ i = G0 q) ∨ (σ i ≠ none ∧ i ∉ ns ∧ i ∉ (List.range obs.length).map (callG nx d)) := by
   intro i hi
   cases ho : upds σ (outD G0 ns outs ++ callD G0 0 obs) i with
   | none => exact absurd ho hi
   | some o =>
    rcases names i o ho with ⟨q, ob, h1, h2, h3⟩ | ⟨h1, h2, h3⟩
    ·
     exact .inl ⟨q, ob, h1, h2⟩
    ·
     exact .inr ⟨by rw [h1]; simp, h2, h3⟩
  have newb : ∀ q ob y k, outF outs obs q = some ob → ρ2 (G0 q) = some y → blk y = some k → ρ' q = some y ∧ W1 k := by
   intro q ob y k ho hy hk
   obtain ⟨y', hy', hlt⟩ := (hG'.ob q ob ho).lt
   have := hon q y' hy'
   rw [hy] at this; injection this with this; subst this
   exact ⟨hy', (hlt k hk).2.1⟩
  rcases cases' i hi with ⟨q, ob, h1, rfl⟩ | ⟨h1, h2, h3⟩
  ·
   rcases cases' j hj with ⟨q', ob', h1', rfl⟩ | ⟨h1', h2', h3'⟩
   ·
    have a1 := newb q ob y k h1 hyi hk
    have a2 := newb q' ob' z k h1' hzj hkz
    exact hG'.sep q q' y z k (fun e => hij (by rw [e])) (by rw [h1]; simp) (by rw [h1']; simp) a1.1 a2.1 hk hkz
   ·
    have a1 := newb q ob y k h1 hyi hk
    rw [hout j h3'] at hzj
    exact (oldb j z k h1' h2' hzj hkz).2 a1.2
  ·
   rcases cases' j hj with ⟨q', ob', h1', rfl⟩ | ⟨h1', h2', h3'⟩
   ·
    have a1 := newb q' ob' z k h1' hzj hkz
    rw [hout i h3] at hyi
    exact (oldb i y k h1 h2 hyi hk).2 a1.2
   ·
    rw [hout i h3] at hyi
    rw [hout j h3'] at hzj
    exact hG.sep i j y z k hij h1 h1' hyi hzj hk hkz
theorem as_callM {fo : Operand} {ar : Array Operand} {ats : Array TypeId} {f : FuncId} {first caps args : List V} {ins ins' : List Ob} {v : V} {outs : List (Option Ob)} {obs : List Ob} (hc : AM P f args ins v outs obs) (hwl : ∀ b, W b → LB b) (ns : List Nat) (hf : ev fo = .fn (.func f) first caps) (nx : Nat)
  (hargs : first ++ ar.toList.map ev ++ caps = V.renL (nameG nx d ns) args) (hin : V.inNL ins.length args = true) (hd : d.all (fun t => decide (t < 1000)) = true) (hobs : obs.length ≤ 90)
  (hns : ns.Nodup) (hnl : ns.length = ins.length) (hol : outs.length = ins.length) (hil : ins'.length = ins.length) (hins : ∀ (i : Nat) (o o' : Ob), ins[i]? = some o → ins'[i]? = some o' → ObEq o' (o.ren (nameG nx d ns)) ∧ o.inN ins.length) :
  AStep P W LB ⟨d, .call { callee := .value fo, args := ar, argTypes := ats }, ty, pos, af, gd⟩ ev (v.ren (nameG nx d ns)) (preD ns ins') ((List.range obs.length).map (callG nx d)) (outD (nameG nx d ns) ns outs ++ callD (nameG nx d ns) 0 obs) := by
 refine as_callMG hc hwl ns rfl (as0 := first ++ ar.toList.map ev ++ caps) (fun w L ρ g hr => ?_) nx hargs hin hd hobs hns hnl hol hil hins
 have h1 := hr fo (by simp [Op.operands, Call.operands])
 rw [hf] at h1
 obtain ⟨xs, ys, e1, hx, hy⟩ := h1.fn_inv
 have hz : RV w L ρ (ar.toList.map ev) (ar.map g).toList := by
  refine ⟨by simp, fun i u x hu hx => ?_⟩
  simp only [List.getElem?_map, Option.map_eq_some_iff, Array.toList_map] at hu hx
  obtain ⟨p, hp, rfl⟩ := hu
  obtain ⟨q, hq, rfl⟩ := hx
  rw [hp] at hq
  injection hq with hq
  subst hq
  exact hr p (by simp only [Op.operands, Call.operands]; have := List.mem_of_getElem? hp; simp at this ⊢; exact .inr this)
 refine ⟨xs ++ ar.map g ++ ys, fun hcf => ?_, ?_⟩
 ·
  simp [execOp, resolve, Deferred.ofValue, invoke, e1, hcf]
 ·
  have := (hx.append hz).append hy
  simpa using this
end
end Go.Ab

namespace Go.Ab
open Go.RowKit Go.Dw
inductive InsOk (g : Nat → Nat) (n : Nat) : List Ob → List Ob → Prop
 | nil : InsOk g n [] []
 | box {t : TypeId} {cs cs' : List V} {l l' : List Ob} (h : cs' = V.renL g cs) (hi : V.inNL n cs = true) (k : InsOk g n l l') : InsOk g n (.box t cs :: l) (.box t cs' :: l')
 | row {e sz m m' : Nat} {f f' : Nat → List V} {l l' : List Ob} (hm : m' = m) (h : ∀ i, i < m' → f' i = V.renL g (f i)) (hi : ∀ i, i < m → V.inNL n (f i) = true) (k : InsOk g n l l') : InsOk g n (.row e sz m f :: l) (.row e sz m' f' :: l')
 | mp {s : Bool × Nat} {f f' : MF} {l l' : List Ob} (h : ∀ k, f'.look k = (f.map (V.ren g)).look k) (hi : ∀ k u, f.look k = some u → V.inN n u = true) (k : InsOk g n l l') : InsOk g n (.mp s f :: l) (.mp s f' :: l')
theorem InsOk.get {g : Nat → Nat} {n : Nat} {l l' : List Ob} (h : InsOk g n l l') : l'.length = l.length ∧ ∀ (i : Nat) (o o' : Ob), l[i]? = some o → l'[i]? = some o' → ObEq o' (o.ren g) ∧ o.inN n := by
 induction h with
 | nil => exact ⟨rfl, fun i o o' h => by simp at h⟩
 | box h hi k ih =>
  refine ⟨by simp [ih.1], fun i o o' h1 h2 => ?_⟩
  cases i with
  | zero => simp at h1 h2; subst h1 h2; exact ⟨⟨rfl, h⟩, hi⟩
  | succ i => exact ih.2 i o o' (by simpa using h1) (by simpa using h2)
 | row hm h hi k ih =>
  refine ⟨by simp [ih.1], fun i o o' h1 h2 => ?_⟩
  cases i with
  | zero => simp at h1 h2; subst h1 h2; exact ⟨⟨rfl, rfl, hm, h⟩, hi⟩
  | succ i => exact ih.2 i o o' (by simpa using h1) (by simpa using h2)
 | mp h hi k ih =>
  refine ⟨by simp [ih.1], fun i o o' h1 h2 => ?_⟩
  cases i with
  | zero => simp at h1 h2; subst h1 h2; exact ⟨⟨rfl, h⟩, hi⟩
  | succ i => exact ih.2 i o o' (by simpa using h1) (by simpa using h2)
def lookS (σ : Nat → Option Ob) : List Nat → List (Option Ob)
 | [] => []
 | n :: ns => σ n :: lookS σ ns
theorem lookS_pre {σ : Nat → Option Ob} : ∀ {ns : List Nat} {l : List Ob}, lookS σ ns = l.map some → ∀ p ∈ preD ns l, σ p.1 = some p.2
 | [], l, _, p, hp => by simp [preD] at hp
 | n :: ns, [], h, p, hp => by simp [lookS] at h
 | n :: ns, o :: l, h, p, hp => by
  simp only [lookS, List.map_cons, List.cons.injEq] at h
  rcases List.mem_cons.1 hp with rfl | hp
  ·
   exact h.1
  ·
   exact lookS_pre h.2 p hp
section
variable {P : Program} {N : Nat} {C : Cx P N} {T : List TI} {ops : Array Oper} {nx : Nat} {o : Oper} {os : List Oper} {tm : Nat → V} {σ : Nat → Option Ob} {ks : List (List Nat × List Nat)} {K : (Nat → V) → (Nat → Option Ob) → List (List Nat × List Nat) → Prop} {ty : TypeId} {pos : String} {af : Array Edge}
theorem aops_callM {d : Nat} {fo : Operand} {ar : Array Operand} {ats : Array TypeId} {f : FuncId} {first caps args : List V} {ins ins' : List Ob} {v v' : V} {outs : List (Option Ob)} {obs : List Ob} {δ : List (Nat × Option Ob)} {kp : List Nat} (ns : List Nat) (hc : AM P f args ins v outs obs) (hf : ev tm fo = .fn (.func f) first caps)
  (hargs : first ++ ar.toList.map (ev tm) ++ caps = V.renL (nameG nx (some d) ns) args) (hin : V.inNL ins.length args = true) (hd : decide (d < 1000) = true) (hobs : decide (obs.length ≤ 90) = true) (hns : decide ns.Nodup = true) (hnl : ns.length = ins.length) (hol : outs.length = ins.length)
  (hσ : lookS σ ns = ins'.map some) (hins : InsOk (nameG nx (some d) ns) ins.length ins ins') (hv : v.ren (nameG nx (some d) ns) = v') (hδ : outD (nameG nx (some d) ns) ns outs ++ callD (nameG nx (some d) ns) 0 obs = δ) (hkp : keysP (preD ns ins') = kp)
  (hk : AOps C ops nx os (upd tm d v') (upds σ δ) (ks ++ [(keysD δ, kp ++ keysD δ)]) K) : AOps C ops nx (⟨some d, .call { callee := .value fo, args := ar, argTypes := ats }, ty, pos, af, none⟩ :: os) tm σ ks K := by
 subst hv hδ hkp
 have hd' : d < 1000 := of_decide_eq_true hd
 refine aops_step rfl (as_callM (d := some d) hc C.wl ns hf nx hargs hin (by simpa using hd') (of_decide_eq_true hobs) (of_decide_eq_true hns) hnl hol hins.get.1 hins.get.2) (lookS_pre hσ) ?_ hk
 intro id hid
 have hob : obs.length ≤ 90 := of_decide_eq_true hobs
 obtain ⟨j, hj, rfl⟩ := List.mem_map.1 hid
 have hj' : j < obs.length := by simpa using hj
 refine ⟨d, rfl, ?_, ?_, ?_⟩ <;> simp only [callG, Option.getD_some] <;> omega
theorem upds_same : ∀ (l : List (Nat × Option Ob)) (σ : Nat → Option Ob), (∀ p ∈ l, σ p.1 = p.2) → upds σ l = σ
 | [], σ, _ => rfl
 | (k, o) :: l, σ, h => by
  have e : upd σ k o = σ := by
   funext i
   by_cases hi : i = k
   ·
    subst hi; rw [upd_same]; exact (h (i, o) (by simp)).symm
   ·
    rw [upd_ne _ _ hi]
  rw [upds, e]
  exact upds_same l σ fun p hp => h p (by simp [hp])
theorem outD_pre {g : Nat → Nat} {σ : Nat → Option Ob} : ∀ {ns : List Nat} {ins ins' : List Ob}, ins.map (Ob.ren g) = ins' → (∀ p ∈ preD ns ins', σ p.1 = some p.2) → ∀ p ∈ outD g ns (ins.map some), σ p.1 = p.2
 | [], ins, _, _, _, p, hp => by simp [outD] at hp
 | n :: ns, [], _, _, _, p, hp => by simp [outD] at hp
 | n :: ns, o :: ins, [], h, _, p, hp => by simp at h
 | n :: ns, o :: ins, o' :: ins', h, k, p, hp => by
  simp only [List.map_cons, List.cons.injEq] at h
  simp only [List.map_cons, outD, List.mem_cons] at hp
  rcases hp with rfl | hp
  ·
   have := k (n, o') (by simp [preD])
   simpa [h.1] using this
  ·
   exact outD_pre h.2 (fun q hq => k q (by simp [preD, hq])) p hp
theorem InsOk.of_map {g : Nat → Nat} {n : Nat} : ∀ {ins ins' : List Ob}, ins.map (Ob.ren g) = ins' → (∀ o ∈ ins, o.inN n) → InsOk g n ins ins'
 | [], _, rfl, _ => .nil
 | .box t cs :: l, _, rfl, h => .box rfl (show V.inNL n cs = true from h (.box t cs) (by simp)) (InsOk.of_map rfl fun o ho => h o (by simp [ho]))
 | .row e sz m f :: l, _, rfl, h => .row rfl (fun _ _ => rfl) (show ∀ i, i < m → V.inNL n (f i) = true from h (.row e sz m f) (by simp)) (InsOk.of_map rfl fun o ho => h o (by simp [ho]))
 | .mp s f :: l, _, rfl, h => .mp (fun _ => rfl) (show ∀ k u, f.look k = some u → V.inN n u = true from h (.mp s f) (by simp)) (InsOk.of_map rfl fun o ho => h o (by simp [ho]))
def allIn (n : Nat) : List Ob → Prop
 | [] => True
 | .box _ cs :: l => V.inNL n cs = true ∧ allIn n l
 | .row _ _ m f :: l => (∀ i, i < m → V.inNL n (f i) = true) ∧ allIn n l
 | .mp _ f :: l => (∀ k u, f.look k = some u → V.inN n u = true) ∧ allIn n l
theorem allIn_mem {n : Nat} : ∀ {l : List Ob}, allIn n l → ∀ o ∈ l, o.inN n
 | .box _ _ :: l, h, o, ho => by
  rcases List.mem_cons.1 ho with rfl | ho
  ·
   exact h.1
  ·
   exact allIn_mem h.2 o ho
 | .row _ _ _ _ :: l, h, o, ho => by
  rcases List.mem_cons.1 ho with rfl | ho
  ·
   exact h.1
  ·
   exact allIn_mem h.2 o ho
 | .mp _ _ :: l, h, o, ho => by
  rcases List.mem_cons.1 ho with rfl | ho
  ·
   exact h.1
  ·
   exact allIn_mem h.2 o ho
theorem aops_callR {d : Nat} {fo : Operand} {ar : Array Operand} {ats : Array TypeId} {f : FuncId} {first caps args : List V} {ins ins' : List Ob} {v v' : V} {outs : List (Option Ob)} {obs : List Ob} {δ : List (Nat × Option Ob)} {kp : List Nat} (ns : List Nat) (hc : AM P f args ins v outs obs) (hou : outs = ins.map some) (hf : ev tm fo = .fn (.func f) first caps)
  (hargs : first ++ ar.toList.map (ev tm) ++ caps = V.renL (nameG nx (some d) ns) args) (hin : V.inNL ins.length args = true) (hd : decide (d < 1000) = true) (hobs : decide (obs.length ≤ 90) = true) (hns : decide ns.Nodup = true) (hnl : ns.length = ins.length)
  (hσ : lookS σ ns = ins'.map some) (hins : ins.map (Ob.ren (nameG nx (some d) ns)) = ins') (hi2 : allIn ins.length ins) (hv : v.ren (nameG nx (some d) ns) = v') (hδ : callD (nameG nx (some d) ns) 0 obs = δ) (hkp : keysP (preD ns ins') = kp)
  (hk : AOps C ops nx os (upd tm d v') (upds σ δ) (ks ++ [(keysD δ, kp ++ keysD δ)]) K) : AOps C ops nx (⟨some d, .call { callee := .value fo, args := ar, argTypes := ats }, ty, pos, af, none⟩ :: os) tm σ ks K := by
 subst hv hδ hkp hou
 have hd' : d < 1000 := of_decide_eq_true hd
 have hI := InsOk.of_map (n := ins.length) hins (allIn_mem hi2)
 have st := as_callM (W := C.W) (LB := C.LB) (ty := ty) (pos := pos) (af := af) (gd := none) (ats := ats) (d := some d) hc C.wl ns hf nx hargs hin (by simpa using hd') (of_decide_eq_true hobs) (of_decide_eq_true hns) hnl (by simp) hI.get.1 hI.get.2
 refine aops_step rfl (pre := preD ns ins') (nw := (List.range obs.length).map (callG nx (some d))) (δ := callD (nameG nx (some d) ns) 0 obs) ?_ (lookS_pre hσ) ?_ hk
 ·
  intro σ' w L ρ q hG hr hp hn
  have := st σ' w L ρ q hG hr hp hn
  rwa [upds_append, upds_same _ σ' (outD_pre hins hp)] at this
 ·
  intro id hid
  have hob : obs.length ≤ 90 := of_decide_eq_true hobs
  obtain ⟨j, hj, rfl⟩ := List.mem_map.1 hid
  have hj' : j < obs.length := by simpa using hj
  refine ⟨d, rfl, ?_, ?_, ?_⟩ <;> simp only [callG, Option.getD_some] <;> omega
end
section
variable {P : Program} {N : Nat} {C : Cx P N} {T : List TI} {M : List Nat} {ops : Array Oper} {nx : Nat} {o : Oper} {os : List Oper} {tm : Nat → V} {σ : Nat → Option Ob} {ks : List (List Nat × List Nat)} {K : (Nat → V) → (Nat → Option Ob) → List (List Nat × List Nat) → Prop}
end
def slO : Nat → List (Option Ob) → List (Nat × Ob)
 | _, [] => []
 | k, none :: os => slO (k + 1) os
 | k, some o :: os => (k, o) :: slO (k + 1) os
theorem mkS_slO : ∀ (os : List (Option Ob)) (k : Nat) (l : List (Nat × Ob)) (i : Nat), (i < k ∨ k + os.length ≤ i → mkS (slO k os ++ l) i = mkS l i) ∧ ∀ (j : Nat) (ob : Ob), os[j]? = some (some ob) → mkS (slO k os ++ l) (k + j) = some ob
 | [], k, l, i => ⟨fun _ => rfl, fun j ob h => by simp at h⟩
 | none :: os, k, l, i => by
  refine ⟨fun h => (mkS_slO os (k + 1) l i).1 (by simp at h; omega), fun j ob h => ?_⟩
  cases j with
  | zero => simp at h
  | succ j =>
   have := (mkS_slO os (k + 1) l i).2 j ob (by simpa using h)
   rwa [show k + (j + 1) = k + 1 + j by omega]
 | some o :: os, k, l, i => by
  have e : ∀ i, i ≠ k → mkS (slO k (some o :: os) ++ l) i = mkS (slO (k + 1) os ++ l) i := fun i hi => by
   show upd (mkS (slO (k + 1) os ++ l)) k (some o) i = _
   rw [upd_ne _ _ hi]
  refine ⟨fun h => ?_, fun j ob h => ?_⟩
  ·
   rw [e i (by simp at h; omega)]
   exact (mkS_slO os (k + 1) l i).1 (by simp at h; omega)
  ·
   cases j with
   | zero =>
    simp at h; subst h
    show upd (mkS (slO (k + 1) os ++ l)) k (some o) k = _
    exact upd_same _ _ _
   | succ j =>
    rw [e _ oM, show k + (j + 1) = k + 1 + j by omega]
    exact (mkS_slO os (k + 1) l i).2 j ob (by simpa using h)
def okR (g : Nat → Nat) : List (Option Ob) → List (Option Ob) := List.map fun o => o.map (Ob.ren g)
theorem retM {T : List TI} {fn : Func} {n : Nat} {v v' : V} {outs : List (Option Ob)} {obs : List Ob} {e : Exit} {tm : Nat → V} {σ : Nat → Option Ob} {nx : Nat} (gl : List (Nat × Nat)) (tl : List (Nat × V)) (he : e = .normal ∨ e = .ret)
  (htm : All (fun p => tm p.1 = p.2.ren (lookG gl nx)) tl) (hσ : All (fun p => ∃ ob, σ (lookG gl nx p.1) = some ob ∧ ObEq ob (p.2.ren (lookG gl nx))) (slO 0 (obs.map some) ++ slO 500 outs))
  (hinj : decide (((slO 0 (obs.map some) ++ slO 500 outs).map fun p => lookG gl nx p.1).Nodup) = true) (hid : gl.all (fun p => decide (p.1 < 500)) = true) (hob : decide (obs.length ≤ 90) = true)
  (hres : resV T ⟨mkT tl, mkS (slO 0 (obs.map some) ++ slO 500 outs), 1⟩ fn.results.toList = some v') (hv : v' = v) (hcv : v'.ren (clampM obs.length n 1) = v') (hco : okR (clampM obs.length n 1) (obs.map some ++ outs) = obs.map some ++ outs) : RetPostM T fn n v outs obs e ⟨tm, σ, nx⟩ := by
 subst hv
 have hob := of_decide_eq_true hob
 have hren : ∀ o : Ob, some o ∈ obs.map some ++ outs → o.ren (clampM obs.length n 1) = o := by
  intro o ho
  obtain ⟨i, hi⟩ := List.getElem?_of_mem ho
  have h1 : (okR (clampM obs.length n 1) (obs.map some ++ outs))[i]? = some (some (o.ren (clampM obs.length n 1))) := by
   unfold okR; rw [List.getElem?_map, hi]; rfl
  rw [hco, hi] at h1
  injection h1 with h1; injection h1 with h1; exact h1.symm
 refine ⟨he, _, le_ren gl (tl := tl) (sl := slO 0 (obs.map some) ++ slO 500 outs) htm hσ hinj hid, hres, fun i ob hi => ?_, fun i ob hi => ?_, hcv, fun ob hm => hren ob (by simp [hm]), fun ob hm => hren ob (by simp [hm])⟩
 ·
  have := (mkS_slO (obs.map some) 0 (slO 500 outs) 0).2 i ob (by simp [hi])
  simpa using this
 ·
  have hi' := (List.getElem?_eq_some_iff.1 hi).1
  show mkS (slO 0 (obs.map some) ++ slO 500 outs) (500 + i) = some ob
  rw [(mkS_slO (obs.map some) 0 (slO 500 outs) (500 + i)).1 (by right; simp; omega)]
  have := (mkS_slO outs 500 [] 0).2 i ob hi
  simpa using this
end Go.Ab

namespace Go.Dw
open Go.RowKit Go.Shelf
structure BelU (U : Nat → Prop) (B : Nat) (w w' : World) : Prop where
 os : w'.os = w.os
 tape : w'.tape = w.tape
 output : w'.output = w.output
 size : w.heap.size ≤ w'.heap.size
 block : ∀ k, k < B → ¬ U k → w'.heap[k]? = w.heap[k]?
theorem BelU.of {U : Nat → Prop} {B : Nat} {w w' : World} (h : Below B w w') : BelU U B w w' := ⟨h.os, h.tape, h.output, h.size, fun k hk _ => h.block k hk⟩
theorem BelU.no {U : Nat → Prop} {B : Nat} {w w' : World} (h : BelU U B w w') (hU : ∀ k, ¬ U k) : Below B w w' := ⟨h.os, h.tape, h.output, h.size, fun k hk => h.block k hk (hU k)⟩
theorem BelU.mono {U : Nat → Prop} {B B' : Nat} {w w' : World} (h : BelU U B w w') (hB : B' ≤ B) : BelU U B' w w' := ⟨h.os, h.tape, h.output, h.size, fun k hk => h.block k oM⟩
def Iter2U (P : Program) (f : FuncId) (lb : Array Value) (n : Nat) (E : Nat → Nat → Array Value → World → Prop) (R U : Nat → Prop) (w : World) : Prop :=
 ∀ (l : Nat) (J Jx : Nat → World → Prop) (W : World), Tch R w W → w.heap.size ≤ l → l < W.heap.size →
  (∀ k W1 W2, J k W1 → BelU U W.heap.size W1 W2 → J k W2) → (∀ k W1 W2, Jx k W1 → BelU U W.heap.size W1 W2 → Jx k W2) →
  (∀ k x W1, k < n → E l k x W1 → W.heap.size ≤ W1.heap.size → J k W1 → YieldAt Fence.wide 0 P l x W1 fun e W2 => ∃ b : Bool, e = .returned (.bool b) ∧ Tch (fun i => R i ∨ i = l) W1 W2 ∧ (b = true → J (k + 1) W2) ∧ (b = false → Jx k W2)) →
  J 0 W →
  CallsIn Fence.wide 0 P f (#[.func (.yield l) #[] #[]] ++ lb) W fun e W' => (∃ v, e = .returned v) ∧ (J n W' ∨ ∃ k, k < n ∧ Jx k W')
def Iter2 (P : Program) (f : FuncId) (lb : Array Value) (n : Nat) (E : Nat → Nat → Array Value → World → Prop) (R : Nat → Prop) (w : World) : Prop :=
 ∀ (l : Nat) (J Jx : Nat → World → Prop) (W : World), Tch R w W → w.heap.size ≤ l → l < W.heap.size →
  (∀ k W1 W2, J k W1 → Below W.heap.size W1 W2 → J k W2) → (∀ k W1 W2, Jx k W1 → Below W.heap.size W1 W2 → Jx k W2) →
  (∀ k x W1, k < n → E l k x W1 → W.heap.size ≤ W1.heap.size → J k W1 → YieldAt Fence.wide 0 P l x W1 fun e W2 => ∃ b : Bool, e = .returned (.bool b) ∧ Tch (fun i => R i ∨ i = l) W1 W2 ∧ (b = true → J (k + 1) W2) ∧ (b = false → Jx k W2)) →
  J 0 W →
  CallsIn Fence.wide 0 P f (#[.func (.yield l) #[] #[]] ++ lb) W fun e W' => (∃ v, e = .returned v) ∧ (J n W' ∨ ∃ k, k < n ∧ Jx k W')
end Go.Dw
namespace Go.Ab
open Go.RowKit Go.Dw Go.Shelf
def ItE (es : List (List V)) (L : Nat → Prop) (w : World) (l k : Nat) (x : Array Value) (W : World) : Prop :=
 ∃ v, es[k]? = some v ∧ ∃ L1 : Nat → Prop, (∀ b, L1 b → L b ∨ (w.heap.size ≤ b ∧ b < W.heap.size ∧ b ≠ l)) ∧ RV W L1 ρ0 v x.toList
def AIt (P : Program) (gf : FuncId) (caps : List V) (es : List (List V)) : Prop :=
 (∀ (args : Array Value) (w : World), (callFunc gf args).run P w = .ok (.enter gf args) w) ∧
 ∀ (L : Nat → Prop) (w : World) (lb : Array Value), (∀ b, L b → b < w.heap.size) → (∀ g, R w L ρ0 (gvals g) (gval g)) → RV w L ρ0 caps lb.toList → ∀ R : Nat → Prop, (∀ b, R b → b < w.heap.size ∧ ¬ L b) → Iter2 P gf lb es.length (ItE es L w) R w
def AItU (P : Program) (gf : FuncId) (caps : List V) (ins : List Ob) (es : List (List V)) : Prop :=
 (∀ (args : Array Value) (w : World), (callFunc gf args).run P w = .ok (.enter gf args) w) ∧
 ∀ (L U : Nat → Prop) (w : World) (ρ : Nat → Option Value) (lb : Array Value), (∀ b, L b → b < w.heap.size) → (∀ b, U b → b < w.heap.size ∧ ¬ L b) → (∀ g, R w L ρ0 (gvals g) (gval g)) →
  (∀ i o, ins[i]? = some o → Real U w L ρ (500 + i) o) → (∀ i j x y k, i ≠ j → ρ i = some x → ρ j = some y → blk x = some k → blk y ≠ some k) → (∀ id, (id < 500 ∨ 500 + ins.length ≤ id) → ρ id = none) → RV w L ρ caps lb.toList →
  ∀ R : Nat → Prop, (∀ b, R b → b < w.heap.size ∧ ¬ L b ∧ ¬ U b) → Iter2U P gf lb es.length (ItE es (fun b => L b ∨ U b) w) R U w
theorem AIt.u {P : Program} {gf : FuncId} {caps : List V} {es : List (List V)} (h : AIt P gf caps es) : AItU P gf caps [] es := by
 refine ⟨h.1, fun L U w ρ lb hL hU hg _ _ hρ hv R hR => ?_⟩
 have e : ρ = ρ0 := funext fun id => hρ id (by simp only [List.length_nil]; omega)
 subst e
 have := h.2 L w lb hL hg hv R fun b hb => ⟨(hR b hb).1, (hR b hb).2.1⟩
 exact fun l J Jx W hT hl hlW hJ hJx hY h0 => this l J Jx W hT hl hlW (fun k W1 W2 hj hb => hJ k W1 W2 hj (.of hb)) (fun k W1 W2 hj hb => hJx k W1 W2 hj (.of hb)) (fun k x W1 hk hE => hY k x W1 hk (by obtain ⟨v, hv, L1, h1, h2⟩ := hE; exact ⟨v, hv, L1, fun b hb => (h1 b hb).imp .inl id, h2⟩)) h0
end Go.Ab

namespace Go.Ab
open Go.RowKit Go.Dw Go.Shelf
structure YE (P : Program) (es : List (List V)) where
 l : Nat
 J : Nat → Bool → World → Prop
 L0 : Nat → Prop
 w0 : World
 R0 : Nat → Prop
 B : Nat
 U : Nat → Prop
 hY : ∀ k x W1, k < es.length → ItE es (fun b => L0 b ∨ U b) w0 l k x W1 → B ≤ W1.heap.size → J k true W1 → YieldAt Fence.wide 0 P l x W1 fun e W2 => ∃ b : Bool, e = .returned (.bool b) ∧ Tch (fun i => R0 i ∨ i = l) W1 W2 ∧ (b = true → J (k + 1) true W2) ∧ (b = false → J k false W2)
 hJ : ∀ k g W1 W2, J k g W1 → BelU U B W1 W2 → J k g W2
 hB : w0.heap.size ≤ B
 hl : w0.heap.size ≤ l ∧ l < B
 hR : ∀ b, R0 b → b < w0.heap.size ∧ ¬ L0 b
 hL : ∀ b, L0 b → b < w0.heap.size
 hU : ∀ b, U b → b < w0.heap.size ∧ ¬ L0 b ∧ ¬ R0 b
def XThenJ (next : S → Nat → Bool → Prop) (Q : Exit → S → Nat → Bool → Prop) : Exit → S → Nat → Bool → Prop
 | .normal, s, k, g => next s k g
 | e, s, k, g => Q e s k g
def XBlockJ (id : Nat) (Q : Exit → S → Nat → Bool → Prop) : Exit → S → Nat → Bool → Prop
 | .exit id', s, k, g => if id' = id then Q .normal s k g else Q (.exit id') s k g
 | e, s, k, g => Q e s k g
section
variable {P : Program} {N : Nat} {es : List (List V)} {C : Cx P N} {Y : YE P es} {Q : Exit → S → Nat → Bool → Prop} {s : S} {k : Nat} {g : Bool}
end
section
variable {next : S → Nat → Bool → Prop} {Q : Exit → S → Nat → Bool → Prop} {s : S} {k : Nat} {g : Bool} {id id' : Nat}
theorem xjt_n (h : next s k g) : XThenJ next Q .normal s k g := h
theorem xjt_r (h : Q .ret s k g) : XThenJ next Q .ret s k g := h
theorem xjt_x (h : Q (.exit id) s k g) : XThenJ next Q (.exit id) s k g := h
theorem xjb_n (h : Q .normal s k g) : XBlockJ id Q .normal s k g := h
theorem xjb_r (h : Q .ret s k g) : XBlockJ id Q .ret s k g := h
theorem xjb_same (h : Q .normal s k g) : XBlockJ id Q (.exit id) s k g := by simpa [XBlockJ] using h
end
theorem run_pre {P : Program} {W LB : Nat → Prop} {ops : Array Oper} {nx N : Nat} {dfs : Dp} {F : Fence} (hF : FW F) {Q : Exit → Act → World → Prop} (hd : ∀ o ∈ ops.toList, ∀ t, o.dst = some t → t < N) (rest : List Oper) :
  ∀ (os : List Oper) (i : Nat) (tr : List TE) (tm tm' : Nat → V) (σ σ' : Nat → Option Ob) (a : Act) (w w0 : World) (L : Nat → Prop) (ρ : Nat → Option Value) (fresh : Nat → Prop),
   (∀ j, (os ++ rest)[j]? = ops[i + j]?) → Run P W LB ops nx os tr tm σ tm' σ' → Gam W LB N dfs fresh tm σ a w L ρ → (∀ o ∈ os ++ rest, ∀ t, o.dst = some t → ∀ id, nx * 100000 ≤ id → id % 1000 = t → id < (nx + 1) * 100000 → fresh id) → (∀ id, freshA (nx + 1) id → fresh id) → ((os ++ rest).filterMap (·.dst)).Nodup → Tch W w0 w →
   (∀ a' w' L' ρ' fresh', Gam W LB N dfs fresh' tm' σ' a' w' L' ρ' → (∀ o ∈ rest, ∀ t, o.dst = some t → ∀ id, nx * 100000 ≤ id → id % 1000 = t → id < (nx + 1) * 100000 → fresh' id) → (∀ id, freshA (nx + 1) id → fresh' id) → Tch W w0 w' → wpOpsIn F 0 P ops Q (List.range' (i + os.length) rest.length) a' w') →
   wpOpsIn F 0 P ops Q (List.range' i (os.length + rest.length)) a w := by
 intro os
 induction os with
 | nil =>
  intro i tr tm tm' σ σ' a w w0 L ρ fresh _ hr h hfr1 hfr _ ht hQ
  cases tr with
  | cons => exact hr.elim
  | nil =>
   obtain ⟨rfl, rfl⟩ := hr
   have := hQ a w L ρ fresh h (fun o ho => hfr1 o (by simpa using ho)) hfr ht
   simpa using this
 | cons o os ih =>
  intro i tr tm tm' σ σ' a w w0 L ρ fresh hj hr h hfr1 hfr hnd ht hQ
  cases tr with
  | nil => exact hr.elim
  | cons e tr =>
   obtain ⟨⟨hw, hs, hn⟩, hr⟩ := hr
   have hi : ops[i]? = some o := by have := hj 0; simpa using this.symm
   rw [List.length_cons, Nat.add_right_comm, List.range'_succ, wpOpsIn_cons]
   refine step_in (fresh' := fun id => fresh id ∧ id ∉ e.nw) hF h hi (hd o (by have := Array.mem_of_getElem? hi; simpa using this)) hw (fun he => ⟨(hs he).1, (hs he).2.1, fun id hid => by
    obtain ⟨t, h1, h2, h3, h4⟩ := (hs he).2.2 id hid
    exact hfr1 o (by simp) t h1 id h2 h4 h3⟩) (fun _ _ => rfl) hn (fun id h => h) ?_
   intro a' w' L' ρ' h' ht' _
   have f1 : ∀ o' ∈ os ++ rest, ∀ t, o'.dst = some t → ∀ id, nx * 100000 ≤ id → id % 1000 = t → id < (nx + 1) * 100000 → id ∉ e.nw := by
    intro o' ho' t ht id h1 h2 h3 hc
    cases hrun : e.run with
    | false => rw [(hn hrun).2.1] at hc; simp at hc
    | true =>
     obtain ⟨t', g1, g2, g3, g4⟩ := (hs hrun).2.2 id hc
     have htt : t = t' := by rw [← h2, ← g4]
     subst htt
     rw [List.cons_append] at hnd
     simp only [List.filterMap_cons, g1, List.nodup_cons] at hnd
     exact hnd.1 (List.mem_filterMap.2 ⟨o', ho', ht⟩)
   have f2 : ∀ id, freshA (nx + 1) id → id ∉ e.nw := by
    intro id hid hc
    cases hrun : e.run with
    | false => rw [(hn hrun).2.1] at hc; simp at hc
    | true =>
     obtain ⟨t', g1, g2, g3, g4⟩ := (hs hrun).2.2 id hc
     unfold freshA at hid
     omega
   refine ih (i + 1) tr _ _ _ _ a' w' w0 L' ρ' _ (fun j => by have := hj (j + 1); simpa [Nat.add_assoc, Nat.add_comm 1 j] using this) hr h' (fun o' ho' t ht id h1 h2 h3 => ⟨hfr1 o' (by rw [List.cons_append]; exact List.mem_cons_of_mem _ ho') t ht id h1 h2 h3, f1 o' ho' t ht id h1 h2 h3⟩) (fun id hid => ⟨hfr id hid, f2 id hid⟩) ?_ (ht.trans ht') (fun a2 w2 L2 ρ2 fr2 g2 q1 q2 q3 => ?_)
   ·
    rw [List.cons_append] at hnd
    cases hdst : o.dst with
    | none => simpa [List.filterMap_cons, hdst] using hnd
    | some t => simp only [List.filterMap_cons, hdst, List.nodup_cons] at hnd; exact hnd.2
   ·
    have := hQ a2 w2 L2 ρ2 fr2 g2 q1 q2 q3
    rwa [show i + 1 + os.length = i + (o :: os).length by simp; omega]
def EndIt (n : Nat) (e : Exit) (_ : S) (k : Nat) (g : Bool) : Prop := (e = .normal ∨ e = .ret) ∧ (g = true → k = n) ∧ (g = false → k < n)
theorem AItU.no {P : Program} {gf : FuncId} {caps : List V} {es : List (List V)} (h : AItU P gf caps [] es) : AIt P gf caps es := by
 refine ⟨h.1, fun L w lb hL hg hv R hR => ?_⟩
 have := h.2 L (fun _ => False) w ρ0 lb hL (fun b hb => hb.elim) hg (fun i o h => by simp at h) (fun i j x y k _ hx => by cases hx) (fun _ _ => rfl) hv R fun b hb => ⟨(hR b hb).1, (hR b hb).2, fun h => h⟩
 exact fun l J Jx W hT hl hlW hJ hJx hY h0 => this l J Jx W hT hl hlW (fun k W1 W2 hj hb => hJ k W1 W2 hj (hb.no fun _ h => h)) (fun k W1 W2 hj hb => hJx k W1 W2 hj (hb.no fun _ h => h)) (fun k x W1 hk hE => hY k x W1 hk (by obtain ⟨v, hv, L1, h1, h2⟩ := hE; exact ⟨v, hv, L1, fun b hb => (h1 b hb).imp (fun h => h.elim id False.elim) id, h2⟩)) h0
theorem AIter.it {P : Program} {gf : FuncId} {caps : List V} {es : List (List V)} (h : AIter P gf caps es) : AIt P gf caps es := by
 refine ⟨h.1, fun L w lb hL _ hlb R hR => ?_⟩
 obtain ⟨xs, h1, h2, h3⟩ := h.2 L w lb hL hlb
 intro l J Jx W hT hl hlW hJ hJx hY h0
 have e0 : ∀ b, L b → W.heap[b]? = w.heap[b]? := fun b hb => hT.block b (hL b hb) fun hc => (hR b hc).2 hb
 have := h3 R hR l (fun k W1 => J k W1 ∧ ∀ b, L b → W1.heap[b]? = w.heap[b]?) Jx W hT hl hlW (fun k W1 W2 hj hb => ⟨hJ k _ _ hj.1 hb, fun b hbL => (hb.block b (Nat.lt_of_lt_of_le (hL b hbL) hT.size)).trans (hj.2 b hbL)⟩) hJx (fun k x W1 hx hs hj => ?_) ⟨h0, e0⟩
 ·
  rw [h1] at this
  refine this.mono ?_
  rintro e W' ⟨hv, hj | hj⟩
  ·
   exact ⟨hv, .inl hj.1⟩
  ·
   exact ⟨hv, .inr hj⟩
 ·
  have hk : k < es.length := by have := (List.getElem?_eq_some_iff.1 hx).1; omega
  have hv : es[k]? = some es[k] := List.getElem?_eq_getElem hk
  have hxr := h2 k _ x hv hx
  obtain ⟨fn', tmps, assign, body, q1, q2⟩ := hY k x W1 hk ⟨_, hv, L, fun b hb => .inl hb, hxr.1, fun i u y hu hy => (hxr.2 i u y hu hy).ext ⟨fun b hb => ⟨hb, hj.2 b hb⟩, fun _ _ h => h⟩⟩ hs hj.1
  refine ⟨fn', tmps, assign, body, q1, q2.mono ?_⟩
  rintro e W2 ⟨b, rfl, ht, a1, a2⟩
  refine ⟨b, rfl, ht, fun e => ⟨a1 e, fun c hc => ?_⟩, a2⟩
  refine (ht.block c ?_ ?_).trans (hj.2 c hc)
  ·
   exact Nat.lt_of_lt_of_le (Nat.lt_of_lt_of_le (hL c hc) hT.size) hs
  ·
   rintro (h | h)
   ·
    exact (hR c h).2 hc
   ·
    have := hL c hc; omega
end Go.Ab

namespace Go.Dw
open Go.RowKit Go.Shelf
def Iter4 (P : Program) (f : FuncId) (lb : Array Value) (n : Nat) (E : Nat → Array Value → World → Prop) (L : Nat → Prop) (w : World) : Prop :=
 ∀ (l : Nat) (J : Nat → Bool → (Nat → Prop) → World → Prop) (W : World), w.heap.size ≤ W.heap.size → (∀ b, L b → W.heap[b]? = w.heap[b]?) → w.heap.size ≤ l → l < W.heap.size →
  (∀ k g A W1 W2, J k g A W1 → (∀ b, A b → W.heap.size ≤ b ∧ b < W1.heap.size) → W.heap.size ≤ W1.heap.size → Tch A W1 W2 → J k g (fun b => A b ∨ (W1.heap.size ≤ b ∧ b < W2.heap.size)) W2) →
  (∀ k x A W1, k < n → E k x W1 → (∀ b, A b → W.heap.size ≤ b ∧ b < W1.heap.size) → W.heap.size ≤ W1.heap.size → J k true A W1 → YieldAt Fence.wide 0 P l x W1 fun e W2 => ∃ b : Bool, e = .returned (.bool b) ∧ Tch (fun i => ¬ A i ∧ ¬ L i) W1 W2 ∧ (b = true → J (k + 1) true A W2) ∧ (b = false → J k false A W2)) →
  J 0 true (fun _ => False) W →
  CallsIn Fence.wide 0 P f (#[.func (.yield l) #[] #[]] ++ lb) W fun e W' => (∃ v, e = .returned v) ∧ ∃ A : Nat → Prop, (∀ b, A b → W.heap.size ≤ b) ∧ (J n true A W' ∨ ∃ k, k < n ∧ J k false A W')
def roundEnd4 (R : Nat → Prop) (J : Nat → (Nat → Prop) → World → Prop) (Jx : Nat → Code → (Nat → Prop) → World → Prop) (k : Nat) (A : Nat → Prop) (W : World) : Exit → Act → World → Prop
 | .normal, _, W' => Tch R W W' ∧ J (k + 1) A W'
 | .ret, _, W' => Tch R W W' ∧ Jx k .ret A W'
 | .exit id, _, W' => Tch R W W' ∧ Jx k (.exit id) A W'
 | .goto t, _, W' => Tch R W W' ∧ Jx k (.goto t) A W'
 | .panic _, _, _ => False
 | .outgrown, _, _ => False
theorem wp_range4 {P : Program} {g : Operand} {ps : Array Tmp} {assign body : Code} {Q : Exit → Act → World → Prop} {a : Act} {w : World}
  {gf : Nat} {lb : Array Value} (hg : a.eval g = .func (.func gf) #[] lb) (eg : ∀ args w, (callFunc gf args).run P w = .ok (.enter gf args) w)
  {n : Nat} {E : Nat → Array Value → World → Prop} {L : Nat → Prop} (hit : Iter4 P gf lb n E L w) (hL : ∀ i, L i → i < w.heap.size) (hps : ∀ k x W, E k x W → x.size = ps.size)
  (J : Nat → (Nat → Prop) → World → Prop) (Jx : Nat → Code → (Nat → Prop) → World → Prop)
  (hJ : ∀ k A W1 W2, J k A W1 → (∀ b, A b → w.heap.size ≤ b) → Tch A W1 W2 → J k (fun b => A b ∨ (W1.heap.size ≤ b ∧ b < W2.heap.size)) W2)
  (hJx : ∀ k c A W1 W2, Jx k c A W1 → (∀ b, A b → w.heap.size ≤ b) → Tch A W1 W2 → Jx k c (fun b => A b ∨ (W1.heap.size ≤ b ∧ b < W2.heap.size)) W2) (h0 : J 0 (fun _ => False) w)
  (hround : ∀ (l k : Nat) (x : Array Value) (A : Nat → Prop) (W : World), (w.heap.size ≤ l ∧ A l) → (∀ b, A b → w.heap.size ≤ b ∧ b < W.heap.size) → k < n → E k x W → J k A W →
   assign.wpIn (Fence.wide.inRound l) 0 P (Exit.then (fun a₁ W1 => Tch (fun i => ¬ A i ∧ ¬ L i) W W1 ∧ ∀ W2, Tch (· = l) W1 W2 → body.wpIn (Fence.wide.inRound l) 0 P (roundEnd4 (fun i => ¬ A i ∧ ¬ L i) J Jx k A W2) a₁ W2) (fun _ _ _ => False))
    { tmps := (ps.zip x).foldl (fun t (p, v) => t.setIfInBounds p v) a.tmps, defers := [] } W)
  (hdone : ∀ (D : Nat) (A : Nat → Prop) (W : World), J n A W → (w.heap.size ≤ D ∧ A D) → (∀ b, A b → w.heap.size ≤ b) → W.heap[D]? = some (.deferred (some [])) → Q .normal { a with defers := { target := .collected D, args := #[] } :: a.defers } W)
  (hstop : ∀ (D k : Nat) (c : Code) (A : Nat → Prop) (W : World), k < n → Jx k c A W → (w.heap.size ≤ D ∧ A D) → (∀ b, A b → w.heap.size ≤ b) → W.heap[D]? = some (.deferred (some [])) → c.wpIn Fence.wide 0 P Q { a with defers := { target := .collected D, args := #[] } :: a.defers } W) :
  (Code.rangeFunc g ps assign body).wpIn Fence.wide 0 P Q a w := by
 refine wpIn_rangeFunc ?_
 intro fn hfn
 obtain ⟨rec, hrec⟩ : ∃ rec : LoopState → Option Code → Loop, rec = fun st pe => { state := st, pending := pe, fn, tmps := a.tmps, params := ps, assign, body, defers := w.heap.size } := ⟨_, rfl⟩
 obtain ⟨W1, hW1⟩ : ∃ W1, (w.alloc (.deferred (some []))).alloc (.loop (rec .ready none)) = W1 := ⟨_, rfl⟩
 have hL1 : W1.heap[w.heap.size + 1]? = some (.loop (rec .ready none)) := by
  rw [← hW1]; have := World.alloc_heap_new (w.alloc (.deferred (some []))) (.loop (rec .ready none)); rwa [World.size_alloc] at this
 have hK1 : W1.heap[w.heap.size]? = some (.deferred (some [])) := by
  rw [← hW1]; exact (Below.heap_alloc _ _ _ (by simp)).trans (World.alloc_heap_new w _)
 have hs1 : W1.heap.size = w.heap.size + 2 := by rw [← hW1]; simp
 have hb1 : Below w.heap.size w W1 := by
  rw [← hW1]; exact ((Below.refl _ w).alloc (Nat.le_refl _) _).alloc (by simp) _
 refine ⟨w.heap.size + 1, [{ target := .collected w.heap.size, args := #[] }], W1, { target := .fn (.func gf) lb, args := #[.func (.yield (w.heap.size + 1)) #[] #[]] }, W1, gf,
  #[.func (.yield (w.heap.size + 1)) #[] #[]] ++ lb, W1, ?_, ?_, fun _ _ => trivial, ?_, fun h => by simp [Fence.wide] at h, ?_⟩
 ·
  rw [← hW1, hrec]; exact run_enterLoop_outer _ _ _ _ _
 ·
  simp only [resolve, hg]
  simp [go_sem]
 ·
  simp [invoke, go_sem, eg]
 ·
  -- the blocks of the loop itself count as the iterator's
  obtain ⟨X, hX⟩ : ∃ X : (Nat → Prop) → Nat → Prop, X = fun A b => A b ∨ b = w.heap.size ∨ b = w.heap.size + 1 := ⟨_, rfl⟩
  have hXi : ∀ A b, X A b ↔ A b ∨ b = w.heap.size ∨ b = w.heap.size + 1 := fun A b => by rw [hX]
  have conv : ∀ (F : (Nat → Prop) → Prop) (A B : Nat → Prop), (∀ b, A b ↔ B b) → F A → F B := fun F A B h hF => by rwa [show A = B from funext fun b => propext (h b)] at hF
  have hJX : ∀ k A W1 W2, J k (X A) W1 → (∀ b, A b → W1.heap.size > b ∧ w.heap.size + 2 ≤ b) → w.heap.size + 2 ≤ W1.heap.size → Tch A W1 W2 → J k (X (fun b => A b ∨ (W1.heap.size ≤ b ∧ b < W2.heap.size))) W2 := fun k A W1 W2 h hA hs ht =>
   conv (fun B => J k B W2) _ _ (fun b => by simp only [hXi]; exact ⟨fun h => h.elim (fun h => h.elim (fun a => .inl (.inl a)) (fun e => .inr e)) (fun n => .inl (.inr n)), fun h => h.elim (fun h => h.elim (fun a => .inl (.inl a)) (fun n => .inr n)) (fun e => .inl (.inr e))⟩) (hJ k (X A) W1 W2 h (fun b hb => by rcases (hXi A b).1 hb with h | h | h; exact Nat.le_trans oM (hA b h).2; omega; omega) (ht.mono fun b _ h => (hXi A b).2 (.inl h)))
  have hJxX : ∀ k c A W1 W2, Jx k c (X A) W1 → (∀ b, A b → W1.heap.size > b ∧ w.heap.size + 2 ≤ b) → w.heap.size + 2 ≤ W1.heap.size → Tch A W1 W2 → Jx k c (X (fun b => A b ∨ (W1.heap.size ≤ b ∧ b < W2.heap.size))) W2 := fun k c A W1 W2 h hA hs ht =>
   conv (fun B => Jx k c B W2) _ _ (fun b => by simp only [hXi]; exact ⟨fun h => h.elim (fun h => h.elim (fun a => .inl (.inl a)) (fun e => .inr e)) (fun n => .inl (.inr n)), fun h => h.elim (fun h => h.elim (fun a => .inl (.inl a)) (fun n => .inr n)) (fun e => .inl (.inr e))⟩) (hJx k c (X A) W1 W2 h (fun b hb => by rcases (hXi A b).1 hb with h | h | h; exact Nat.le_trans oM (hA b h).2; omega; omega) (ht.mono fun b _ h => (hXi A b).2 (.inl h)))
  have hput : ∀ k A W5 o, J k (X A) W5 → (∀ b, A b → w.heap.size + 2 ≤ b) → J k (X A) (W5.putObj (w.heap.size + 1) o) := fun k A W5 o h hA =>
   conv (fun B => J k B _) _ _ (fun b => ⟨fun h => h.elim id fun h => by simp at h; omega, .inl⟩) (hJ k (X A) W5 _ h (fun b hb => by rcases (hXi A b).1 hb with h | h | h; exact Nat.le_trans oM (hA b h); omega; omega) ((Tch.refl _ _).putObj o fun _ => (hXi A _).2 (.inr (.inr rfl))))
  have hputx : ∀ k c A W5 o, Jx k c (X A) W5 → (∀ b, A b → w.heap.size + 2 ≤ b) → Jx k c (X A) (W5.putObj (w.heap.size + 1) o) := fun k c A W5 o h hA =>
   conv (fun B => Jx k c B _) _ _ (fun b => ⟨fun h => h.elim id fun h => by simp at h; omega, .inl⟩) (hJx k c (X A) W5 _ h (fun b hb => by rcases (hXi A b).1 hb with h | h | h; exact Nat.le_trans oM (hA b h); omega; omega) ((Tch.refl _ _).putObj o fun _ => (hXi A _).2 (.inr (.inr rfl))))
  have h01 : J 0 (X fun _ => False) W1 := conv (fun B => J 0 B W1) _ _ (fun b => by simp only [hXi, hs1, false_or]; constructor <;> (intro h; omega)) (hJ 0 (fun _ => False) w W1 h0 (fun _ h => h.elim) (Tch.of_new hb1))
  refine (hit (w.heap.size + 1)
   (fun k g A W => W.heap[w.heap.size]? = some (.deferred (some [])) ∧ (g = true → J k (X A) W ∧ W.heap[w.heap.size + 1]? = some (.loop (rec .ready none))) ∧ (g = false → ∃ c, Jx k c (X A) W ∧ W.heap[w.heap.size + 1]? = some (.loop (rec .done (some c)))))
   W1 oM (fun b hb => hb1.block b (hL b hb)) oM oM
   (fun k g A B1 B2 h hA hs ht => by
    obtain ⟨q1, q2, q3⟩ := h
    have st : ∀ b, b < w.heap.size + 2 → B2.heap[b]? = B1.heap[b]? := fun b hb => ht.block b oM fun hc => by have := hA b hc; omega
    have hA' : ∀ b, A b → B1.heap.size > b ∧ w.heap.size + 2 ≤ b := fun b hb => by have := hA b hb; omega
    exact ⟨(st _ oM).trans q1, fun e => ⟨hJX k A B1 B2 (q2 e).1 hA' oM ht, (st _ oM).trans (q2 e).2⟩, fun e => by
     obtain ⟨c, q4, q5⟩ := q3 e
     exact ⟨c, hJxX k c A B1 B2 q4 hA' oM ht, (st _ oM).trans q5⟩⟩)
   ?_ ⟨hK1, fun _ => ⟨h01, hL1⟩, fun e => by cases e⟩).mono ?_
  ·
   rintro k x A W hkn hx hA hsz ⟨hk, hg1, _⟩
   obtain ⟨hi, hl⟩ := hg1 rfl
   have hlt : w.heap.size + 1 < W.heap.size := (Array.getElem?_eq_some_iff.1 hl).1
   have hA2 : ∀ b, A b → w.heap.size + 2 ≤ b := fun b hb => by have := hA b hb; omega
   have hy := run_yield (P := P) (args := x) hl (by rw [hrec]; exact hps k x _ hx)
   rw [hrec] at hy
   have x1 : X A (w.heap.size + 1) := (hXi A _).2 (.inr (.inr rfl))
   have x0 : X A w.heap.size := (hXi A _).2 (.inr (.inl rfl))
   have hnR1 : ¬ (¬ X A (w.heap.size + 1) ∧ ¬ L (w.heap.size + 1)) := fun e => e.1 x1
   have hnR0 : ¬ (¬ X A w.heap.size ∧ ¬ L w.heap.size) := fun e => e.1 x0
   refine ⟨fn, _, assign, body, hy, roundIn_of_wpIn hfn (wpIn_mono (hround (w.heap.size + 1) k x (X A) W ⟨by omega, x1⟩ (fun b hb => by rcases (hXi A b).1 hb with h | h | h; have := hA b h; omega; omega; omega) hkn hx hi) ?_)⟩
   rintro e a3 W3 hp
   cases e with
   | normal =>
    obtain ⟨ht3, hbody⟩ := hp
    have hl3 : W3.heap[w.heap.size + 1]? = some (.loop (rec .ready none)) := (ht3.block _ hlt hnR1).trans hl
    have hk3 : W3.heap[w.heap.size]? = some (.deferred (some [])) := (ht3.block _ oM hnR0).trans hk
    have hlt3 : w.heap.size + 1 < W3.heap.size := (Array.getElem?_eq_some_iff.1 hl3).1
    refine ⟨_, run_beginRound hl3 (by rw [hrec]), ?_⟩
    obtain ⟨W4, hW4⟩ : ∃ W4, W3.putObj (w.heap.size + 1) (.loop { rec .ready none with state := .busy }) = W4 := ⟨_, rfl⟩
    have ht4 : Tch (· = w.heap.size + 1) W3 W4 := by rw [← hW4]; exact (Tch.refl _ _).putObj _ fun _ => rfl
    have hl4 : W4.heap[w.heap.size + 1]? = some (.loop { rec .ready none with state := .busy }) := by rw [← hW4]; exact World.putObj_heap_same hlt3
    have hk4 : W4.heap[w.heap.size]? = some (.deferred (some [])) := (ht4.block _ oM oM).trans hk3
    rw [hW4]
    refine wpIn_mono (hbody W4 ht4) ?_
    have hsz4 : W4.heap.size = W3.heap.size := by rw [← hW4]; simp
    have fin : ∀ (jump : Option Code) (W5 : World), Tch (fun i => ¬ X A i ∧ ¬ L i) W4 W5 →
      (Instr.endRound (w.heap.size + 1) jump).run P W5 = .ok (.bool jump.isNone) (W5.putObj (w.heap.size + 1) (.loop (rec (if jump.isNone then .ready else .done) jump))) ∧
      (W5.putObj (w.heap.size + 1) (.loop (rec (if jump.isNone then .ready else .done) jump))).heap[w.heap.size + 1]? = some (.loop (rec (if jump.isNone then .ready else .done) jump)) ∧
      (W5.putObj (w.heap.size + 1) (.loop (rec (if jump.isNone then .ready else .done) jump))).heap[w.heap.size]? = some (.deferred (some [])) ∧
      Tch (fun i => ¬ A i ∧ ¬ L i) W (W5.putObj (w.heap.size + 1) (.loop (rec (if jump.isNone then .ready else .done) jump))) := fun jump W5 ht5 => by
     have hl5 := (ht5.block _ (Array.getElem?_eq_some_iff.1 hl4).1 hnR1).trans hl4
     have hr := run_endRound (P := P) jump hl5
     rw [hrec] at hr ⊢
     refine ⟨hr, World.putObj_heap_same (Array.getElem?_eq_some_iff.1 hl5).1, (World.putObj_heap_other oM).trans ((ht5.block _ oM hnR0).trans hk4), ?_⟩
     have nA : ¬ A (w.heap.size + 1) ∧ ¬ L (w.heap.size + 1) := ⟨fun h => by have := hA2 _ h; omega, fun h => by have := hL _ h; omega⟩
     have sub : ∀ i, ¬ X A i ∧ ¬ L i → ¬ A i ∧ ¬ L i := fun i h => ⟨fun ha => h.1 ((hXi A i).2 (.inl ha)), h.2⟩
     exact (((ht3.mono fun k _ h => sub k h).trans (ht4.mono fun k _ h => by subst h; exact nA)).trans (ht5.mono fun k _ h => sub k h)).putObj _ fun _ => nA
    rintro e a5 W5 hp
    cases e with
    | normal =>
     obtain ⟨ht5, hi5⟩ := hp
     obtain ⟨hr, hl6, hk6, ht6⟩ := fin none W5 ht5
     exact ⟨_, _, hr, _, rfl, ht6, fun _ => ⟨hk6, fun _ => ⟨hput _ _ _ _ hi5 hA2, hl6⟩, fun e => by cases e⟩, fun h => by simp at h⟩
    | ret =>
     obtain ⟨ht5, hi5⟩ := hp
     obtain ⟨hr, hl6, hk6, ht6⟩ := fin (some .ret) W5 ht5
     exact ⟨_, _, hr, _, rfl, ht6, fun h => by simp at h, fun _ => ⟨hk6, (fun e => by cases e), fun _ => ⟨.ret, hputx _ _ _ _ _ hi5 hA2, hl6⟩⟩⟩
    | exit id =>
     obtain ⟨ht5, hi5⟩ := hp
     obtain ⟨hr, hl6, hk6, ht6⟩ := fin (some (.exit id)) W5 ht5
     exact ⟨_, _, hr, _, rfl, ht6, fun h => by simp at h, fun _ => ⟨hk6, (fun e => by cases e), fun _ => ⟨.exit id, hputx _ _ _ _ _ hi5 hA2, hl6⟩⟩⟩
    | goto t =>
     obtain ⟨ht5, hi5⟩ := hp
     obtain ⟨hr, hl6, hk6, ht6⟩ := fin (some (.goto t)) W5 ht5
     exact ⟨_, _, hr, _, rfl, ht6, fun h => by simp at h, fun _ => ⟨hk6, (fun e => by cases e), fun _ => ⟨.goto t, hputx _ _ _ _ _ hi5 hA2, hl6⟩⟩⟩
    | panic ch => exact hp.elim
    | outgrown => exact hp.elim
   | ret => exact hp.elim
   | exit id => exact hp.elim
   | goto t => exact hp.elim
   | panic ch => exact hp.elim
   | outgrown => exact hp.elim
  ·
   rintro e W2 ⟨⟨v, rfl⟩, A, hA, h⟩
   have hA2 : ∀ b, A b → w.heap.size + 2 ≤ b := fun b hb => by have := hA b hb; omega
   have hXw : ∀ b, X A b → w.heap.size ≤ b := fun b hb => by rcases (hXi A b).1 hb with h | h | h; exact Nat.le_trans oM (hA2 b h); omega; omega
   rcases h with ⟨hk, hg1, _⟩ | ⟨k, hk', hk, _, hg2⟩
   ·
    obtain ⟨hi, hl⟩ := hg1 rfl
    exact ⟨none, _, by have := run_endLoop (P := P) hl (by rw [hrec]; simp); rw [hrec] at this; exact this, hdone _ (X A) _ (hput _ _ _ _ hi hA2) ⟨Nat.le_refl _, (hXi A _).2 (.inr (.inl rfl))⟩ hXw ((World.putObj_heap_other oM).trans hk)⟩
   ·
    obtain ⟨c, hi, hl⟩ := hg2 rfl
    exact ⟨some c, _, by have := run_endLoop (P := P) hl (by rw [hrec]; simp); rw [hrec] at this; exact this, hstop _ k c (X A) _ hk' (hputx _ _ _ _ _ hi hA2) ⟨Nat.le_refl _, (hXi A _).2 (.inr (.inl rfl))⟩ hXw ((World.putObj_heap_other oM).trans hk)⟩
end Go.Dw
namespace Go.Ab
open Go.RowKit Go.Dw Go.Shelf
mutual
def V.nmP (pn : List Nat) : V → Bool
 | .agg cs => V.nmPL pn cs
 | .tup cs => V.nmPL pn cs
 | .fn _ a b => V.nmPL pn a && V.nmPL pn b
 | .ifc _ v => v.nmP pn
 | .gd _ v => v.nmP pn
 | .own i => pn.contains i
 | .ref i _ => pn.contains i
 | .oel i _ _ _ => pn.contains i
 | .osl i _ _ _ => pn.contains i
 | _ => true
def V.nmPL (pn : List Nat) : List V → Bool
 | [] => true
 | v :: l => v.nmP pn && V.nmPL pn l
end
theorem V.nmPL_get {pn : List Nat} : ∀ {l : List V} (_ : V.nmPL pn l = true) {i : Nat} {u : V} (_ : l[i]? = some u), u.nmP pn = true
 | v :: l, h, 0, u, hu => by
  simp at hu; subst hu
  simp only [V.nmPL, Bool.and_eq_true] at h
  exact h.1
 | v :: l, h, i + 1, u, hu => by
  simp only [V.nmPL, Bool.and_eq_true] at h
  exact V.nmPL_get h.2 (by simpa using hu)
theorem R.intoP {pn : List Nat} {w : World} {L : Nat → Prop} {ρ : Nat → Option Value} {u : V} {x : Value} (h : R w L ρ u x) : ∀ (_ : u.nmP pn = true) (ρ' : Nat → Option Value), (∀ id v, id ∈ pn → ρ id = some v → ρ' id = some v) → R w L ρ' u x := by
 induction h with
 | any => exact fun _ _ _ => .any _ _
 | c => exact fun _ _ _ => .c _ _
 | agg ρ cs xs f hl hf hr ih =>
  intro hi ρ' hρ
  simp only [V.nmP] at hi
  exact .agg _ _ _ f hl hf fun i u hu => ih i u hu (V.nmPL_get hi hu) ρ' hρ
 | tup ρ cs xs f hl hf hr ih =>
  intro hi ρ' hρ
  simp only [V.nmP] at hi
  exact .tup _ _ _ f hl hf fun i u hu => ih i u hu (V.nmPL_get hi hu) ρ' hρ
 | nil => exact fun _ _ _ => .nil _
 | emp => exact fun _ _ _ => .emp _ _
 | sl0 => exact fun _ _ _ => .sl0 _ _ _ _ _
 | sl ρ sz n row b o c f hb hcap hlen hf hr ih => exact fun _ ρ' _ => .sl _ _ _ _ _ _ _ f hb hcap hlen hf hr
 | ptr ρ cs b o f hb hf hr ih => exact fun _ ρ' _ => .ptr _ _ _ _ f hb hf hr
 | own ρ id x h h1 =>
  intro hi ρ' hρ
  simp only [V.nmP, List.contains_iff_mem] at hi
  exact .own _ _ _ (hρ _ _ hi h) h1
 | ref ρ id off b h =>
  intro hi ρ' hρ
  simp only [V.nmP, List.contains_iff_mem] at hi
  exact .ref _ _ _ _ (hρ _ _ hi h)
 | oel ρ id sz i off b n c h =>
  intro hi ρ' hρ
  simp only [V.nmP, List.contains_iff_mem] at hi
  exact .oel _ _ _ _ _ _ n c (hρ _ _ hi h)
 | osl ρ id sz off k b m c c2 A h hn hA =>
  intro hi ρ' hρ
  simp only [V.nmP, List.contains_iff_mem] at hi
  exact .osl _ _ _ _ _ _ m c _ _ (hρ _ _ hi h) hn hA
 | fn ρ f fs cs xs ys g h hl hm hg hh hr hs ih1 ih2 =>
  intro hi ρ' hρ
  simp only [V.nmP, Bool.and_eq_true] at hi
  exact .fn _ _ _ _ _ _ g h hl hm hg hh (fun i u hu => ih1 i u hu (V.nmPL_get hi.1 hu) ρ' hρ) fun i u hu => ih2 i u hu (V.nmPL_get hi.2 hu) ρ' hρ
 | ifc ρ t u x h ih =>
  intro hi ρ' hρ
  simp only [V.nmP] at hi
  exact .ifc _ _ _ _ (ih hi ρ' hρ)
 | gd ρ g u x h h' ih =>
  intro hi ρ' hρ
  simp only [V.nmP] at hi
  exact .gd _ _ _ _ (fun hg => ih hg hi ρ' hρ) h'
theorem mkT_nmP {pn : List Nat} : ∀ {tl : List (Nat × V)} (_ : tl.all (fun p => p.2.nmP pn) = true) (i : Nat), (mkT tl i).nmP pn = true
 | [], _, i => rfl
 | p :: tl, h, i => by
  simp only [List.all_cons, Bool.and_eq_true] at h
  show (upd (mkT tl) p.1 p.2 i).nmP pn = true
  by_cases he : i = p.1
  ·
   subst he; rw [upd_same]; exact h.1
  ·
   rw [upd_ne _ _ he]; exact mkT_nmP h.2 i
theorem Real.keepW {W W' L L' : Nat → Prop} {w w' : World} {ρ ρ' : Nat → Option Value} {id : Nat} {o : Ob} (h : Real W w L ρ id o) (e : Ext w L ρ w' L' ρ')
  (hb : ∀ x k, ρ id = some x → blk x = some k → w'.heap[k]? = w.heap[k]? ∧ ¬ L' k ∧ W' k) : Real W' w' L' ρ' id o := by
 cases o with
 | box t cs =>
  obtain ⟨b, xs, h1, h2, h3, h4, h5⟩ := h
  have := hb _ b h1 rfl
  exact ⟨b, xs, e.r _ _ h1, this.2.2, this.2.1, this.1.trans h4, h5.ext e⟩
 | row t sz n row =>
  obtain ⟨v, xs, h1, h2, h3, h4, h5⟩ := h
  refine ⟨v, xs, e.r _ _ h1, ⟨h2.1, ?_⟩, h3, h4.ext e, fun k hk => ⟨(hb _ k h1 hk).2.2, (hb _ k h1 hk).2.1⟩⟩
  rcases h2.2 with hn | ⟨g, cap, cur, rfl, hg, hh, rest⟩
  ·
   exact .inl hn
  ·
   exact .inr ⟨g, cap, cur, rfl, hg, (hb _ g h1 rfl).1.trans hh, rest⟩
 | mp str f =>
  obtain ⟨b, es, cl, h1, h2, h3, h4, h5⟩ := h
  have := hb _ b h1 rfl
  exact ⟨b, es, cl, e.r _ _ h1, this.2.2, this.2.1, this.1.trans h4, h5.imp fun _ _ _ _ h => h.ext e⟩
def ItE4 (es : List (List V)) (k : Nat) (x : Array Value) (W : World) : Prop :=
 ∃ v, es[k]? = some v ∧ V.flatL v = true ∧ RV W (fun _ => False) ρ0 v x.toList
def AIt4 (P : Program) (gf : FuncId) (caps : List V) (es : List (List V)) : Prop :=
 (∀ (args : Array Value) (w : World), (callFunc gf args).run P w = .ok (.enter gf args) w) ∧
 ∀ (L : Nat → Prop) (w : World) (lb : Array Value), (∀ b, L b → b < w.heap.size) → (∀ g, R w L ρ0 (gvals g) (gval g)) → RV w L ρ0 caps lb.toList → Iter4 P gf lb es.length (ItE4 es) L w
theorem w_range4 {P : Program} {N : Nat} {C : Cx P N} {Q : Exit → S → Prop} {tm : Nat → V} {σ : Nat → Option Ob} {nx : Nat} {g : Operand} {ps : Array Tmp} {assign body : Code} {gf : FuncId} {caps : List V} {es : List (List V)}
  (hF : C.F = Fence.wide) (pn xn : List Nat) (gl : List (Nat × Nat)) (hd : ∀ id x, C.dfs.pin id = some x → id ∈ pn ∧ ∀ p ∈ gl, p.1 ≠ id) (it : AIt4 P gf caps es) (hg : ev tm g = .fn (.func gf) [] caps) (hidf : V.idfL caps = true) (hlen : ∀ x ∈ es, x.length = ps.size) (hps : ps.toList.all (fun p => decide (p < N)) = true)
  (tl : List (Nat × V)) (ok : Nat → Prop) (sl : Nat → List Ob) (X : Nat → Code → List Ob → Prop) (hok0 : ok 0)
  (hpn : pn.all (fun p => decide (500 ≤ p ∧ p < 1000)) = true) (htl : tl.all (fun p => p.2.nmP pn) = true) (hid : gl.all (fun p => decide (p.1 < 1000)) = true)
  (htm : All (fun p => tm p.1 = p.2.ren (lookG gl nx)) tl) (hσ : All (fun p => ∃ ob, σ (lookG gl nx p.1) = some ob ∧ ObEq ob (p.2.ren (lookG gl nx))) ((pn ++ xn).zip (sl 0)))
  (hinj : decide ((((pn ++ xn).zip (sl 0)).map fun p => lookG gl nx p.1).Nodup) = true)
  (round : ∀ C' : Cx P N, (∃ l, C'.F = Fence.wide.inRound l) → ∀ k x, es[k]? = some x → ok k → AW C' assign (XThen (fun s' => AW C' body (RPost (pn ++ xn) ok sl X k) s') (fun _ _ => False)) ⟨setT (mkT tl) ps.toList x, mkS ((pn ++ xn).zip (sl k)), 1⟩)
  (hdone : ok es.length → Q .normal ⟨mkT tl, mkS ((pn ++ xn).zip (sl es.length)), 1⟩)
  (hstop : ∀ k c sx, k < es.length → X k c sx → AW C c Q ⟨mkT tl, mkS ((pn ++ xn).zip sx), 1⟩) : AW C (.rangeFunc g ps assign body) Q ⟨tm, σ, nx⟩ := by
 intro a w ⟨L, ρ', g00⟩
 have g0 := Gam.ren (s := ⟨tm, σ, nx⟩) tl ((pn ++ xn).zip (sl 0)) gl htm.mem hσ.mem (of_decide_eq_true hinj) (by simpa using hid) (fun p hp => by
  cases hc : C.dfs.pin p.1 with
  | none => rfl
  | some x => exact absurd rfl ((hd _ x hc).2 p hp)) g00
 have hfn := g00.tm.eval g00.g.gl g
 generalize (fun i => ρ' (lookG gl nx i)) = ρ at g0
 rw [hg] at hfn
 obtain ⟨xs', lb, eg, hxs, hlb⟩ := hfn.fn_inv
 have hxs0 : xs' = #[] := by have := hxs.1; simpa using this.symm
 subst hxs0
 have hpn' : ∀ p ∈ pn, 500 ≤ p ∧ p < 1000 := by simpa using hpn
 have hps' : ∀ p ∈ ps.toList, p < N := fun p hp => of_decide_eq_true (List.all_eq_true.1 hps p hp)
 obtain ⟨Ds, dd1, dd2, dd3⟩ := g0.defers
 obtain ⟨it1, it2⟩ := it
 have hit := it2 L w lb (fun b hb => (g0.g.ll b hb).1) g0.g.gl (hlb.free hidf)
 have hxlen : ∀ k x W, ItE4 es k x W → x.size = ps.size := by
  rintro k x W ⟨v, hv, _, h1⟩
  have := h1.1
  rw [hlen v (List.mem_of_getElem? hv)] at this
  simpa using this.symm
 have hDw : ∀ D ∈ Ds, D < w.heap.size := fun D hD => (Array.getElem?_eq_some_iff.1 (dd3 D hD).1).1
 obtain ⟨Wc, hWc⟩ : ∃ Wc : (Nat → Prop) → Nat → Prop, ∀ A b, Wc A b ↔ C.W b ∧ ¬ A b ∧ ¬ L b ∧ b ∉ Ds := ⟨_, fun _ _ => Iff.rfl⟩
 obtain ⟨Lc, hLc⟩ : ∃ Lc : (Nat → Prop) → Nat → Prop, ∀ A b, Lc A b ↔ C.LB b ∧ ¬ A b ∧ b ∉ Ds := ⟨_, fun _ _ => Iff.rfl⟩
 -- what is known of the objects, of memory
 obtain ⟨GS, hGS⟩ : ∃ GS : (Nat → Prop) → World → List Ob → Prop, ∀ A W ob, GS A W ob ↔ (∀ b, A b → w.heap.size ≤ b ∧ b < W.heap.size) ∧ Tch (fun b => C.W b ∧ ¬ L b ∧ b ∉ Ds) w W ∧
   ∃ L' ρ', (∀ b, L b → L' b) ∧ (∀ id x, id ∈ pn → ρ id = some x → ρ' id = some x) ∧ (∀ id, freshA 1 id → ρ' id = none) ∧ G (Wc A) (Lc A) (mkS ((pn ++ xn).zip ob)) W L' ρ' := ⟨_, fun _ _ _ => Iff.rfl⟩
 have frame : ∀ {W1 : World}, Tch (fun b => C.W b ∧ ¬ L b ∧ b ∉ Ds) w W1 → ∀ b, L b → W1.heap[b]? = w.heap[b]? := fun ht b hb => ht.block b (g0.g.ll b hb).1 fun hc => hc.2.1 hb
 have frD : ∀ {W1 : World}, Tch (fun b => C.W b ∧ ¬ L b ∧ b ∉ Ds) w W1 → ∀ D ∈ Ds, W1.heap[D]? = some (.deferred (some [])) := fun ht D hD =>
  (ht.block D (hDw D hD) fun hc => hc.2.2 hD).trans (dd3 D hD).1
 have tmU : ∀ {W1 : World} {L' : Nat → Prop} {ρ' : Nat → Option Value}, Tch (fun b => C.W b ∧ ¬ L b ∧ b ∉ Ds) w W1 → (∀ b, L b → L' b) → (∀ id x, id ∈ pn → ρ id = some x → ρ' id = some x) → ∀ i, Go.Ab.R W1 L' ρ' (mkT tl i) (a.tmps.getD i undef) := fun ht hLL hρ i =>
  ((g0.tm i).intoP (mkT_nmP htl i) _ hρ).mono (fun b hb => ⟨hLL b hb, frame ht b hb⟩) fun _ _ h => h
 have gs0 : GS (fun _ => False) w (sl 0) := by
  rw [hGS]
  refine ⟨fun _ h => h.elim, Tch.refl _ _, L, ρ, fun _ h => h, fun _ _ _ h => h, g0.fr, fun b hb => ⟨(g0.g.ll b hb).1, (hLc _ _).2 ⟨(g0.g.ll b hb).2, fun h => h, fun hD => (dd3 b hD).2.2 hb⟩⟩, fun b hb => ⟨(hWc _ _).2 ⟨(g0.g.new b hb).1, fun h => h, fun hl => by have := (g0.g.ll b hl).1; omega, fun hD => by have := hDw b hD; omega⟩, (hLc _ _).2 ⟨(g0.g.new b hb).2, fun h => h, fun hD => by have := hDw b hD; omega⟩⟩, fun id o ho => ?_, g0.g.sep, g0.g.gl⟩
  have hr := g0.g.ob id o ho
  obtain ⟨y, hy, hy2⟩ := hr.lt
  refine hr.keepW (Ext.refl _ _ _) fun x k hx hk => ?_
  rw [hx] at hy; injection hy with hy; subst hy
  exact ⟨rfl, (hy2 k hk).2.2, (hWc _ _).2 ⟨(hy2 k hk).2.1, fun h => h, (hy2 k hk).2.2, fun hD => hr.no_deferred hx hk (dd3 k hD).1⟩⟩
 have gsJ : ∀ A W1 W2 ob, GS A W1 ob → Tch A W1 W2 → GS (fun b => A b ∨ (W1.heap.size ≤ b ∧ b < W2.heap.size)) W2 ob := by
  intro A W1 W2 ob h ht
  rw [hGS] at h ⊢
  obtain ⟨hA, hT, L', ρ', l1, l2, l3, hG⟩ := h
  have hAl : ∀ b, L' b → ¬ A b := fun b hb => ((hLc _ _).1 (hG.ll b hb).2).2.1
  have ex : Ext W1 L' ρ' W2 L' ρ' := ⟨fun b hb => ⟨hb, ht.block b (hG.ll b hb).1 (hAl b hb)⟩, fun _ _ h => h⟩
  have nA : ∀ b, b < W1.heap.size → ¬ A b → ¬ (A b ∨ (W1.heap.size ≤ b ∧ b < W2.heap.size)) := fun b hb hn h => by
   rcases h with h | h
   ·
    exact hn h
   ·
    omega
  refine ⟨fun b hb => ?_, ?_, L', ρ', l1, l2, l3, fun b hb => ⟨Nat.lt_of_lt_of_le (hG.ll b hb).1 ht.size, ?_⟩, fun b hb => ?_, fun id o ho => ?_, hG.sep, hG.glE ex⟩
  ·
   rcases hb with h | h
   ·
    exact ⟨(hA b h).1, Nat.lt_of_lt_of_le (hA b h).2 ht.size⟩
   ·
    have := hT.size; omega
  ·
   refine Tch.mono (R := fun b => (C.W b ∧ ¬ L b ∧ b ∉ Ds) ∨ A b) ((hT.mono fun _ _ h => .inl h).trans (ht.mono fun _ _ h => .inr h)) fun k hk h => ?_
   rcases h with h | h
   ·
    exact h
   ·
    have := (hA k h).1; omega
  ·
   obtain ⟨q1, q2, q3⟩ := (hLc _ _).1 (hG.ll b hb).2
   exact (hLc _ _).2 ⟨q1, nA b (hG.ll b hb).1 q2, q3⟩
  ·
   have hb1 : W1.heap.size ≤ b := Nat.le_trans ht.size hb
   obtain ⟨q1, q2⟩ := hG.new b hb1
   obtain ⟨q1, _, q3, q4⟩ := (hWc _ _).1 q1
   obtain ⟨r1, _, r3⟩ := (hLc _ _).1 q2
   have hn : ¬ (A b ∨ (W1.heap.size ≤ b ∧ b < W2.heap.size)) := fun h => by
    rcases h with h | h
    ·
     have := (hA b h).2; omega
    ·
     omega
   exact ⟨(hWc _ _).2 ⟨q1, hn, q3, q4⟩, (hLc _ _).2 ⟨r1, hn, r3⟩⟩
  ·
   have hr := hG.ob id o ho
   obtain ⟨y, hy, hy2⟩ := hr.lt
   refine hr.keepW ex fun x k hx hk => ?_
   rw [hx] at hy; injection hy with hy; subst hy
   obtain ⟨q1, q2, q3⟩ := hy2 k hk
   obtain ⟨r1, r2, r3, r4⟩ := (hWc _ _).1 q2
   exact ⟨ht.block k q1 r2, q3, (hWc _ _).2 ⟨r1, nA k q1 r2, r3, r4⟩⟩
 have mkGam : ∀ (D : Nat) (A : Nat → Prop) (W1 : World) (ob : List Ob), GS A W1 ob → (w.heap.size ≤ D ∧ A D) → W1.heap[D]? = some (.deferred (some [])) →
   Gm C ⟨mkT tl, mkS ((pn ++ xn).zip ob), 1⟩ { a with defers := { target := .collected D, args := #[] } :: a.defers } W1 := by
  intro D A W1 ob hgs hD hDl
  rw [hGS] at hgs
  obtain ⟨hA, hT, L', ρ', l1, l2, l3, hG⟩ := hgs
  refine ⟨L', ρ', ⟨⟨fun b hb => ⟨(hG.ll b hb).1, ((hLc _ _).1 (hG.ll b hb).2).1⟩, fun b hb => ⟨((hWc _ _).1 (hG.new b hb).1).1, ((hLc _ _).1 (hG.new b hb).2).1⟩, fun id o ho => ?_, hG.sep, hG.gl⟩, l3, tmU hT l1 l2, g0.size, ⟨D :: Ds, ?_, List.nodup_cons.2 ⟨fun hc => ?_, dd2⟩, fun E hE => ?_⟩, fun id x hp => l2 id x (hd id x hp).1 (g0.pin id x hp)⟩⟩
  ·
   have hr := hG.ob id o ho
   obtain ⟨y, hy, hy2⟩ := hr.lt
   refine hr.keepW (Ext.refl _ _ _) fun x k hx hk => ?_
   rw [hx] at hy; injection hy with hy; subst hy
   exact ⟨rfl, (hy2 k hk).2.2, ((hWc _ _).1 (hy2 k hk).2.1).1⟩
  ·
   simp only [marks, List.map_cons, dd1, List.cons_append]
  ·
   have := hDw D hc
   omega
  ·
   rcases List.mem_cons.1 hE with rfl | hE
   ·
    exact ⟨hDl, (g0.g.new E hD.1).1, fun hc => ((hLc _ _).1 (hG.ll E hc).2).2.1 hD.2⟩
   ·
    exact ⟨frD hT E hE, (dd3 E hE).2.1, fun hc => ((hLc _ _).1 (hG.ll E hc).2).2.2 hE⟩
 rw [hF]
 refine wp_range4 (gf := gf) (lb := lb) (n := es.length) eg it1 hit (fun b hb => (g0.g.ll b hb).1) hxlen
  (fun k A W => ok k ∧ GS A W (sl k)) (fun k c A W => ∃ sx, X k c sx ∧ GS A W sx)
  (fun k A W1 W2 h _ ht => ⟨h.1, gsJ A W1 W2 _ h.2 ht⟩)
  (fun k c A W1 W2 h _ ht => by obtain ⟨sx, h1, h2⟩ := h; exact ⟨sx, h1, gsJ A W1 W2 _ h2 ht⟩)
  ⟨hok0, gs0⟩ ?hround ?hdone ?hstop
 case hdone =>
  rintro D A W ⟨hok, hG⟩ hD _ hDl
  refine ⟨_, hdone hok, mkGam D A W _ hG hD hDl, ?_⟩
  rw [hGS] at hG
  exact hG.2.1.mono fun k _ h => h.1
 case hstop =>
  rintro D k c A W hk ⟨sx, hX, hG⟩ hD _ hDl
  have hst := hstop k c sx hk hX
  unfold AW at hst
  rw [hF] at hst
  refine wpIn_mono (hst _ W (mkGam D A W sx hG hD hDl)) ?_
  rintro e a' w' ⟨s', q, g', t⟩
  rw [hGS] at hG
  exact ⟨s', q, g', (hG.2.1.mono fun k _ h => h.1).trans t⟩
 case hround =>
  rintro l k x A W ⟨hl, hAl⟩ hAb hkl ⟨v, hv, hvf, hxr⟩ ⟨hok, hgs⟩
  rw [hGS] at hgs
  obtain ⟨hA, hT, L', ρ', l1, l2, l3, hG⟩ := hgs
  obtain ⟨C', e1, e2, e3, e4, e4t⟩ : ∃ C' : Cx P N, C'.W = Wc A ∧ C'.LB = Lc A ∧ C'.F = Fence.wide.inRound l ∧ (∀ id, C'.dfs.pin id = if id ∈ pn then ρ id else none) ∧ C'.dfs.tl = [] :=
   ⟨⟨Wc A, Lc A, fun b hb => (hLc _ _).2 ⟨C.wl b ((hWc _ _).1 hb).1, ((hWc _ _).1 hb).2.1, ((hWc _ _).1 hb).2.2.2⟩,
    ⟨[], fun id => if id ∈ pn then ρ id else none, fun id x h => by
     by_cases hi : id ∈ pn
     ·
      exact hpn' id hi
     ·
      rw [if_neg hi] at h; cases h⟩, C.mx, Fence.wide.inRound l, .inr ⟨l, rfl⟩⟩, rfl, rfl, rfl, fun _ => rfl, rfl⟩
  have hr := round C' ⟨l, e3⟩ k _ hv hok
  unfold AW at hr
  rw [e3] at hr
  obtain ⟨z1, z2⟩ := setT_run (w := W) (L := L') (ρ := ρ') ps.toList v x.toList (mkT tl) a.tmps (fun p hp => by rw [g0.size]; exact hps' p hp)
   ⟨hxr.1, fun i u y hu hy => (hxr.2 i u y hu hy).flat (V.flatL_get hvf hu)⟩ (tmU hT l1 l2)
  have ez : ((ps.toList.zip x.toList).foldl (fun t (p, v) => t.setIfInBounds p v) a.tmps) = (ps.zip x).foldl (fun t (p, v) => t.setIfInBounds p v) a.tmps := by
   rw [← Array.toList_zip, Array.foldl_toList]
  rw [ez] at z1 z2
  have gm : Gm C' ⟨setT (mkT tl) ps.toList v, mkS ((pn ++ xn).zip (sl k)), 1⟩ { tmps := (ps.zip x).foldl (fun t (p, v) => t.setIfInBounds p v) a.tmps, defers := [] } W :=
   ⟨L', ρ', ⟨by rw [e1, e2]; exact hG, l3, z2, z1.trans g0.size, ⟨[], by rw [e4t]; rfl, by simp, by simp⟩, fun id y hp => by
    rw [e4] at hp
    split at hp
    ·
     exact l2 id y (by assumption) hp
    ·
     cases hp⟩⟩
  have sub : ∀ i, C'.W i → ¬ A i ∧ ¬ L i := fun i hi => by rw [e1] at hi; obtain ⟨q1, q2, q3, _⟩ := (hWc _ _).1 hi; exact ⟨q2, q3⟩
  have subC : ∀ i, C'.W i → C.W i ∧ ¬ L i ∧ i ∉ Ds := fun i hi => by rw [e1] at hi; obtain ⟨q1, q2, q3, q4⟩ := (hWc _ _).1 hi; exact ⟨q1, q3, q4⟩
  refine wpIn_mono (hr _ W gm) ?_
  rintro e a1 W1 ⟨s1, hq, gm1, t1⟩
  cases e with
  | normal =>
   refine ⟨t1.mono fun j _ h => sub j h, fun W2 ht2 => ?_⟩
   have gm2 : Gm C' s1 a1 W2 := by
    obtain ⟨L1, ρ1, g1⟩ := gm1
    have hnL : ¬ L1 l := fun hc => by
     have := (g1.g.ll l hc).2
     rw [e2] at this
     exact ((hLc _ _).1 this).2.1 hAl
    have hnW : ¬ C'.W l := fun hc => (sub l hc).1 hAl
    have ex : Ext W1 L1 ρ1 W2 L1 ρ1 := ⟨fun b hb => ⟨hb, ht2.block b (g1.g.ll b hb).1 (by rintro rfl; exact hnL hb)⟩, fun _ _ h => h⟩
    refine ⟨L1, ρ1, ⟨⟨fun b hb => ⟨Nat.lt_of_lt_of_le (g1.g.ll b hb).1 ht2.size, (g1.g.ll b hb).2⟩, fun b hb => g1.g.new b (Nat.le_trans ht2.size hb), fun id o ho => ?_, g1.g.sep, g1.g.glE ex⟩, g1.fr, fun t => (g1.tm t).ext ex, g1.size, ?_, g1.pin⟩⟩
    ·
     have hr1 := g1.g.ob id o ho
     obtain ⟨y, hy, hy2⟩ := hr1.lt
     refine hr1.keep ex fun x j hx hj => ?_
     rw [hx] at hy; injection hy with hy; subst hy
     exact ⟨ht2.block j (hy2 j hj).1 (by rintro rfl; exact hnW (hy2 _ hj).2.1), (hy2 j hj).2.2⟩
    ·
     obtain ⟨Es, q1, q2, q3⟩ := g1.defers
     exact ⟨Es, q1, q2, fun D hD => ⟨(ht2.block D (Array.getElem?_eq_some_iff.1 (q3 D hD).1).1 (by rintro rfl; exact hnW (q3 _ hD).2.1)).trans (q3 D hD).1, (q3 D hD).2⟩⟩
   have hbw := hq a1 W2 gm2
   have fin : ∀ (a5 : Act) (W5 : World) (s5 : S) (l5 : List Ob), Gm C' s5 a5 W5 → Tch C'.W W2 W5 → Le s5 ⟨fun _ => .any, mkS ((pn ++ xn).zip l5), 1⟩ → Tch (fun i => ¬ A i ∧ ¬ L i) W2 W5 ∧ GS A W5 l5 := by
    intro a5 W5 s5 l5 gm5 t5 hle
    refine ⟨t5.mono fun j _ h => sub j h, ?_⟩
    obtain ⟨L5, ρ5, g5⟩ := hle C' a5 W5 gm5
    have hsz : W.heap.size ≤ W5.heap.size := Nat.le_trans t1.size (Nat.le_trans ht2.size t5.size)
    have tw : Tch (fun b => C.W b ∧ ¬ L b ∧ b ∉ Ds) w W5 := by
     refine Tch.mono (R := fun b => (C.W b ∧ ¬ L b ∧ b ∉ Ds) ∨ b = l) ((((hT.trans (t1.mono fun j _ h => subC j h)).mono fun _ _ h => .inl h).trans (ht2.mono fun _ _ h => .inr h)).trans (t5.mono fun j _ h => .inl (subC j h))) fun j hj h => ?_
     rcases h with h | h
     ·
      exact h
     ·
      omega
    have gg := g5.g
    rw [e1, e2] at gg
    rw [hGS]
    have ex : Ext W5 L5 ρ5 W5 (fun b => L5 b ∨ L b) ρ5 := ⟨fun b hb => ⟨.inl hb, rfl⟩, fun _ _ h => h⟩
    refine ⟨fun b hb => ⟨(hA b hb).1, Nat.lt_of_lt_of_le (hA b hb).2 hsz⟩, tw, fun b => L5 b ∨ L b, ρ5, fun b hb => .inr hb, fun id y hi hy => g5.pin id y (by rw [e4, if_pos hi]; exact hy), g5.fr, fun b hb => ?_, gg.new, fun id o ho => ?_, gg.sep, gg.glE ex⟩
    ·
     rcases hb with hb | hb
     ·
      exact gg.ll b hb
     ·
      exact ⟨Nat.lt_of_lt_of_le (g0.g.ll b hb).1 tw.size, (hLc _ _).2 ⟨(g0.g.ll b hb).2, fun h => by have := (hA b h).1; have := (g0.g.ll b hb).1; omega, fun hD => (dd3 b hD).2.2 hb⟩⟩
    ·
     have hr5 := gg.ob id o ho
     obtain ⟨y, hy, hy2⟩ := hr5.lt
     refine hr5.keep ex fun x j hx hj => ⟨rfl, ?_⟩
     rw [hx] at hy; injection hy with hy; subst hy
     rintro (h | h)
     ·
      exact (hy2 j hj).2.2 h
     ·
      exact ((hWc _ _).1 (hy2 j hj).2.1).2.2.1 h
   refine wpIn_mono hbw ?_
   rintro e5 a5 W5 ⟨s5, hp5, gm5, t5⟩
   cases e5 with
   | normal => exact ⟨(fin a5 W5 s5 _ gm5 t5 hp5.2).1, hp5.1, (fin a5 W5 s5 _ gm5 t5 hp5.2).2⟩
   | ret => obtain ⟨sx, hX, hle⟩ := hp5; exact ⟨(fin a5 W5 s5 _ gm5 t5 hle).1, sx, hX, (fin a5 W5 s5 _ gm5 t5 hle).2⟩
   | exit id => obtain ⟨sx, hX, hle⟩ := hp5; exact ⟨(fin a5 W5 s5 _ gm5 t5 hle).1, sx, hX, (fin a5 W5 s5 _ gm5 t5 hle).2⟩
   | goto t => obtain ⟨sx, hX, hle⟩ := hp5; exact ⟨(fin a5 W5 s5 _ gm5 t5 hle).1, sx, hX, (fin a5 W5 s5 _ gm5 t5 hle).2⟩
   | panic c => exact hp5.elim
   | outgrown => exact hp5.elim
  | ret => exact hq.elim
  | exit id => exact hq.elim
  | goto t => exact hq.elim
  | panic c => exact hq.elim
  | outgrown => exact hq.elim
end Go.Ab
