/-
  Runs of sheets, as plain functions. No condition.
-/
import Derived.Test.YtfckkkmacjjmhaaDoorSPl2
namespace Go.Ab
open Go.RowKit Go.Dw

def outB (n lo hi : Int) : Bool := decide (n < lo) || decide (hi < n)
def copB (n : Int) : Bool := outB n 1 1048576
def chkC (c : List Int) (slots plate : Int) : Int := if 8 < c.length then 6 else if c.any copB then 2 else if outB slots 1 64 || outB plate 0 1048576 then 3 else 0
theorem any_gi {c : List Int} {p : Int → Bool} : c.any p = true ↔ ∃ i, i < c.length ∧ p (gi c i) = true := by
  rw [List.any_eq_true]
  constructor
  · rintro ⟨x, hx, h⟩
    obtain ⟨i, hi, rfl⟩ := List.mem_iff_getElem.1 hx
    exact ⟨i, hi, by simpa [gi, List.getD_eq_getElem?_getD, List.getElem?_eq_getElem hi] using h⟩
  · rintro ⟨i, hi, h⟩
    exact ⟨c[i], List.getElem_mem hi, by simpa [gi, List.getD_eq_getElem?_getD, List.getElem?_eq_getElem hi] using h⟩
theorem chkC_1 {c : List Int} {s p : Int} (h : 8 < c.length) : chkC c s p = 6 := by rw [chkC, if_pos h]
theorem chkC_2 {c : List Int} {s p : Int} (h : ¬ 8 < c.length) {i : Nat} (hi : i < c.length) (hb : copB (gi c i) = true) : chkC c s p = 2 := by rw [chkC, if_neg h, if_pos (any_gi.2 ⟨i, hi, hb⟩)]
theorem chkC_any {c : List Int} (hb : ∀ i, i < c.length → copB (gi c i) = false) : ¬ c.any copB = true := fun h => by
  obtain ⟨i, hi, h⟩ := any_gi.1 h
  rw [hb i hi] at h; cases h
theorem chkC_3 {c : List Int} {s p : Int} (h : ¬ 8 < c.length) (hb : ∀ i, i < c.length → copB (gi c i) = false) (ho : (outB s 1 64 || outB p 0 1048576) = true) : chkC c s p = 3 := by rw [chkC, if_neg h, if_neg (chkC_any hb), if_pos ho]
theorem chkC_4 {c : List Int} {s p : Int} (h : ¬ 8 < c.length) (hb : ∀ i, i < c.length → copB (gi c i) = false) (ho : ¬ (outB s 1 64 || outB p 0 1048576) = true) : chkC c s p = 0 := by rw [chkC, if_neg h, if_neg (chkC_any hb), if_neg ho]
/-- valid numbers of copies -/
def CO (c : List Int) : Prop := ∀ x ∈ c, 1 ≤ x ∧ x ≤ 1048576
theorem CO.gi {c : List Int} (h : CO c) {i : Nat} (hi : i < c.length) : 1 ≤ gi c i ∧ gi c i ≤ 1048576 := by
  have := h _ (List.getElem_mem hi)
  simpa [Dw.gi, List.getD_eq_getElem?_getD, List.getElem?_eq_getElem hi] using this
theorem chkC_inv {c : List Int} {s p : Int} (h : chkC c s p = 0) : c.length ≤ 8 ∧ CO c ∧ (1 ≤ s ∧ s ≤ 64) ∧ 0 ≤ p ∧ p ≤ 1048576 := by
  unfold chkC at h
  split at h
  · omega
  · split at h
    · omega
    · rename_i h2
      split at h
      · omega
      · rename_i h3
        refine ⟨by omega, fun x hx => ?_, ?_⟩
        · cases hb : copB x with
          | false => simp [copB, outB] at hb; omega
          | true => exact absurd (List.any_eq_true.2 ⟨x, hx, hb⟩) h2
        · simp [outB] at h3; omega
/-- the places that a design needs; the sum for the first ones -/
def plc (n s : Int) : Int := (n + s - 1) / s
theorem plc_iff {n s q : Int} (hs : 1 ≤ s) : plc n s ≤ q ↔ n ≤ q * s := by
  unfold plc
  rw [Int.le_iff_lt_add_one, Int.ediv_lt_iff_lt_mul (by omega), Int.add_mul]
  omega
theorem plc_pos {n s : Int} (hn : 1 ≤ n) (hs : 1 ≤ s) : 1 ≤ plc n s := by
  have : ¬ plc n s ≤ 0 := by rw [plc_iff hs]; omega
  omega
theorem plc_mono {n s s' : Int} (hn : 1 ≤ n) (hs : 1 ≤ s) (h : s ≤ s') : plc n s' ≤ plc n s := by
  rw [plc_iff (by omega)]
  have h1 := (plc_iff (n := n) (q := plc n s) hs).1 (Int.le_refl _)
  have h2 := plc_pos hn hs
  have : plc n s * s ≤ plc n s * s' := Int.mul_le_mul_of_nonneg_left h (by omega)
  omega
theorem plc_mono_n {n n' s : Int} (hs : 1 ≤ s) (h : n ≤ n') : plc n s ≤ plc n' s := by
  rw [plc_iff hs]
  have h1 := (plc_iff (n := n') (q := plc n' s) hs).1 (Int.le_refl _)
  omega
theorem plc_one {n s : Int} (hs : 1 ≤ s) (h : n ≤ s) : plc n s ≤ 1 := by rw [plc_iff hs]; omega
theorem plc_le {n s : Int} (hn : 1 ≤ n) (hs : 1 ≤ s) : plc n s ≤ n := by
  rw [plc_iff hs]
  have : n * 1 ≤ n * s := Int.mul_le_mul_of_nonneg_left hs (by omega)
  omega
theorem tdiv_plc {n s : Int} (hn : 1 ≤ n) (hs : 1 ≤ s) : (n + s - 1).tdiv s = plc n s := Int.tdiv_eq_ediv_of_nonneg (by omega)
def plcS (c : List Int) (s : Int) : Nat → Int
  | 0 => 0
  | k + 1 => plcS c s k + plc (gi c k) s
theorem plcS_bd {c : List Int} (h : CO c) {s : Int} (hs : 1 ≤ s) : ∀ k, k ≤ c.length → (k : Int) ≤ plcS c s k ∧ plcS c s k ≤ 1048576 * k
  | 0, _ => by simp [plcS]
  | k + 1, hk => by
    have := plcS_bd h hs k (by omega)
    have q := h.gi (i := k) (by omega)
    have p1 := plc_pos q.1 hs
    have p2 := plc_le q.1 hs
    rw [plcS]; omega
theorem plcS_mono {c : List Int} (h : CO c) {s s' : Int} (hs : 1 ≤ s) (hss : s ≤ s') : ∀ k, k ≤ c.length → plcS c s' k ≤ plcS c s k
  | 0, _ => Int.le_refl _
  | k + 1, hk => by
    have := plcS_mono h hs hss k (by omega)
    have q := plc_mono (h.gi (i := k) (by omega)).1 hs hss
    rw [plcS, plcS]; omega
theorem plcS_top {c : List Int} {s : Int} (hs : 1 ≤ s) (h : ∀ i, i < c.length → gi c i ≤ s) : ∀ k, k ≤ c.length → plcS c s k ≤ k
  | 0, _ => by simp [plcS]
  | k + 1, hk => by
    have := plcS_top hs h k (by omega)
    have q := plc_one hs (h k (by omega))
    rw [plcS]; omega
/-- the fewest sheets -/
structure IsRun (c : List Int) (slots F : Int) : Prop where
  pos : 1 ≤ F
  ok : plcS c F c.length ≤ slots
  least : ∀ s, 1 ≤ s → s < F → slots < plcS c s c.length
theorem IsRun.uniq {c : List Int} {slots F G : Int} (h : IsRun c slots F) (k : IsRun c slots G) : F = G := by
  rcases Int.lt_trichotomy F G with hl | hl | hl
  · have := k.least F h.pos hl; have := h.ok; omega
  · exact hl
  · have := h.least G k.pos hl; have := k.ok; omega
def fewN (c : List Int) (slots : Int) : Int := if c.length = 0 then 0 else idxF (fun s => decide (plcS c ((s : Int) + 1) c.length ≤ slots)) 1048576 + 1
theorem fewN_spec {c : List Int} (h : CO c) {slots : Int} (hl : (c.length : Int) ≤ slots) (h0 : c.length ≠ 0) : IsRun c slots (fewN c slots) ∧ fewN c slots ≤ 1048576 := by
  rw [fewN, if_neg h0]
  rcases idxF_inv (p := fun s : Nat => decide (plcS c ((s : Int) + 1) c.length ≤ slots)) (n := 1048576) with ⟨_, hn⟩ | ⟨i, hi, e, h1, h2⟩
  · exfalso
    have := hn 1048575 (by omega)
    have t := plcS_top (c := c) (s := ((1048575 : Nat) : Int) + 1) (by omega) (fun i hi => by have := (h.gi hi).2; omega) c.length (Nat.le_refl _)
    simp only [decide_eq_false_iff_not] at this
    omega
  · rw [e]
    refine ⟨⟨by omega, by simpa using h1, fun s hs1 hs2 => ?_⟩, by omega⟩
    have := h2 (s - 1).toNat (by omega)
    simp only [decide_eq_false_iff_not] at this
    rw [show (((s - 1).toNat : Nat) : Int) + 1 = s by omega] at this
    omega
theorem fewN_nil {c : List Int} {slots : Int} (h : c.length = 0) : fewN c slots = 0 := by rw [fewN, if_pos h]
theorem fewN_eq {c : List Int} (h : CO c) {slots F : Int} (hl : (c.length : Int) ≤ slots) (h0 : c.length ≠ 0) (hF : IsRun c slots F) : fewN c slots = F := (fewN_spec h hl h0).1.uniq hF
/-- the sheets, the places and the error of a run -/
def runE (c : List Int) (slots : Int) : Int := if chkC c slots 0 ≠ 0 then chkC c slots 0 else if slots < c.length then 14 else 0
def runS (c : List Int) (slots : Int) : Int := if runE c slots = 0 then fewN c slots else 0
def runL (c : List Int) (slots : Int) : List Int := if runE c slots = 0 then c.map fun n => plc n (fewN c slots) else []
theorem gi_map {c : List Int} {g : Int → Int} {i : Nat} (h : i < c.length) : gi (c.map g) i = g (gi c i) := by
  simp [gi, List.getD_eq_getElem?_getD, List.getElem?_eq_getElem h]
end Go.Ab
