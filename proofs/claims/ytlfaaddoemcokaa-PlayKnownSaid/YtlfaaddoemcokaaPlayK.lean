/-
  The helpers of the laws: 'valid', 'inside', 'narrowed'. No condition.
-/
import Derived.Test.YtlfaaddoemcokaaPlayJ
import Derived.Test.YtlfaaddoemcokaaMC
namespace Go.Proofs.Ytlfaaddoemcokaa
open Go.RowKit Go.Dw

def validB (t : List Int) (l : List Pt) (most : Int) : Bool := decide (checkTip t = 0) && decide ((l.length : Int) ≤ most) && decide (checkPts l = 0)
set_option maxRecDepth 100000 in
set_option maxHeartbeats 1000000 in
theorem valid_calls (A : Option Addr) (r c : Nat) (t : List Int) (B : Option Addr) (n d : Nat) (l : List Pt) (most : Int) (w : World) (ht : IntsAt w A r t) (hl : PtsAt w B n l) (hr : r ≤ 4611686018427387904) (hn : n ≤ 4611686018427387904) :
    Calls Try.prog 19 #[.agg #[.slice A r c], .slice B n d, .int .i64 most] w fun e w' => e = .returned (.bool (validB t l most)) ∧ Below w.heap.size w w' := by
  have hb0 := below_new w (.cells #[.slice A r c] 24)
  have hq := hl.1
  have e0 : validB t l most = (decide (checkTip t = 0) && decide ((n : Int) ≤ most) && decide (checkPts l = 0)) := by rw [validB, hq]
  have E0 := Lib.hid e0
  clear e0 hq
  go_enter Try.func19, Try.ntmps19
  go_wp2_with fail
  generalize w.alloc (.cells #[.slice A r c] 24) = w0 at *
  refine (refCheckTip_calls A r c t w0 (ht.below' hb0) hr).mono ?_
  rintro e w1 ⟨rfl, hw1⟩
  have hb1 := hb0.trans (hw1.mono hb0.size)
  by_cases h0 : checkTip t = 0
  · have d0 : (checkTip t == 0) = true := by simp [h0]
    have H0 := Lib.hid h0
    clear h0
    by_cases h1 : (n : Int) ≤ most
    · have H1 := Lib.hid h1
      go_wp2_with fail
      refine (refCheckPts_calls B n d l w1 (hl.below' hb1) hn).mono ?_
      rintro e w2 ⟨rfl, hw2⟩
      go_wp2
      go_ret
      exact ⟨ret_bool (by rw [E0.out]; simp [H0.out, H1.out]; rfl), hb1.trans (hw2.mono hb1.size)⟩
    · have h1' : decide ((n : Int) ≤ most) = false := by simpa using h1
      have H1 := Lib.hid h1'
      go_wp2
      go_ret
      exact ⟨ret_bool (by rw [E0.out, H1.out]; simp), hb1⟩
  · have d0 : (checkTip t == 0) = false := by simp [h0]
    have H0 := Lib.hid h0
    clear h0
    go_wp2
    go_ret
    exact ⟨ret_bool (by rw [E0.out]; simp [H0.out]), hb1⟩

/-! ### inside -/
def inK (a b : List Pt) (k : Nat) : Prop := (gp a k).2 ≤ (gp b k).2 ∧ (gp b k).1 ≤ (gp a k).1
def Inside (a b : List Pt) : Prop := a.length = b.length ∧ ∀ k, k < a.length → inK a b k
instance (a b : List Pt) : Decidable (Inside a b) := by unfold Inside inK; infer_instance

/-! ### narrowed -/
theorem bytes_at {w : World} {A : Option Addr} {n : Nat} {l : List Int} (h : SlAt (encK .u8) 1 w A n l) {k : Nat} (hk : k < n) : ∃ b o, A = some ⟨b, o, none⟩ ∧ b < w.heap.size ∧ w.cell? ⟨b, o + k, none⟩ = some (.int .u8 (gi l k)) := by
  obtain ⟨b, o, hA, hb, hc⟩ := h.2.2 (by omega)
  have := hc k (by have := h.1; omega) 0 (by omega)
  simp [encK] at this
  exact ⟨b, o, hA, hb, by rw [this, gi_eq (by have := h.1; omega)]⟩

end Go.Proofs.Ytlfaaddoemcokaa
