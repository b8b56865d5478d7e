/-
  The panic of a net's check, and what recovers from it. No condition.
-/
import Derived.Test.YtfckkkmacjjmhaaDoorAbs34
import Derived.Test.YtfckkkmacjjmhaaDoorMC
import Derived.WalkLawsBesides
namespace Go.Proofs.YtfckkkmacjjmhaaDoor
open Go.Ab Go.RowKit Go.Dw Go.Shelf

theorem must_yes (k : Int) (w : World) : Calls Tryd.prog 83 #[.bool true, .int .i64 k] w fun e w' => e = .returned (.tuple #[]) ∧ w' = w := by
  go_enter Tryd.func83, Tryd.ntmps83
  go_wp2
  go_end0
  exact ⟨rfl, rfl⟩
theorem must_no (k : Int) (w : World) : Calls Tryd.prog 83 #[.bool false, .int .i64 k] w fun e w' => e = .panicked [{ v := .iface 123 (.int .i64 k), recovered := false }] ∧ w' = w := by
  go_enter Tryd.func83, Tryd.ntmps83
  go_wp2
  exact ⟨rfl, rfl, rfl⟩
theorem mustOk : MustOk Tryd.prog 83 123 := ⟨(⟨Tryd.func83, rfl, Tryd.ntmps83, by kernel_rfl⟩ : FnOk Tryd.prog 83 Tryd.f83 _ _).call, must_yes, must_no⟩

set_option maxRecDepth 100000 in
theorem flatD_idle (b c : Nat) (w : World) : CallsDIn Fence.wide 0 Tryd.prog 82 #[.pointer (some ⟨b, 0, none⟩), .pointer (some ⟨c, 0, none⟩)] .returning w fun e u' w' => (∃ v, e = .returned v) ∧ u' = .returning ∧ w' = w := by
  refine callsDIn_of_wpSIn Tryd.func82 rfl trivial fun c₀ cs hu => ?_
  apply wpSIn_seq
  apply wpSIn_region
  simp [wpOpsSIn, go_sem, recoverD, hu, Tryd.ntmps82, Exit.thenS, Fence.wide]
  apply wpSIn_seq
  apply wpSIn_region
  simp [wpOpsSIn, go_sem, recoverD, hu, Tryd.ntmps82, Exit.thenS, Fence.wide]
  refine wpSIn_cond (t := false) (by simp [Act.eval, Array.replicate]) ?_
  simp only [Bool.false_eq_true, if_false]
  refine wpSIn_of_wpIn rfl (wpIn_skip ?_)
  cases c₀
  simp_all [bodyPostS, results, Tryd.results82]
set_option maxRecDepth 100000 in
theorem flatD_catch (b c : Nat) (n : Int) (x y : Value) (w : World) (h1 : w.cell? ⟨b, 0, none⟩ = some x) (h2 : w.frozen? ⟨b, 0, none⟩ = false) (h3 : w.cell? ⟨c, 0, none⟩ = some y) (h4 : w.frozen? ⟨c, 0, none⟩ = false) (hbc : b ≠ c) :
    CallsDIn Fence.wide 0 Tryd.prog 82 #[.pointer (some ⟨b, 0, none⟩), .pointer (some ⟨c, 0, none⟩)] (.panicking [{ v := .iface 123 (.int .i64 n), recovered := false }]) w fun e u' w' =>
      (∃ v, e = .returned v) ∧ u' = .panicking [{ v := .iface 123 (.int .i64 n), recovered := true }] ∧ w' = (w.setCell ⟨b, 0, none⟩ (.slice none 0 0)).setCell ⟨c, 0, none⟩ (.int .i64 n) := by
  refine callsDIn_of_wpSIn Tryd.func82 rfl trivial fun c₀ cs hu => ?_
  apply wpSIn_seq
  apply wpSIn_region
  simp [wpOpsSIn, go_sem, recoverD, hu, Tryd.ntmps82, Exit.thenS, Fence.wide]
  apply wpSIn_seq
  apply wpSIn_region
  simp [wpOpsSIn, go_sem, recoverD, hu, Tryd.ntmps82, Exit.thenS, Fence.wide]
  refine wpSIn_cond (t := true) (by simp [Act.eval, Array.replicate]) ?_
  simp only [if_true]
  apply wpSIn_seq
  apply wpSIn_region
  simp [wpOpsSIn, go_sem, recoverD, hu, Tryd.ntmps82, Exit.thenS, Fence.wide]
  apply wpSIn_seq
  apply wpSIn_seq
  apply wpSIn_region
  simp [wpOpsSIn, go_sem, recoverD, hu, Tryd.ntmps82, Exit.thenS, Fence.wide]
  refine wpSIn_cond (t := false) (by simp [Act.eval, Array.replicate]) ?_
  simp only [Bool.false_eq_true, if_false]
  refine wpSIn_of_wpIn rfl (wpIn_skip ?_)
  simp only [Exit.thenS]
  apply wpSIn_region
  simp [wpOpsSIn, go_sem, h1, h2, h3, h4, bodyPostS, results, Tryd.results82, hbc]
end Go.Proofs.YtfckkkmacjjmhaaDoor
