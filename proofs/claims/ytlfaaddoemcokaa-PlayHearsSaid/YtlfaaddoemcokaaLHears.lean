/-
  PlayHears: wows, and what can be heard, are what the definitions say, or the error. No condition.
-/
import Derived.Test.YtlfaaddoemcokaaWHears
namespace Go.Proofs.Ytlfaaddoemcokaa
open Go.Ab Go.RowKit Go.Dw Go.Shelf Go.ChangeShapes Go.WideShapes Go.ChangeAt Go.Deep

set_option maxRecDepth 100000 in
theorem hears_lifted (os : Os) (started : os.Started) (H : Type) (enc : TypeId × Value → H) :
    ReturnsInHanded {} Try.checked os 14 .any (Rows.playHearsSpec.pre6 enc Try.prog Try.f14 Rows.playHearsRow.domain false) (Rows.playHearsSpec.post enc Try.prog Try.f14 false true false false) := by
  refine returnsInHanded_of_change_sized (C := Try.checked) Try.own started (by kernel_rfl) Try.func14
    (ChangeSpec.witness6 (enc := enc) (C := Try.checked) false ⟨#[], #[.agg #[.slice none 0 0], .agg #[.slice none 0 0], .slice none 0 0, .int .i64 0, .int .i64 0, .int .i64 0, .int .i64 0], []⟩ 8 (by kernel_rfl) (by kernel_rfl) (by kernel_rfl) (by kernel_rfl)) ?_
  intro W base args ds gs before hval0 hW _ hsz0 _
  have hval : ∀ (j : Nat) t v, Try.f14.params[j]? = some t → args[j]? = some v → Value.okWide Try.prog W .any base t v := hval0
  have hsz : (DataW.weightsEach Try.prog (Try.f14.params.toList ++ Rows.playHearsSpec.plain.varTypes Try.prog) (ds ++ gs)).all (· ≤ reachBytes) = true := hsz0
  have hW' := hW
  obtain ⟨p, q, hA0, hV, rfl, hfz, hnd⟩ := hW
  have hA : DataW.TrodAll enc Try.prog W 0 (fun _ => true) true Try.f14.params.toList args.toList ds p := hA0
  rw [Try.params14] at hA hval hsz
  obtain ⟨rfl, rfl⟩ := trodVars_none hV
  obtain ⟨v0, v1, v2, v3, v4, v5, v6, d0, d1, d2, d3, d4, d5, d6, p0, p1, p2, p3, p4, p5, p6, rfl, rfl, h0, h1, h2, h3, h4, h5, h6⟩ := trodAll_seven hA
  obtain ⟨A0, n0, c0, l0, rfl, g0, e0, i0, b0⟩ := openBoxed Try.underlying24 rfl (by kernel_rfl) (by kernel_rfl) Try.underlying22 Try.underlying2 (by kernel_rfl) (of_decide_eq_true (by kernel_rfl)) (hval 0 _ _ rfl rfl) h0 (weights_at hsz (j := 0) rfl rfl)
  obtain ⟨A1, n1, c1, l1, rfl, g1, e1, i1, b1⟩ := openBoxed Try.underlying24 rfl (by kernel_rfl) (by kernel_rfl) Try.underlying22 Try.underlying2 (by kernel_rfl) (of_decide_eq_true (by kernel_rfl)) (hval 1 _ _ rfl rfl) h1 (weights_at hsz (j := 1) rfl rfl)
  obtain ⟨A2, n2, c2, l2, rfl, g2, e2, i2, b2⟩ := openPairs Try.underlying25 Try.underlying29 (by kernel_rfl) rfl rfl (by kernel_rfl) (by kernel_rfl) Try.underlying2 Try.underlying2 (of_decide_eq_true (by kernel_rfl)) (hval 2 _ _ rfl rfl) h2 (weights_at hsz (j := 2) rfl rfl)
  obtain ⟨x3, rfl, b3⟩ := openOne Try.underlying2 (hval 3 _ _ rfl rfl) h3
  obtain ⟨x4, rfl, b4⟩ := openOne Try.underlying2 (hval 4 _ _ rfl rfl) h4
  obtain ⟨x5, rfl, b5⟩ := openOne Try.underlying2 (hval 5 _ _ rfl rfl) h5
  obtain ⟨x6, rfl, b6⟩ := openOne Try.underlying2 (hval 6 _ _ rfl rfl) h6
  refine (hears_calls A0 n0 c0 l0 A1 n1 c1 l1 A2 n2 c2 l2 x3 x4 x5 x6 W i0 (reach_le (Nat.le_trans g0 e0)) g0 i1 (reach_le (Nat.le_trans g1 e1)) g1 i2 (reach_le (Nat.le_trans g2 e2)) g2 (wf_i64 b3) (wf_i64 b4) (wf_i64 b5) (wf_i64 b6)).mono ?_
  rintro e W' ⟨rfl, hb⟩
  exact ⟨_, rfl, post_true (tb := 4) rfl hW' Try.laidOut (by kernel_rfl) rfl (by kernel_rfl) Try.underlying4 hb⟩

theorem hears_holds : Rows.PlayHearsSaid :=
  OpenClaim.holds_of_wide 14 Try.f14 rfl rfl rfl rfl rfl rfl rfl ⟨rfl, rfl, rfl, rfl, rfl⟩ rfl rfl rfl rfl rfl (by kernel_rfl) Try.func14 (by kernel_rfl)
    (of_decide_eq_true (by kernel_rfl)) (by unfold Func.isWrapper; first | (rw [if_pos (by decide +kernel)]; kernel_rfl) | (rw [if_neg (by decide +kernel)]; exact ⟨rfl, rfl⟩))
    (fun os started H enc _ => hears_lifted os started H enc)
end Go.Proofs.Ytlfaaddoemcokaa
