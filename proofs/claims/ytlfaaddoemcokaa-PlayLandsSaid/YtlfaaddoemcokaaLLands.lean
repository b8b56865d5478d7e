/-
  PlayLands: a tip that is dropped between the edges of a sample lands there. No condition.
-/
import Derived.Test.YtlfaaddoemcokaaWLands
namespace Go.Proofs.Ytlfaaddoemcokaa
open Go.Ab Go.RowKit Go.Dw Go.Shelf Go.ChangeShapes Go.WideShapes Go.ChangeAt Go.Deep
set_option maxRecDepth 100000 in
theorem lands_lifted (os : Os) (started : os.Started) (H : Type) (enc : TypeId × Value → H) :
    ReturnsInHanded {} Try.checked os 9 .any (Rows.playLandsSpec.pre6 enc Try.prog Try.f9 Rows.playLandsRow.domain false) (Rows.playLandsSpec.post enc Try.prog Try.f9 false true false false) := by
  refine returnsInHanded_of_change_sized (C := Try.checked) Try.own started (by kernel_rfl) Try.func9
    (ChangeSpec.witness6 (enc := enc) (C := Try.checked) false ⟨#[], #[.slice none 0 0, .int .u8 0, .slice none 0 0, .int .u8 0, .int .u16 0, .int .u8 0], []⟩ 8 (by kernel_rfl) (by kernel_rfl) (by kernel_rfl) (by kernel_rfl)) ?_
  intro W base args ds gs before hval0 hW _ hsz0 _
  have hval : ∀ (j : Nat) t v, Try.f9.params[j]? = some t → args[j]? = some v → Value.okWide Try.prog W .any base t v := hval0
  have hsz : (DataW.weightsEach Try.prog (Try.f9.params.toList ++ Rows.playLandsSpec.plain.varTypes Try.prog) (ds ++ gs)).all (· ≤ reachBytes) = true := hsz0
  have hW' := hW
  obtain ⟨p, q, hA0, hV, rfl, hfz, hnd⟩ := hW
  have hA : DataW.TrodAll enc Try.prog W 0 (fun _ => true) true Try.f9.params.toList args.toList ds p := hA0
  rw [Try.params9] at hA hval hsz
  obtain ⟨rfl, rfl⟩ := trodVars_none hV
  obtain ⟨v0, v1, v2, v3, v4, v5, d0, d1, d2, d3, d4, d5, p0, p1, p2, p3, p4, p5, rfl, rfl, h0, h1, h2, h3, h4, h5⟩ := trodAll_six hA
  obtain ⟨A0, n0, c0, l0, rfl, g0, e0, i0, b0⟩ := openPairs Try.underlying25 Try.underlying29 (by kernel_rfl) rfl rfl (by kernel_rfl) (by kernel_rfl) Try.underlying2 Try.underlying2 (of_decide_eq_true (by kernel_rfl)) (hval 0 _ _ rfl rfl) h0 (weights_at hsz (j := 0) rfl rfl)
  obtain ⟨x1, rfl, b1⟩ := openOne Try.underlying5 (hval 1 _ _ rfl rfl) h1
  obtain ⟨A2, n2, c2, l2, rfl, g2, e2, i2, b2⟩ := openInts Try.underlying39 Try.underlying5 (by kernel_rfl) (of_decide_eq_true (by kernel_rfl)) (hval 2 _ _ rfl rfl) h2 (weights_at hsz (j := 2) rfl rfl)
  obtain ⟨x3, rfl, b3⟩ := openOne Try.underlying5 (hval 3 _ _ rfl rfl) h3
  obtain ⟨x4, rfl, b4⟩ := openOne Try.underlying44 (hval 4 _ _ rfl rfl) h4
  obtain ⟨x5, rfl, b5⟩ := openOne Try.underlying5 (hval 5 _ _ rfl rfl) h5
  refine (lands_calls A0 n0 c0 l0 x1 A2 n2 c2 l2 x3 x4 x5 W i0 (reach_le (Nat.le_trans g0 e0)) g0 (wf_u8 b1) i2 (reach_le (Nat.le_trans g2 e2)) g2 (fun x hx => wf_u8 (b2 x hx)) (wf_u8 b3) (wf_u16 b4) (wf_u8 b5)).mono ?_
  rintro e W' ⟨rfl, hb⟩
  exact ⟨_, rfl, post_true (tb := 4) rfl hW' Try.laidOut (by kernel_rfl) rfl (by kernel_rfl) Try.underlying4 hb⟩

theorem lands_holds : Rows.PlayLandsSaid :=
  OpenClaim.holds_of_wide 9 Try.f9 rfl rfl rfl rfl rfl rfl rfl ⟨rfl, rfl, rfl, rfl, rfl⟩ rfl rfl rfl rfl rfl (by kernel_rfl) Try.func9 (by kernel_rfl)
    (of_decide_eq_true (by kernel_rfl)) (by unfold Func.isWrapper; first | (rw [if_pos (by decide +kernel)]; kernel_rfl) | (rw [if_neg (by decide +kernel)]; exact ⟨rfl, rfl⟩))
    (fun os started H enc _ => lands_lifted os started H enc)
end Go.Proofs.Ytlfaaddoemcokaa
