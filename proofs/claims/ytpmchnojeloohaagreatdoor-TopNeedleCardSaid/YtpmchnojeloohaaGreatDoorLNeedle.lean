/-
  TopNeedle: the greatest round tip that reads the groove of a programme exactly reads just its points, and from these the samples of the programme are found again; the next greater one reads something else. No condition.
-/
import Derived.Test.YtpmchnojeloohaaGreatDoorX12
namespace Go.Proofs.YtpmchnojeloohaaGreatDoor
open Go.Ab Go.RowKit Go.Dw Go.Shelf Go.ChangeShapes Go.WideShapes Go.ChangeAt Go.Deep

set_option maxRecDepth 100000 in
theorem needle_lifted (os : Os) (started : os.Started) (H : Type) (enc : TypeId × Value → H) :
    ReturnsInHanded {} Tryz.checked os 4 .any (fun w args => (Rows.topNeedleSpec.pre enc Tryz.prog Tryz.f4 Rows.topNeedleRow.domain false w args ∧ laidMetH Tryz.prog growsLaid w) ∧ sizedMet enc Tryz.prog Tryz.f4 (OpenSpec.ofChange Rows.topNeedleSpec) false w args) (Rows.topNeedleSpec.post enc Tryz.prog Tryz.f4 false true false false) := by
  refine returnsInHanded_of_change_and (C := Tryz.checked) (X := fun w _ => laidMetH Tryz.prog growsLaid w) (fun _ _ _ hh h => h.of_heap hh) Tryz.own started kR Tryz.func4
    (ChangeSpec.witness_shaped (enc := enc) (C := Tryz.checked) (os := os) (X := fun w _ => laidMetH Tryz.prog growsLaid w) false (World.laidAll Tryz.prog os growsLaid) #[.slice none 0 0, .slice none 0 0, .agg #[.int .i64 0, .int .i64 0, .int .i64 0, .int .i64 0, .int .i64 0, .int .i64 0, .int .i64 0], .int .u8 0, .int .u8 0] 8 (World.laidAll_os _ _ _)
      (World.shaped_of_ZipB kR kR) kR kR kR (lay_met os _)) ?_
  intro W base args ds gs before hval0 hW _ hsz0 hL _
  have hval : ∀ (j : Nat) t v, Tryz.f4.params[j]? = some t → args[j]? = some v → Value.okWide Tryz.prog W .any base t v := hval0
  have hsz : (DataW.weightsEach Tryz.prog (Tryz.f4.params.toList ++ Rows.topNeedleSpec.plain.varTypes Tryz.prog) (ds ++ gs)).all (· ≤ reachBytes) = true := hsz0
  have hW' := hW
  obtain ⟨p, q, hA0, hV, rfl, hfz, hnd⟩ := hW
  have hA : DataW.TrodAll enc Tryz.prog W 0 (fun _ => true) true Tryz.f4.params.toList args.toList ds p := hA0
  rw [Tryz.params4] at hA hval hsz
  obtain ⟨rfl, rfl⟩ := trodVars_none hV
  rw [List.append_nil] at hsz
  obtain ⟨d0, d1, d2, d3, d4, rfl⟩ : ∃ d0 d1 d2 d3 d4, ds = [d0, d1, d2, d3, d4] := by
    match ds, trod_len hA with
    | [d0, d1, d2, d3, d4], _ => exact ⟨_, _, _, _, _, rfl⟩
  refine (law_calls (ss := needleSh) (base := base) needle_all kR hA (fun j t v ht hv => hval j t v (by simpa using ht) hv) hsz (gl_of_laid hL)).mono ?_
  rintro e W' ⟨rfl, hb⟩
  exact ⟨_, rfl, post_true (tb := 4) rfl hW' Tryz.laidOut kR rfl kR Tryz.underlying4 hb⟩

theorem needle_holds : Rows.TopNeedleSaid :=
  OpenClaim.holds_of_wide 4 Tryz.f4 rfl rfl rfl rfl rfl rfl rfl ⟨rfl, rfl, rfl, rfl, rfl⟩ rfl rfl rfl rfl rfl kR Tryz.func4 kR
    (of_decide_eq_true kR) (by unfold Func.isWrapper; first | (rw [if_pos (by decide +kernel)]; kernel_rfl) | (rw [if_neg (by decide +kernel)]; exact ⟨rfl, rfl⟩))
    (fun os started H enc _ => needle_lifted os started H enc)

theorem needle_card : Rows.TopNeedleCardSaid :=
  Claim7.holds_tied_plain_at .later [] [.data, .pinned] true (true, "a44e304a1ca43be1c7b4b42f2e4fcec8a6bf628e0e0dc552ce5d4b7fc6eafb20") false
    needle_holds (fun _ h => by cases h) kR (fun _ h => by cases h) topNeedle_row_tie rfl ⟨rfl, rfl⟩ kR rfl
    (fun f fn hf hfn => by
      obtain rfl : f = 4 := Option.some.inj ((show Tryz.prog.funcNamed "deadwax/deadwaxtop.TopNeedle" = some 4 by kernel_rfl).symm.trans hf) |>.symm
      obtain rfl : fn = Tryz.f4 := (Option.some.inj (Tryz.func4.symm.trans hfn)).symm
      exact ⟨kR, fun j t ht => by
        have hm : t ∈ Tryz.f4.params := Array.mem_of_getElem? ht
        have hall : (Tryz.f4.params.all fun u => !Tryz.prog.wantsStandIn u) = true := by kernel_rfl
        exact (show Tryz.prog.wantsStandIn t = false by simpa using Array.all_eq_true_iff_forall_mem.1 hall t hm)⟩)
    kR
end Go.Proofs.YtpmchnojeloohaaGreatDoor
