/-
  TopNegatives: each plate has the groove of the plate on which it was grown, mirrored; all have the same least radius and are read alike, mirrored or not. No condition.
-/
import Derived.Test.YtjmbpjlojjgggaaGreatDoorX13
set_option maxRecDepth 100000
namespace Go.Proofs.YtjmbpjlojjgggaaGreatDoor
open Go.Ab Go.RowKit Go.Dw Go.Shelf Go.ChangeShapes Go.WideShapes Go.ChangeAt Go.Deep

theorem Av(os:Os)(started:os.Started)(H:Type)(enc:TypeId×Value->H) : ReturnsInHanded {} Tryz.checked os 4 .any (fun w args=>(Rows.topNegativesSpec.pre enc Tryz.prog Tryz.f4 Rows.topNegativesRow.domain false w args/\laidMetH Tryz.prog fV w)/\sizedMet enc Tryz.prog Tryz.f4 (OpenSpec.ofChange Rows.topNegativesSpec) false w args) (Rows.topNegativesSpec.post enc Tryz.prog Tryz.f4 false true false false):=by
 refine returnsInHanded_of_change_and (C:=Tryz.checked) (X:=fun w _=>laidMetH Tryz.prog fV w) (fun _ _ _ hh h=>h.of_heap hh) Tryz.own started kR Tryz.func4 (ChangeSpec.witness_shaped (enc:=enc) (C:=Tryz.checked) (os:=os) (X:=fun w _=>laidMetH Tryz.prog fV w) false (World.laidAll Tryz.prog os fV) #[.agg #[.int .i64 0,.int .i64 0,.int .i64 0,.int .i64 0,.int .i64 0,.int .i64 0,.int .i64 0,.int .i64 0,.int .i64 0,.int .i64 0,.int .i64 0,.int .i64 0,.int .i64 0],.slice none 0 0,.slice none 0 0,.agg #[.int .i64 0,.int .i64 0,.int .i64 0,.int .i64 0,.int .i64 0,.int .i64 0,.int .i64 0],.int .i64 0,.agg #[.slice none 0 0]] 8 (World.laidAll_os _ _ _) (World.shaped_of_ZipB kR kR) kR kR kR (JQ os _)) ?_;intro W base args ds gs before hval0 hW _ hsz0 hL _;have hval:∀(j:Nat) t v,Tryz.f4.params[j]?=some t->args[j]?=some v->Value.okWide Tryz.prog W .any base t v:=hval0;have hsz:(DataW.weightsEach Tryz.prog (Tryz.f4.params.toList++Rows.topNegativesSpec.plain.varTypes Tryz.prog) (ds++gs)).all (· <=reachBytes)=true:=hsz0;have hW':=hW;obtain⟨p,q,hA0,hV,rfl,hfz,hnd⟩:=hW;have hA:DataW.TrodAll enc Tryz.prog W 0 (fun _=>true) true Tryz.f4.params.toList args.toList ds p:=hA0;rw [Tryz.params4]at hA hval hsz;obtain⟨rfl,rfl⟩:=trodVars_none hV;rw [List.append_nil]at hsz;obtain⟨d0,d1,d2,d3,d4,d5,rfl⟩:∃d0 d1 d2 d3 d4 d5,ds=[d0,d1,d2,d3,d4,d5]:=by
  match ds,za hA with
  | [d0,d1,d2,d3,d4,d5],_=>exact⟨_,_,_,_,_,_,rfl⟩
 refine(DM (ss:=yx) (base:=base) J0 kR hA (fun j t v ht hv=>hval j t v (by simpa using ht) hv) hsz (Af hL)).mono ?_;rintro e W' ⟨rfl,hb⟩;exact⟨_,rfl,D6 (tb:=4) rfl hW' Tryz.laidOut kR rfl kR Tryz.underlying4 hb⟩
theorem DX:Rows.TopNegativesSaid:= OpenClaim.holds_of_wide 4 Tryz.f4 rfl rfl rfl rfl rfl rfl rfl ⟨rfl,rfl,rfl,rfl,rfl⟩ rfl rfl rfl rfl rfl kR Tryz.func4 kR
  (of_decide_eq_true kR) (by unfold Func.isWrapper;first | (rw [if_pos (by decide +kernel)];kernel_rfl) | (rw [if_neg (by decide +kernel)];exact⟨rfl,rfl⟩))
  (fun os started H enc _=>Av os started H enc)
theorem neg_card:Rows.TopNegativesCardSaid:=
  Claim7.holds_tied_plain_at .later [] [.data,.pinned] true (true, "d1eb64e8edcb503b2c0873946b129350d354406d6fa271955ea3f5e96019ebf9") false
    DX (fun _ h=>by cases h) kR (fun _ h=>by cases h) topNegatives_row_tie rfl ⟨rfl,rfl⟩ kR rfl
    (fun f fn hf hfn=>by
      obtain rfl:f=4:=Option.some.inj ((show Tryz.prog.funcNamed "deadwax/deadwaxtop.TopNegatives" =some 4 by kernel_rfl).symm.trans hf) |>.symm
      obtain rfl:fn=Tryz.f4:=(Option.some.inj (Tryz.func4.symm.trans hfn)).symm
      exact⟨kR,fun j t ht=>by
        have hm:t∈Tryz.f4.params:=Array.mem_of_getElem? ht
        have hall:(Tryz.f4.params.all fun u=> !Tryz.prog.wantsStandIn u)=true:=by kernel_rfl
        exact(show Tryz.prog.wantsStandIn t=false by simpa using Array.all_eq_true_iff_forall_mem.1 hall t hm)⟩)
    kR
end Go.Proofs.YtjmbpjlojjgggaaGreatDoor
