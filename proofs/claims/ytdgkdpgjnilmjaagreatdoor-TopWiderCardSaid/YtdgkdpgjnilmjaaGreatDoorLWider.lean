/-
  TopWider: the greater the ring of a format that is cut, the longer a plate of it has to stay in the same bath with the same currents, or as long. No condition.
-/
import Derived.Test.YtdgkdpgjnilmjaaGreatDoorX13
set_option maxRecDepth 100000
namespace Go.Proofs.YtdgkdpgjnilmjaaGreatDoor
open Go.Ab Go.RowKit Go.Dw Go.Shelf Go.ChangeShapes Go.WideShapes Go.ChangeAt Go.Deep

theorem r7(os:Os)(started:os.Started)(H:Type)(enc:TypeId×Value->H) : ReturnsInHanded {} Tryz.checked os 3 .any (fun w args=>(Rows.topWiderSpec.pre enc Tryz.prog Tryz.f3 Rows.topWiderRow.domain false w args/\laidMetH Tryz.prog dw w)/\sizedMet enc Tryz.prog Tryz.f3 (OpenSpec.ofChange Rows.topWiderSpec) false w args) (Rows.topWiderSpec.post enc Tryz.prog Tryz.f3 false true false false):=by
 refine returnsInHanded_of_change_and (C:=Tryz.checked) (X:=fun w _=>laidMetH Tryz.prog dw w) (fun _ _ _ hh h=>h.of_heap hh) Tryz.own started kR Tryz.func3 (ChangeSpec.witness_shaped (enc:=enc) (C:=Tryz.checked) (os:=os) (X:=fun w _=>laidMetH Tryz.prog dw w) false (World.laidAll Tryz.prog os dw) #[.agg #[.int .i64 0,.int .i64 0,.int .i64 0,.int .i64 0,.int .i64 0,.int .i64 0,.int .i64 0,.int .i64 0,.int .i64 0,.int .i64 0,.int .i64 0,.int .i64 0,.int .i64 0],.int .u16 0,.agg #[.int .u16 0,.int .u16 0],.int .u16 0] 8 (World.laidAll_os _ _ _) (World.shaped_of_ZipB kR kR) kR kR kR (C8 os _)) ?_;intro W base args ds gs before hval0 hW _ hsz0 hL _;have hval:∀(j:Nat) t v,Tryz.f3.params[j]?=some t->args[j]?=some v->Value.okWide Tryz.prog W .any base t v:=hval0;have hsz:(DataW.weightsEach Tryz.prog (Tryz.f3.params.toList++Rows.topWiderSpec.plain.varTypes Tryz.prog) (ds++gs)).all (· <=reachBytes)=true:=hsz0;have hW':=hW;obtain⟨p,q,hA0,hV,rfl,hfz,hnd⟩:=hW;have hA:DataW.TrodAll enc Tryz.prog W 0 (fun _=>true) true Tryz.f3.params.toList args.toList ds p:=hA0;rw [Tryz.params3]at hA hval hsz;obtain⟨rfl,rfl⟩:=trodVars_none hV;rw [List.append_nil]at hsz;obtain⟨d0,d1,d2,d3,rfl⟩:∃d0 d1 d2 d3,ds=[d0,d1,d2,d3]:=by
  match ds,ud hA with
  | [d0,d1,d2,d3],_=>exact⟨_,_,_,_,rfl⟩
 refine(yz (ss:=ld) (base:=base) za kR hA (fun j t v ht hv=>hval j t v (by simpa using ht) hv) hsz (vj hL)).mono ?_;rintro e W' ⟨rfl,hb⟩;exact⟨_,rfl,yN (tb:=4) rfl hW' Tryz.laidOut kR rfl kR Tryz.underlying4 hb⟩
theorem uk:Rows.TopWiderSaid:= OpenClaim.holds_of_wide 3 Tryz.f3 rfl rfl rfl rfl rfl rfl rfl ⟨rfl,rfl,rfl,rfl,rfl⟩ rfl rfl rfl rfl rfl kR Tryz.func3 kR
  (of_decide_eq_true kR) (by unfold Func.isWrapper;first | (rw [if_pos (by decide +kernel)];kernel_rfl) | (rw [if_neg (by decide +kernel)];exact⟨rfl,rfl⟩))
  (fun os started H enc _=>r7 os started H enc)
theorem wider_card:Rows.TopWiderCardSaid:=
  Claim7.holds_tied_plain_at .later [] [.data,.data,.pinned] true (true, "566349cb0091b0a8a69e08e617ecc93f49bce65fb0903b102fb281a28712cf35") false
    uk (fun _ h=>by cases h) kR (fun _ h=>by cases h) topWider_row_tie rfl ⟨rfl,rfl⟩ kR rfl
    (fun f fn hf hfn=>by
      obtain rfl:f=3:=Option.some.inj ((show Tryz.prog.funcNamed "deadwax/deadwaxtop.TopWider" =some 3 by kernel_rfl).symm.trans hf) |>.symm
      obtain rfl:fn=Tryz.f3:=(Option.some.inj (Tryz.func3.symm.trans hfn)).symm
      exact⟨kR,fun j t ht=>by
        have hm:t∈Tryz.f3.params:=Array.mem_of_getElem? ht
        have hall:(Tryz.f3.params.all fun u=> !Tryz.prog.wantsStandIn u)=true:=by kernel_rfl
        exact(show Tryz.prog.wantsStandIn t=false by simpa using Array.all_eq_true_iff_forall_mem.1 hall t hm)⟩)
    kR
end Go.Proofs.YtdgkdpgjnilmjaaGreatDoor
