/-
  TopScratch: a flaw that is made on a plate, where the groove is, is at the sample at which a tip that is dropped there lands; what narrows the groove at this sample is heard only as far as the tip reaches, on all plates that bear the flaw. No condition.
-/
import Derived.Test.YtjmbpjlojjgggaaGreatDoorX15
set_option maxRecDepth 100000
namespace Go.Proofs.YtjmbpjlojjgggaaGreatDoor
open Go.Ab Go.RowKit Go.Dw Go.Shelf Go.ChangeShapes Go.WideShapes Go.ChangeAt Go.Deep

theorem sL(os:Os)(started:os.Started)(H:Type)(enc:TypeId×Value->H) : ReturnsInHanded {} Tryz.checked os 5 .any (fun w args=>(Rows.topScratchSpec.pre enc Tryz.prog Tryz.f5 Rows.topScratchRow.domain false w args/\laidMetH Tryz.prog fM w)/\sizedMet enc Tryz.prog Tryz.f5 (OpenSpec.ofChange Rows.topScratchSpec) false w args) (Rows.topScratchSpec.post enc Tryz.prog Tryz.f5 false true false false):=by
 refine returnsInHanded_of_change_and (C:=Tryz.checked) (X:=fun w _=>laidMetH Tryz.prog fM w) (fun _ _ _ hh h=>h.of_heap hh) Tryz.own started kR Tryz.func5 (ChangeSpec.witness_shaped (enc:=enc) (C:=Tryz.checked) (os:=os) (X:=fun w _=>laidMetH Tryz.prog fM w) false (World.laidAll Tryz.prog os fM) #[.agg #[.int .i64 0,.int .i64 0,.int .i64 0,.int .i64 0,.int .i64 0,.int .i64 0,.int .i64 0,.int .i64 0,.int .i64 0,.int .i64 0,.int .i64 0,.int .i64 0,.int .i64 0],.slice none 0 0,.slice none 0 0,.agg #[.int .i64 0,.int .i64 0,.int .i64 0,.int .i64 0,.int .i64 0,.int .i64 0,.int .i64 0],.agg #[.int .i64 0,.int .i64 0,.int .i64 0,.int .i64 0,.int .i64 0,.int .i64 0],.agg #[.slice none 0 0],.int .u8 0,.int .u8 0,.agg #[.int .u8 0,.int .u8 0]] 8 (World.laidAll_os _ _ _) (World.shaped_of_ZipB kR kR) kR kR kR (Jv os _)) ?_;intro W base args ds gs before hval0 hW _ hsz0 hL _;have hval:∀(j:Nat) t v,Tryz.f5.params[j]?=some t->args[j]?=some v->Value.okWide Tryz.prog W .any base t v:=hval0;have hsz:(DataW.weightsEach Tryz.prog (Tryz.f5.params.toList++Rows.topScratchSpec.plain.varTypes Tryz.prog) (ds++gs)).all (· <=reachBytes)=true:=hsz0;have hW':=hW;obtain⟨p,q,hA0,hV,rfl,hfz,hnd⟩:=hW;have hA:DataW.TrodAll enc Tryz.prog W 0 (fun _=>true) true Tryz.f5.params.toList args.toList ds p:=hA0;rw [Tryz.params5]at hA hval hsz;obtain⟨rfl,rfl⟩:=trodVars_none hV;rw [List.append_nil]at hsz;obtain⟨d0,d1,d2,d3,d4,d5,d6,d7,d8,rfl⟩:∃d0 d1 d2 d3 d4 d5 d6 d7 d8,ds=[d0,d1,d2,d3,d4,d5,d6,d7,d8]:=by
  match ds,zc hA with
  | [d0,d1,d2,d3,d4,d5,d6,d7,d8],_=>exact⟨_,_,_,_,_,_,_,_,_,rfl⟩
 refine(DN (ss:=jv) (base:=base) yX kR hA (fun j t v ht hv=>hval j t v (by simpa using ht) hv) hsz (Ak hL)).mono ?_;rintro e W' ⟨rfl,hb⟩;exact⟨_,rfl,D2 (tb:=4) rfl hW' Tryz.laidOut kR rfl kR Tryz.underlying4 hb⟩
theorem tY:Rows.TopScratchSaid:= OpenClaim.holds_of_wide 5 Tryz.f5 rfl rfl rfl rfl rfl rfl rfl ⟨rfl,rfl,rfl,rfl,rfl⟩ rfl rfl rfl rfl rfl kR Tryz.func5 kR
  (of_decide_eq_true kR) (by unfold Func.isWrapper;first | (rw [if_pos (by decide +kernel)];kernel_rfl) | (rw [if_neg (by decide +kernel)];exact⟨rfl,rfl⟩))
  (fun os started H enc _=>sL os started H enc)
theorem scratch_card:Rows.TopScratchCardSaid:=
  Claim7.holds_tied_plain_at .later [] [.data,.pinned] true (true, "d1eb64e8edcb503b2c0873946b129350d354406d6fa271955ea3f5e96019ebf9") false
    tY (fun _ h=>by cases h) kR (fun _ h=>by cases h) topScratch_row_tie rfl ⟨rfl,rfl⟩ kR rfl
    (fun f fn hf hfn=>by
      obtain rfl:f=5:=Option.some.inj ((show Tryz.prog.funcNamed "deadwax/deadwaxtop.TopScratch" =some 5 by kernel_rfl).symm.trans hf) |>.symm
      obtain rfl:fn=Tryz.f5:=(Option.some.inj (Tryz.func5.symm.trans hfn)).symm
      exact⟨kR,fun j t ht=>by
        have hm:t∈Tryz.f5.params:=Array.mem_of_getElem? ht
        have hall:(Tryz.f5.params.all fun u=> !Tryz.prog.wantsStandIn u)=true:=by kernel_rfl
        exact(show Tryz.prog.wantsStandIn t=false by simpa using Array.all_eq_true_iff_forall_mem.1 hall t hm)⟩)
    kR
end Go.Proofs.YtjmbpjlojjgggaaGreatDoor
