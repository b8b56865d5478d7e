/-
  TopFewHearings: whoever always listens to the next disc for a flaw that was never mended finds just the discs that bear it, after listening to no more discs than there are. No condition.
-/
import Derived.Test.YtjmbpjlojjgggaaGreatDoorX15
set_option maxRecDepth 100000
namespace Go.Proofs.YtjmbpjlojjgggaaGreatDoor
open Go.Ab Go.RowKit Go.Dw Go.Shelf Go.ChangeShapes Go.WideShapes Go.ChangeAt Go.Deep

theorem zU(os:Os)(started:os.Started)(H:Type)(enc:TypeId×Value->H) : ReturnsInHanded {} Tryz.checked os 9 .any (fun w args=>(Rows.topFewHearingsSpec.pre enc Tryz.prog Tryz.f9 Rows.topFewHearingsRow.domain false w args/\laidMetH Tryz.prog fO w)/\sizedMet enc Tryz.prog Tryz.f9 (OpenSpec.ofChange Rows.topFewHearingsSpec) false w args) (Rows.topFewHearingsSpec.post enc Tryz.prog Tryz.f9 false true false false):=by
 refine returnsInHanded_of_change_and (C:=Tryz.checked) (X:=fun w _=>laidMetH Tryz.prog fO w) (fun _ _ _ hh h=>h.of_heap hh) Tryz.own started kR Tryz.func9 (ChangeSpec.witness_shaped (enc:=enc) (C:=Tryz.checked) (os:=os) (X:=fun w _=>laidMetH Tryz.prog fO w) false (World.laidAll Tryz.prog os fO) #[.agg #[.int .i64 0,.int .i64 0,.int .i64 0,.int .i64 0,.int .i64 0,.int .i64 0,.int .i64 0,.int .i64 0,.int .i64 0,.int .i64 0,.int .i64 0,.int .i64 0,.int .i64 0],.slice none 0 0,.slice none 0 0,.bool false,.int .u8 0] 8 (World.laidAll_os _ _ _) (World.shaped_of_ZipB kR kR) kR kR kR (JZ os _)) ?_;intro W base args ds gs before hval0 hW _ hsz0 hL _;have hval:∀(j:Nat) t v,Tryz.f9.params[j]?=some t->args[j]?=some v->Value.okWide Tryz.prog W .any base t v:=hval0;have hsz:(DataW.weightsEach Tryz.prog (Tryz.f9.params.toList++Rows.topFewHearingsSpec.plain.varTypes Tryz.prog) (ds++gs)).all (· <=reachBytes)=true:=hsz0;have hW':=hW;obtain⟨p,q,hA0,hV,rfl,hfz,hnd⟩:=hW;have hA:DataW.TrodAll enc Tryz.prog W 0 (fun _=>true) true Tryz.f9.params.toList args.toList ds p:=hA0;rw [Tryz.params9]at hA hval hsz;obtain⟨rfl,rfl⟩:=trodVars_none hV;rw [List.append_nil]at hsz;obtain⟨d0,d1,d2,d3,d4,rfl⟩:∃d0 d1 d2 d3 d4,ds=[d0,d1,d2,d3,d4]:=by
  match ds,yF hA with
  | [d0,d1,d2,d3,d4],_=>exact⟨_,_,_,_,_,rfl⟩
 refine(D2 (ss:=kJ) (base:=base) Jz kR hA (fun j t v ht hv=>hval j t v (by simpa using ht) hv) hsz (zW hL)).mono ?_;rintro e W' ⟨rfl,hb⟩;exact⟨_,rfl,Eh (tb:=4) rfl hW' Tryz.laidOut kR rfl kR Tryz.underlying4 hb⟩
theorem DQ:Rows.TopFewHearingsSaid:= OpenClaim.holds_of_wide 9 Tryz.f9 rfl rfl rfl rfl rfl rfl rfl ⟨rfl,rfl,rfl,rfl,rfl⟩ rfl rfl rfl rfl rfl kR Tryz.func9 kR
  (of_decide_eq_true kR) (by unfold Func.isWrapper;first | (rw [if_pos (by decide +kernel)];kernel_rfl) | (rw [if_neg (by decide +kernel)];exact⟨rfl,rfl⟩))
  (fun os started H enc _=>zU os started H enc)
theorem few_card:Rows.TopFewHearingsCardSaid:=
  Claim7.holds_tied_plain_at .later [] [.data,.pinned] true (true, "d1eb64e8edcb503b2c0873946b129350d354406d6fa271955ea3f5e96019ebf9") false
    DQ (fun _ h=>by cases h) kR (fun _ h=>by cases h) topFewHearings_row_tie rfl ⟨rfl,rfl⟩ kR rfl
    (fun f fn hf hfn=>by
      obtain rfl:f=9:=Option.some.inj ((show Tryz.prog.funcNamed "deadwax/deadwaxtop.TopFewHearings" =some 9 by kernel_rfl).symm.trans hf) |>.symm
      obtain rfl:fn=Tryz.f9:=(Option.some.inj (Tryz.func9.symm.trans hfn)).symm
      exact⟨kR,fun j t ht=>by
        have hm:t∈Tryz.f9.params:=Array.mem_of_getElem? ht
        have hall:(Tryz.f9.params.all fun u=> !Tryz.prog.wantsStandIn u)=true:=by kernel_rfl
        exact(show Tryz.prog.wantsStandIn t=false by simpa using Array.all_eq_true_iff_forall_mem.1 hall t hm)⟩)
    kR
end Go.Proofs.YtjmbpjlojjgggaaGreatDoor
