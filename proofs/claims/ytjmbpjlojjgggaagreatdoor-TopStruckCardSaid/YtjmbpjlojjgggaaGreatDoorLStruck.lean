/-
  TopStruck: no bath gives more metal than it had, and each father is as thick as told; the one with the widest groove, of those that are grown alike, is the thinnest. No condition.
-/
import Derived.Test.YtjmbpjlojjgggaaGreatDoorX11
import Derived.Test.YtjmbpjlojjgggaaGreatDoorTGl
namespace Go.Proofs.YtjmbpjlojjgggaaGreatDoor
open Go.Ab Go.RowKit Go.Dw Go.Shelf Go.ChangeShapes Go.WideShapes Go.ChangeAt Go.Deep

set_option maxRecDepth 100000 in
theorem struck_lifted(os:Os)(started:os.Started)(H:Type)(enc:TypeId×Value→H) :
    ReturnsInHanded {} Tryz.checked os 3 .any (fun w args=>(Rows.topStruckSpec.pre enc Tryz.prog Tryz.f3 Rows.topStruckRow.domain false w args∧laidMetH Tryz.prog growsLaid w)∧sizedMet enc Tryz.prog Tryz.f3 (OpenSpec.ofChange Rows.topStruckSpec) false w args) (Rows.topStruckSpec.post enc Tryz.prog Tryz.f3 false true false false):=by
  refine returnsInHanded_of_change_and (C:=Tryz.checked) (X:=fun w _=>laidMetH Tryz.prog growsLaid w) (fun _ _ _ hh h=>h.of_heap hh) Tryz.own started kR Tryz.func3
    (ChangeSpec.witness_shaped (enc:=enc) (C:=Tryz.checked) (os:=os) (X:=fun w _=>laidMetH Tryz.prog growsLaid w) false (World.laidAll Tryz.prog os growsLaid) #[.agg #[.int .i64 0,.int .i64 0,.int .i64 0,.int .i64 0,.int .i64 0,.int .i64 0,.int .i64 0],.slice none 0 0,.int .u32 0,.int .u16 0,.int .u16 0,.int .u16 0] 8 (World.laidAll_os _ _ _)
      (World.shaped_of_ZipB kR kR) kR kR kR (lay_met os _)) ?_
  intro W base args ds gs before hval0 hW _ hsz0 hL _
  have hval:∀(j:Nat) t v,Tryz.f3.params[j]?=some t→args[j]?=some v→Value.okWide Tryz.prog W .any base t v:=hval0
  have hsz:(DataW.weightsEach Tryz.prog (Tryz.f3.params.toList++Rows.topStruckSpec.plain.varTypes Tryz.prog) (ds++gs)).all (· ≤reachBytes)=true:=hsz0
  have hW':=hW
  obtain⟨p,q,hA0,hV,rfl,hfz,hnd⟩:=hW
  have hA:DataW.TrodAll enc Tryz.prog W 0 (fun _=>true) true Tryz.f3.params.toList args.toList ds p:=hA0
  rw [Tryz.params3]at hA hval hsz
  obtain⟨rfl,rfl⟩:=trodVars_none hV
  rw [List.append_nil]at hsz
  obtain⟨d0,d1,d2,d3,d4,d5,rfl⟩:∃d0 d1 d2 d3 d4 d5,ds=[d0,d1,d2,d3,d4,d5]:=by
    match ds,trod_len hA with
    | [d0,d1,d2,d3,d4,d5],_=>exact⟨_,_,_,_,_,_,rfl⟩
  refine(law_calls (ss:=struckSh) (base:=base) struck_all kR hA (fun j t v ht hv=>hval j t v (by simpa using ht) hv) hsz (gl_of_laid hL)).mono ?_
  rintro e W' ⟨rfl,hb⟩
  exact⟨_,rfl,post_true (tb:=4) rfl hW' Tryz.laidOut kR rfl kR Tryz.underlying4 hb⟩

theorem struck_holds:Rows.TopStruckSaid:=
  OpenClaim.holds_of_wide 3 Tryz.f3 rfl rfl rfl rfl rfl rfl rfl ⟨rfl,rfl,rfl,rfl,rfl⟩ rfl rfl rfl rfl rfl kR Tryz.func3 kR
    (of_decide_eq_true kR) (by unfold Func.isWrapper;first | (rw [if_pos (by decide +kernel)];kernel_rfl) | (rw [if_neg (by decide +kernel)];exact⟨rfl,rfl⟩))
    (fun os started H enc _=>struck_lifted os started H enc)

theorem struck_card:Rows.TopStruckCardSaid:=
  Claim7.holds_tied_plain_at .later [] [.data,.pinned] true (true, "d1eb64e8edcb503b2c0873946b129350d354406d6fa271955ea3f5e96019ebf9") false
    struck_holds (fun _ h=>by cases h) kR (fun _ h=>by cases h) topStruck_row_tie rfl ⟨rfl,rfl⟩ kR rfl
    (fun f fn hf hfn=>by
      obtain rfl:f=3:=Option.some.inj ((show Tryz.prog.funcNamed "deadwax/deadwaxtop.TopStruck" =some 3 by kernel_rfl).symm.trans hf) |>.symm
      obtain rfl:fn=Tryz.f3:=(Option.some.inj (Tryz.func3.symm.trans hfn)).symm
      exact⟨kR,fun j t ht=>by
        have hm:t∈Tryz.f3.params:=Array.mem_of_getElem? ht
        have hall:(Tryz.f3.params.all fun u=> !Tryz.prog.wantsStandIn u)=true:=by kernel_rfl
        exact(show Tryz.prog.wantsStandIn t=false by simpa using Array.all_eq_true_iff_forall_mem.1 hall t hm)⟩)
    kR
end Go.Proofs.YtjmbpjlojjgggaaGreatDoor
