/-
  Several texts in one: Which cutters are valid: the walks of both copies. No condition. .. Plating shops: a plate is added; lacquers, baths. Walks. Conditions: told in each theorem.
-/
import Derived.Test.YtjmbpjlojjgggaaGreatDoorAbs42
import Derived.Test.YtjmbpjlojjgggaaGreatDoorX00
import Derived.Test.YtjmbpjlojjgggaaGreatDoorMC
import Derived.Test.YtjmbpjlojjgggaaGreatDoorMD
import Derived.Test.YtjmbpjlojjgggaaGreatDoorX01
import Derived.Test.YtjmbpjlojjgggaaGreatDoorX02
namespace Go.Proofs.YtjmbpjlojjgggaaGreatDoor
open Go.Ab Go.RowKit Go.Dw Go.Shelf
def betB(x lo hi:Int):Bool:=decide (lo≤x) && decide (x≤hi)
set_option maxRecDepth 100000 in
theorem between_ac(x lo hi:Int):AC Tryz.prog 108 [.i x,.i lo,.i hi] (.b (betB x lo hi)) []:=by
 refine acI hTT hMX Tryz.func108 Tryz.ntmps108 fun C hC hF=> ?_
 refine sK fun K hK=>wR 2 ?_;refine aY hTT 1 [] ?_;refine nK hK ?_;clear hK K;refine sK fun K hK=>wR 3 ?_;refine aY hTT 9 [] ?_;refine nK hK ?_;clear hK K
 refine aw_ret ?_
 refine rP (V.b (decide (lo≤x) && decide (x≤hi)))
set_option maxRecDepth 100000 in
theorem within3_ac(x lo hi:Int):AC Tryz.prog 46 [.i x,.i lo,.i hi] (.b (betB x lo hi)) []:=by
 refine acI hTT hMX Tryz.func46 Tryz.ntmps46 fun C hC hF=> ?_
 refine sK fun K hK=>wR 2 ?_;refine aY hTT 1 [] ?_;refine nK hK ?_;clear hK K;refine sK fun K hK=>wR 3 ?_;refine aY hTT 9 [] ?_;refine nK hK ?_;clear hK K
 refine aw_ret ?_
 refine rP (V.b (decide (lo≤x) && decide (x≤hi)))
structure Cut where
 half:Int
 gain:Int
 thin:Int
 wide:Int
 slope:Int
 jerk:Int
 sty:Int
def Cut.v(c:Cut):V:= .agg [.i c.half,.i c.gain,.i c.thin,.i c.wide,.i c.slope,.i c.jerk,.i c.sty]
def bnd(c:Cut):Nat→Int×Int×Int
 |0=>(c.half,1,4096)
 |1=>(c.gain,0,100000)
 |2=>(c.thin,0,c.wide)
 |3=>(c.wide,0,1048576)
 |4=>(c.slope,0,10000)
 |5=>(c.jerk,0,1048576)
 |_=>(c.sty,0,1024)
def bndB(c:Cut)(j:Nat):Bool:=betB (bnd c j).1 (bnd c j).2.1 (bnd c j).2.2
def cutE(c:Cut):Int:=if(List.range 7).all (bndB c)then 0 else 2
theorem cutE_bad{c:Cut}{j:Nat}(hj:j< 7)(h:bndB c j=false):cutE c=2:=by
 rw [cutE,if_neg]
 simp only [Bool.not_eq_true,List.all_eq_false]
 exact⟨j,by simpa using hj,by simp [h]⟩
theorem cutE_good{c:Cut}(h:∀j,j< 7→bndB c j=true):cutE c=0:=by
 rw [cutE,if_pos]
 rw [List.all_eq_true]
 exact fun j hj=>h j (by simpa using hj)
theorem cutE_cases(c:Cut):cutE c=0∨cutE c=2:=by unfold cutE;split <;> simp
theorem cutE_ok{c:Cut}:cutE c=0↔(1≤c.half∧c.half≤4096)∧(0≤c.gain∧c.gain≤100000)∧(0≤c.thin∧c.thin≤c.wide)∧(0≤c.wide∧c.wide≤1048576)∧(0≤c.slope∧c.slope≤10000)∧(0≤c.jerk∧c.jerk≤1048576)∧(0≤c.sty∧c.sty≤1024):=by
 unfold cutE
 simp [List.range_succ,bndB,bnd,betB]
 omega
set_option maxRecDepth 100000 in
theorem cutCheck_ac(c:Cut):AC Tryz.prog 57 [c.v] (.i (cutE c)) []:=by
 refine acI hTT hMX Tryz.func57 Tryz.ntmps57 fun C hC hF=> ?_
 refine sK fun K hK=>wR 2 ?_;refine aY hTT 2 [] ?_;refine nK hK ?_;clear hK K;refine sK fun K hK=>sK fun K hK=>wR 3 ?_;refine aY hTT 25 [] ?_;refine nK hK ?_;clear hK K
 refine aw_block ?_
 refine w_loop (fun k:Nat=>[(28,.agg [.i c.half,.i 1,.i 4096,.i c.gain,.i 0,.i 100000,.i c.thin,.i 0,.i c.wide,.i c.wide,.i 0,.i 1048576,.i c.slope,.i 0,.i 10000,.i c.jerk,.i 0,.i 1048576,.i c.sty,.i 0,.i 1024]),(29,.i k)]) (fun _=>[])
  (fun k=>k≤7∧∀j,j< k→bndB c j=true) (fun k=>7- k) 0 ⟨by decide,fun j hj=>by omega⟩ ?_ ?_
 ·
  refine le_ren [] (.cons kR (.cons kR .nil)) .nil kR kR
 rintro k ⟨hk,hb⟩
 have h7:k=0∨k=1∨k=2∨k=3∨k=4∨k=5∨k=6∨k=7:=by omega
 rcases h7 with rfl |rfl |rfl |rfl |rfl |rfl |rfl |rfl
 ·
  refine sK fun K hK=> ?_
  refine wR 2 ?_;refine aY hTT 1 [] ?_;refine nK hK ?_;clear hK K;refine sK fun K hK=>w_true (t:=true) kR rfl ?_
  refine aw_skip ?_
  refine xt_n (hK _ ?_);clear hK K;refine sK fun K hK=> ?_
  refine aw_block ?_
  refine sK fun K hK=>wR 3 ?_;refine aY hTT 3 [(0,.d),(1,.c ((0:Nat)+(3:Nat)≤(3:Nat)) oM)] ?_;refine nK hK ?_;clear hK K;refine sK fun K hK=>wR 4 ?_;refine aY hTT 6 [(0,.d),(0,.c ((0:Nat)≤(3:Nat)) oM),(0,.d),(0,.c ((1:Nat)≤(3:Nat)) oM),(0,.d),(0,.c ((2:Nat)≤(3:Nat)) oM)] ?_
  refine eC (between_ac (bnd c 0).1 (bnd c 0).2.1 (bnd c 0).2.2) ?_
  refine aY hTT 1 [] ?_;refine nK hK ?_;clear hK K
  refine w_cond (t:= !betB (Prod.fst (bnd c (0:Nat))) (Prod.fst (Prod.snd (bnd c (0:Nat)))) (Prod.snd (Prod.snd (bnd c (0:Nat))))) kR (fun h2=> ?_) (fun h2=> ?_)
  ·
   refine sK fun K hK=> ?_
   refine wR 5 ?_;refine aY hTT 1 [] ?_;refine nK hK ?_;clear hK K
   refine aw_ret ?_
   refine xb_r ?_
   refine xt_r (xt_r ?_)
   refine xb_r ?_
   refine xt_r ?_
   rw [cutE_bad (j:=0) (by decide) (by simpa [bndB]using h2)]
   refine rP (V.i 2)
  refine aw_skip ?_
  refine xb_n (xt_n (hK _ ?_));clear hK K;refine wR 5 ?_;refine aY hTT 2 [(0,.d)] ?_;refine aops_nil (xt_n ?_)
  refine⟨1,⟨by decide,fun i hi=> ?_⟩,?_,by decide⟩
  ·
   by_cases he:i=0
   ·
    subst he;simpa [bndB]using h2
   ·
    exact hb i oM
  ·
   refine le_ren [] (.cons kR (.cons kR .nil)) .nil kR kR
 ·
  refine sK fun K hK=> ?_
  refine wR 2 ?_;refine aY hTT 1 [] ?_;refine nK hK ?_;clear hK K;refine sK fun K hK=>w_true (t:=true) kR rfl ?_
  refine aw_skip ?_
  refine xt_n (hK _ ?_);clear hK K;refine sK fun K hK=> ?_
  refine aw_block ?_
  refine sK fun K hK=>wR 3 ?_;refine aY hTT 3 [(0,.d),(1,.c ((0:Nat)+(3:Nat)≤(3:Nat)) oM)] ?_;refine nK hK ?_;clear hK K;refine sK fun K hK=>wR 4 ?_;refine aY hTT 6 [(0,.d),(0,.c ((0:Nat)≤(3:Nat)) oM),(0,.d),(0,.c ((1:Nat)≤(3:Nat)) oM),(0,.d),(0,.c ((2:Nat)≤(3:Nat)) oM)] ?_
  refine eC (between_ac (bnd c 1).1 (bnd c 1).2.1 (bnd c 1).2.2) ?_
  refine aY hTT 1 [] ?_;refine nK hK ?_;clear hK K
  refine w_cond (t:= !betB (Prod.fst (bnd c (1:Nat))) (Prod.fst (Prod.snd (bnd c (1:Nat)))) (Prod.snd (Prod.snd (bnd c (1:Nat))))) kR (fun h2=> ?_) (fun h2=> ?_)
  ·
   refine sK fun K hK=> ?_
   refine wR 5 ?_;refine aY hTT 1 [] ?_;refine nK hK ?_;clear hK K
   refine aw_ret ?_
   refine xb_r ?_
   refine xt_r (xt_r ?_)
   refine xb_r ?_
   refine xt_r ?_
   rw [cutE_bad (j:=1) (by decide) (by simpa [bndB]using h2)]
   refine rP (V.i 2)
  refine aw_skip ?_
  refine xb_n (xt_n (hK _ ?_));clear hK K;refine wR 5 ?_;refine aY hTT 2 [(0,.d)] ?_;refine aops_nil (xt_n ?_)
  refine⟨2,⟨by decide,fun i hi=> ?_⟩,?_,by decide⟩
  ·
   by_cases he:i=1
   ·
    subst he;simpa [bndB]using h2
   ·
    exact hb i oM
  ·
   refine le_ren [] (.cons kR (.cons kR .nil)) .nil kR kR
 ·
  refine sK fun K hK=> ?_
  refine wR 2 ?_;refine aY hTT 1 [] ?_;refine nK hK ?_;clear hK K;refine sK fun K hK=>w_true (t:=true) kR rfl ?_
  refine aw_skip ?_
  refine xt_n (hK _ ?_);clear hK K;refine sK fun K hK=> ?_
  refine aw_block ?_
  refine sK fun K hK=>wR 3 ?_;refine aY hTT 3 [(0,.d),(1,.c ((0:Nat)+(3:Nat)≤(3:Nat)) oM)] ?_;refine nK hK ?_;clear hK K;refine sK fun K hK=>wR 4 ?_;refine aY hTT 6 [(0,.d),(0,.c ((0:Nat)≤(3:Nat)) oM),(0,.d),(0,.c ((1:Nat)≤(3:Nat)) oM),(0,.d),(0,.c ((2:Nat)≤(3:Nat)) oM)] ?_
  refine eC (between_ac (bnd c 2).1 (bnd c 2).2.1 (bnd c 2).2.2) ?_
  refine aY hTT 1 [] ?_;refine nK hK ?_;clear hK K
  refine w_cond (t:= !betB (Prod.fst (bnd c (2:Nat))) (Prod.fst (Prod.snd (bnd c (2:Nat)))) (Prod.snd (Prod.snd (bnd c (2:Nat))))) kR (fun h2=> ?_) (fun h2=> ?_)
  ·
   refine sK fun K hK=> ?_
   refine wR 5 ?_;refine aY hTT 1 [] ?_;refine nK hK ?_;clear hK K
   refine aw_ret ?_
   refine xb_r ?_
   refine xt_r (xt_r ?_)
   refine xb_r ?_
   refine xt_r ?_
   rw [cutE_bad (j:=2) (by decide) (by simpa [bndB]using h2)]
   refine rP (V.i 2)
  refine aw_skip ?_
  refine xb_n (xt_n (hK _ ?_));clear hK K;refine wR 5 ?_;refine aY hTT 2 [(0,.d)] ?_;refine aops_nil (xt_n ?_)
  refine⟨3,⟨by decide,fun i hi=> ?_⟩,?_,by decide⟩
  ·
   by_cases he:i=2
   ·
    subst he;simpa [bndB]using h2
   ·
    exact hb i oM
  ·
   refine le_ren [] (.cons kR (.cons kR .nil)) .nil kR kR
 ·
  refine sK fun K hK=> ?_
  refine wR 2 ?_;refine aY hTT 1 [] ?_;refine nK hK ?_;clear hK K;refine sK fun K hK=>w_true (t:=true) kR rfl ?_
  refine aw_skip ?_
  refine xt_n (hK _ ?_);clear hK K;refine sK fun K hK=> ?_
  refine aw_block ?_
  refine sK fun K hK=>wR 3 ?_;refine aY hTT 3 [(0,.d),(1,.c ((0:Nat)+(3:Nat)≤(3:Nat)) oM)] ?_;refine nK hK ?_;clear hK K;refine sK fun K hK=>wR 4 ?_;refine aY hTT 6 [(0,.d),(0,.c ((0:Nat)≤(3:Nat)) oM),(0,.d),(0,.c ((1:Nat)≤(3:Nat)) oM),(0,.d),(0,.c ((2:Nat)≤(3:Nat)) oM)] ?_
  refine eC (between_ac (bnd c 3).1 (bnd c 3).2.1 (bnd c 3).2.2) ?_
  refine aY hTT 1 [] ?_;refine nK hK ?_;clear hK K
  refine w_cond (t:= !betB (Prod.fst (bnd c (3:Nat))) (Prod.fst (Prod.snd (bnd c (3:Nat)))) (Prod.snd (Prod.snd (bnd c (3:Nat))))) kR (fun h2=> ?_) (fun h2=> ?_)
  ·
   refine sK fun K hK=> ?_
   refine wR 5 ?_;refine aY hTT 1 [] ?_;refine nK hK ?_;clear hK K
   refine aw_ret ?_
   refine xb_r ?_
   refine xt_r (xt_r ?_)
   refine xb_r ?_
   refine xt_r ?_
   rw [cutE_bad (j:=3) (by decide) (by simpa [bndB]using h2)]
   refine rP (V.i 2)
  refine aw_skip ?_
  refine xb_n (xt_n (hK _ ?_));clear hK K;refine wR 5 ?_;refine aY hTT 2 [(0,.d)] ?_;refine aops_nil (xt_n ?_)
  refine⟨4,⟨by decide,fun i hi=> ?_⟩,?_,by decide⟩
  ·
   by_cases he:i=3
   ·
    subst he;simpa [bndB]using h2
   ·
    exact hb i oM
  ·
   refine le_ren [] (.cons kR (.cons kR .nil)) .nil kR kR
 ·
  refine sK fun K hK=> ?_
  refine wR 2 ?_;refine aY hTT 1 [] ?_;refine nK hK ?_;clear hK K;refine sK fun K hK=>w_true (t:=true) kR rfl ?_
  refine aw_skip ?_
  refine xt_n (hK _ ?_);clear hK K;refine sK fun K hK=> ?_
  refine aw_block ?_
  refine sK fun K hK=>wR 3 ?_;refine aY hTT 3 [(0,.d),(1,.c ((0:Nat)+(3:Nat)≤(3:Nat)) oM)] ?_;refine nK hK ?_;clear hK K;refine sK fun K hK=>wR 4 ?_;refine aY hTT 6 [(0,.d),(0,.c ((0:Nat)≤(3:Nat)) oM),(0,.d),(0,.c ((1:Nat)≤(3:Nat)) oM),(0,.d),(0,.c ((2:Nat)≤(3:Nat)) oM)] ?_
  refine eC (between_ac (bnd c 4).1 (bnd c 4).2.1 (bnd c 4).2.2) ?_
  refine aY hTT 1 [] ?_;refine nK hK ?_;clear hK K
  refine w_cond (t:= !betB (Prod.fst (bnd c (4:Nat))) (Prod.fst (Prod.snd (bnd c (4:Nat)))) (Prod.snd (Prod.snd (bnd c (4:Nat))))) kR (fun h2=> ?_) (fun h2=> ?_)
  ·
   refine sK fun K hK=> ?_
   refine wR 5 ?_;refine aY hTT 1 [] ?_;refine nK hK ?_;clear hK K
   refine aw_ret ?_
   refine xb_r ?_
   refine xt_r (xt_r ?_)
   refine xb_r ?_
   refine xt_r ?_
   rw [cutE_bad (j:=4) (by decide) (by simpa [bndB]using h2)]
   refine rP (V.i 2)
  refine aw_skip ?_
  refine xb_n (xt_n (hK _ ?_));clear hK K;refine wR 5 ?_;refine aY hTT 2 [(0,.d)] ?_;refine aops_nil (xt_n ?_)
  refine⟨5,⟨by decide,fun i hi=> ?_⟩,?_,by decide⟩
  ·
   by_cases he:i=4
   ·
    subst he;simpa [bndB]using h2
   ·
    exact hb i oM
  ·
   refine le_ren [] (.cons kR (.cons kR .nil)) .nil kR kR
 ·
  refine sK fun K hK=> ?_
  refine wR 2 ?_;refine aY hTT 1 [] ?_;refine nK hK ?_;clear hK K;refine sK fun K hK=>w_true (t:=true) kR rfl ?_
  refine aw_skip ?_
  refine xt_n (hK _ ?_);clear hK K;refine sK fun K hK=> ?_
  refine aw_block ?_
  refine sK fun K hK=>wR 3 ?_;refine aY hTT 3 [(0,.d),(1,.c ((0:Nat)+(3:Nat)≤(3:Nat)) oM)] ?_;refine nK hK ?_;clear hK K;refine sK fun K hK=>wR 4 ?_;refine aY hTT 6 [(0,.d),(0,.c ((0:Nat)≤(3:Nat)) oM),(0,.d),(0,.c ((1:Nat)≤(3:Nat)) oM),(0,.d),(0,.c ((2:Nat)≤(3:Nat)) oM)] ?_
  refine eC (between_ac (bnd c 5).1 (bnd c 5).2.1 (bnd c 5).2.2) ?_
  refine aY hTT 1 [] ?_;refine nK hK ?_;clear hK K
  refine w_cond (t:= !betB (Prod.fst (bnd c (5:Nat))) (Prod.fst (Prod.snd (bnd c (5:Nat)))) (Prod.snd (Prod.snd (bnd c (5:Nat))))) kR (fun h2=> ?_) (fun h2=> ?_)
  ·
   refine sK fun K hK=> ?_
   refine wR 5 ?_;refine aY hTT 1 [] ?_;refine nK hK ?_;clear hK K
   refine aw_ret ?_
   refine xb_r ?_
   refine xt_r (xt_r ?_)
   refine xb_r ?_
   refine xt_r ?_
   rw [cutE_bad (j:=5) (by decide) (by simpa [bndB]using h2)]
   refine rP (V.i 2)
  refine aw_skip ?_
  refine xb_n (xt_n (hK _ ?_));clear hK K;refine wR 5 ?_;refine aY hTT 2 [(0,.d)] ?_;refine aops_nil (xt_n ?_)
  refine⟨6,⟨by decide,fun i hi=> ?_⟩,?_,by decide⟩
  ·
   by_cases he:i=5
   ·
    subst he;simpa [bndB]using h2
   ·
    exact hb i oM
  ·
   refine le_ren [] (.cons kR (.cons kR .nil)) .nil kR kR
 ·
  refine sK fun K hK=> ?_
  refine wR 2 ?_;refine aY hTT 1 [] ?_;refine nK hK ?_;clear hK K;refine sK fun K hK=>w_true (t:=true) kR rfl ?_
  refine aw_skip ?_
  refine xt_n (hK _ ?_);clear hK K;refine sK fun K hK=> ?_
  refine aw_block ?_
  refine sK fun K hK=>wR 3 ?_;refine aY hTT 3 [(0,.d),(1,.c ((0:Nat)+(3:Nat)≤(3:Nat)) oM)] ?_;refine nK hK ?_;clear hK K;refine sK fun K hK=>wR 4 ?_;refine aY hTT 6 [(0,.d),(0,.c ((0:Nat)≤(3:Nat)) oM),(0,.d),(0,.c ((1:Nat)≤(3:Nat)) oM),(0,.d),(0,.c ((2:Nat)≤(3:Nat)) oM)] ?_
  refine eC (between_ac (bnd c 6).1 (bnd c 6).2.1 (bnd c 6).2.2) ?_
  refine aY hTT 1 [] ?_;refine nK hK ?_;clear hK K
  refine w_cond (t:= !betB (Prod.fst (bnd c (6:Nat))) (Prod.fst (Prod.snd (bnd c (6:Nat)))) (Prod.snd (Prod.snd (bnd c (6:Nat))))) kR (fun h2=> ?_) (fun h2=> ?_)
  ·
   refine sK fun K hK=> ?_
   refine wR 5 ?_;refine aY hTT 1 [] ?_;refine nK hK ?_;clear hK K
   refine aw_ret ?_
   refine xb_r ?_
   refine xt_r (xt_r ?_)
   refine xb_r ?_
   refine xt_r ?_
   rw [cutE_bad (j:=6) (by decide) (by simpa [bndB]using h2)]
   refine rP (V.i 2)
  refine aw_skip ?_
  refine xb_n (xt_n (hK _ ?_));clear hK K;refine wR 5 ?_;refine aY hTT 2 [(0,.d)] ?_;refine aops_nil (xt_n ?_)
  refine⟨7,⟨by decide,fun i hi=> ?_⟩,?_,by decide⟩
  ·
   by_cases he:i=6
   ·
    subst he;simpa [bndB]using h2
   ·
    exact hb i oM
  ·
   refine le_ren [] (.cons kR (.cons kR .nil)) .nil kR kR
 ·
  refine sK fun K hK=> ?_
  refine wR 2 ?_;refine aY hTT 1 [] ?_;refine nK hK ?_;clear hK K;refine sK fun K hK=>w_false (t:=false) kR rfl ?_
  refine aw_exit ?_
  refine xt_x ?_;refine xt_x ?_
  refine xb_same ?_
  refine xt_n ?_;clear hK K;refine hK _ ?_;clear hK K;refine sK fun K hK=>wR 3 ?_;refine aY hTT 1 [] ?_;refine nK hK ?_;clear hK K
  refine aw_ret ?_
  rw [cutE_good hb]
  refine rP (V.i 0)
theorem cut3(c:Cut):cutE c=if(!(betB c.half 1 4096) || !(betB c.gain 0 100000) || !(betB c.thin 0 1048576) || !(betB c.wide 0 1048576) || decide (c.wide< c.thin) || !(betB c.slope 0 10000) || !(betB c.jerk 0 1048576) || !(betB c.sty 0 1024))=true then 2 else 0:=by
 rcases cutE_cases c with h |h
 ·
  rw [h,if_neg]
  have:=cutE_ok.1 h
  simp [betB]
  omega
 ·
  rw [h,if_pos]
  have:¬cutE c=0:=by rw [h];decide
  rw [cutE_ok]at this
  simp [betB]
  omega
set_option maxHeartbeats 4000000 in
set_option maxRecDepth 100000 in
theorem refCheck_ac(c:Cut):AC Tryz.prog 10 [c.v] (.i (cutE c)) []:=by
 refine acI hTT hMX Tryz.func10 Tryz.ntmps10 fun C hC hF=> ?_
 refine sK fun K hK=>wR 2 ?_;refine aY hTT 2 [] ?_;refine nK hK ?_;clear hK K;refine sK fun K hK=>sK fun K hK=>wR 3 ?_;refine aY hTT 2 [] ?_
 refine eC (within3_ac c.half 1 4096) ?_
 refine aY hTT 4 [] ?_
 refine eG 1 (g:=(!betB (Cut.half c) (1:Int) (4096:Int)) == false) (fun _=>within3_ac c.gain 0 100000) ?_
 refine aY hTT 5 [] ?_
 refine eG 1 (g:=(!betB (Cut.half c) (1:Int) (4096:Int) || !betB (Cut.gain c) (0:Int) (100000:Int)) == false) (fun _=>within3_ac c.thin 0 1048576) ?_
 refine aY hTT 5 [] ?_
 refine eG 1 (g:=(!betB (Cut.half c) (1:Int) (4096:Int) || !betB (Cut.gain c) (0:Int) (100000:Int) || !betB (Cut.thin c) (0:Int) (1048576:Int)) == false) (fun _=>within3_ac c.wide 0 1048576) ?_
 refine aY hTT 12 [] ?_
 refine eG 1 (g:=(!betB (Cut.half c) (1:Int) (4096:Int) || !betB (Cut.gain c) (0:Int) (100000:Int) || !betB (Cut.thin c) (0:Int) (1048576:Int) || !betB (Cut.wide c) (0:Int) (1048576:Int) || decide (Cut.wide c< Cut.thin c)) == false) (fun _=>within3_ac c.slope 0 10000) ?_
 refine aY hTT 5 [] ?_
 refine eG 1 (g:=(!betB (Cut.half c) (1:Int) (4096:Int) || !betB (Cut.gain c) (0:Int) (100000:Int) || !betB (Cut.thin c) (0:Int) (1048576:Int) || !betB (Cut.wide c) (0:Int) (1048576:Int) || decide (Cut.wide c< Cut.thin c) || !betB (Cut.slope c) (0:Int) (10000:Int)) == false) (fun _=>within3_ac c.jerk 0 1048576) ?_
 refine aY hTT 5 [] ?_
 refine eG 1 (g:=(!betB (Cut.half c) (1:Int) (4096:Int) || !betB (Cut.gain c) (0:Int) (100000:Int) || !betB (Cut.thin c) (0:Int) (1048576:Int) || !betB (Cut.wide c) (0:Int) (1048576:Int) || decide (Cut.wide c< Cut.thin c) || !betB (Cut.slope c) (0:Int) (10000:Int) || !betB (Cut.jerk c) (0:Int) (1048576:Int)) == false) (fun _=>within3_ac c.sty 0 1024) ?_
 refine aY hTT 2 [] ?_;refine nK hK ?_;clear hK K
 refine w_cond (t:= !betB (Cut.half c) (1:Int) (4096:Int) || !betB (Cut.gain c) (0:Int) (100000:Int) || !betB (Cut.thin c) (0:Int) (1048576:Int) || !betB (Cut.wide c) (0:Int) (1048576:Int) || decide (Cut.wide c< Cut.thin c) || !betB (Cut.slope c) (0:Int) (10000:Int) || !betB (Cut.jerk c) (0:Int) (1048576:Int) || !betB (Cut.sty c) (0:Int) (1024:Int)) kR (fun h=> ?_) (fun h=> ?_)
 ·
  refine sK fun K hK=> ?_
  refine wR 4 ?_;refine aY hTT 1 [] ?_;refine nK hK ?_;clear hK K
  refine aw_ret ?_
  refine xt_r ?_
  rw [cut3,if_pos h]
  refine rP (V.i 2)
 refine aw_skip ?_
 refine xt_n (hK _ ?_);clear hK K;refine sK fun K hK=>wR 4 ?_;refine aY hTT 1 [] ?_;refine nK hK ?_;clear hK K
 refine aw_ret ?_
 rw [cut3,if_neg (by rw [h];decide)]
 refine rP (V.i 0)
end Go.Proofs.YtjmbpjlojjgggaaGreatDoor

namespace Go.Proofs.YtjmbpjlojjgggaaGreatDoor
open Go.Ab Go.RowKit Go.Dw Go.Shelf
def gE(p:Pt):Bool:=betB p.1 (-4194304) 4194304 && betB p.2 (-4194304) 4194304
def sE(p:Pt):Bool:=betB p.1 (-32767) 32767 && betB p.2 (-32767) 32767
def sChk(l:List Pt):Int:=if 4096< l.length then 6 else if l.all sE then 0 else 2
theorem gE_iff{p:Pt}:gE p=true↔(-4194304≤p.1∧p.1≤4194304)∧ -4194304≤p.2∧p.2≤4194304:=by simp [gE,betB]
theorem sE_iff{p:Pt}:sE p=true↔(-32767≤p.1∧p.1≤32767)∧ -32767≤p.2∧p.2≤32767:=by simp [sE,betB]
theorem all_gp{l:List Pt}{f:Pt→Bool}:l.all f=true↔∀k,k< l.length→f (gp l k)=true:=by
 rw [List.all_eq_true]
 constructor
 ·
  intro h k hk
  have:gp l k=l[k]:=by simp [gp,List.getD_eq_getElem?_getD,List.getElem?_eq_getElem hk]
  rw [this];exact h _ (List.getElem_mem hk)
 ·
  intro h x hx
  obtain⟨k,hk,rfl⟩:=List.getElem_of_mem hx
  have:gp l k=l[k]:=by simp [gp,List.getD_eq_getElem?_getD,List.getElem?_eq_getElem hk]
  rw [←this];exact h k hk
theorem sChk_many{l:List Pt}(h:4096< l.length):sChk l=6:=by rw [sChk,if_pos h]
theorem sChk_bad{l:List Pt}{k:Nat}(h:¬4096< l.length)(hk:k< l.length)(hb:sE (gp l k)=false):sChk l=2:=by
 rw [sChk,if_neg h,if_neg]
 intro ha
 rw [all_gp.1 ha k hk]at hb
 cases hb
theorem sChk_good{l:List Pt}(h:¬4096< l.length)(hb:∀k,k< l.length→sE (gp l k)=true):sChk l=0:=by rw [sChk,if_neg h,if_pos (all_gp.2 hb)]
theorem sChk_ok{l:List Pt}:sChk l=0↔l.length≤4096∧∀k,k< l.length→sE (gp l k)=true:=by
 constructor
 ·
  intro h
  unfold sChk at h
  split at h
  ·
   cases h
  ·
   split at h
   ·
    rename_i h1 h2;exact⟨by omega,all_gp.1 h2⟩
   ·
    cases h
 ·
  rintro⟨h1,h2⟩;exact sChk_good oM h2
set_option maxRecDepth 100000 in
theorem tBetween_ac(x lo hi:Int):AC Tryz.prog 146 [.i x,.i lo,.i hi] (.b (betB x lo hi)) []:=by
 refine acI hTT hMX Tryz.func146 Tryz.ntmps146 fun C hC hF=> ?_
 refine sK fun K hK=>wR 2 ?_;refine aY hTT 1 [] ?_;refine nK hK ?_;clear hK K;refine sK fun K hK=>wR 3 ?_;refine aY hTT 9 [] ?_;refine nK hK ?_;clear hK K
 refine aw_ret ?_
 refine rP (V.b (decide (lo≤x) && decide (x≤hi)))
set_option maxRecDepth 100000 in
theorem tValid_ac(p:Pt):AC Tryz.prog 109 [.agg [.i p.1,.i p.2]] (.b (sE p)) []:=by
 refine acI hTT hMX Tryz.func109 Tryz.ntmps109 fun C hC hF=> ?_
 refine sK fun K hK=>wR 2 ?_;refine aY hTT 2 [] ?_;refine nK hK ?_;clear hK K;refine sK fun K hK=>wR 3 ?_;refine aY hTT 2 [] ?_
 refine eC (tBetween_ac p.1 (-32767) 32767) ?_
 refine aY hTT 3 [] ?_
 refine eG 1 (g:=betB (Prod.fst p) (-32767:Int) (32767:Int) == true) (fun h=>tBetween_ac p.2 (-32767) 32767) ?_
 refine aY hTT 2 [] ?_;refine nK hK ?_;clear hK K
 refine aw_ret ?_
 refine rP (V.b (betB (Prod.fst p) (-32767:Int) (32767:Int) && betB (Prod.snd p) (-32767:Int) (32767:Int)))
set_option maxRecDepth 100000 in
theorem tCheckSamples_ac(l:List Pt)(hl:l.length≤4611686018427387904):AC Tryz.prog 58 [V.pts l] (.i (sChk l)) []:=by
 refine acI hTT hMX Tryz.func58 Tryz.ntmps58 fun C hC hF=> ?_
 refine sK fun K hK=>wR 2 ?_;refine aY hTT 1 [] ?_;refine nK hK ?_;clear hK K;refine sK fun K hK=>sK fun K hK=>wR 3 ?_;refine aY hTT 3 [] ?_;refine nK hK ?_;clear hK K
 refine w_cond (t:=decide ((4096:Int)< (↑(List.length l):Int))) kR (fun c1=> ?_) (fun c1=> ?_)
 ·
  simp at c1
  refine sK fun K hK=>wR 4 ?_;refine aY hTT 1 [] ?_;refine nK hK ?_;clear hK K
  refine aw_ret ?_
  refine xt_r ?_
  rw [sChk_many oM]
  refine rP (V.i 6)
 simp at c1
 refine aw_skip ?_
 refine xt_n (hK _ ?_);clear hK K;refine sK fun K hK=>sK fun K hK=>wR 4 ?_;refine aY hTT 3 [] ?_;refine nK hK ?_;clear hK K
 refine aw_block ?_
 refine w_loop (ι:=Nat) (fun k=>[(8,V.pts l),(9,.i l.length),(10,.i k)]) (fun _=>[]) (fun k=>k≤l.length∧∀j,j< k→sE (gp l j)=true) (fun k=>l.length- k) 0 ⟨Nat.zero_le _,fun j hj=>by omega⟩ ?_ ?_
 ·
  refine le_ren [] (.cons kR (.cons kR (.cons kR .nil))) .nil kR kR
 rintro k ⟨hk,hj⟩
 refine sK fun K hK=>wR 2 ?_;refine aY hTT 1 [] ?_;refine nK hK ?_;clear hK K;refine sK fun K hK=> ?_
 refine w_cond (t:=decide ((↑k:Int)< (↑(List.length l):Int))) kR (fun c2=> ?_) (fun c2=> ?_)
 ·
  simp at c2
  refine aw_skip ?_
  refine xt_n (hK _ ?_);clear hK K;refine sK fun K hK=> ?_
  refine aw_block ?_
  refine sK fun K hK=>wR 3 ?_;refine aY hTT 4 [(0,.c ((0:Int)≤(↑k:Int)∧(↑k:Int)< (↑(List.length l):Int)) oM),(2,.c ((0:Nat)+(2:Nat)≤(2:Nat)) oM)] ?_;refine nK hK ?_;clear hK K;refine sK fun K hK=>wR 4 ?_;refine aY hTT 1 [(0,.c ((0:Nat)≤(2:Nat)) oM)] ?_
  refine eC (tValid_ac (gp l k)) ?_
  refine aY hTT 1 [] ?_;refine nK hK ?_;clear hK K
  refine w_cond (t:= !sE (gp l k)) kR (fun c3=> ?_) (fun c3=> ?_)
  ·
   refine sK fun K hK=> ?_
   refine wR 5 ?_;refine aY hTT 1 [] ?_;refine nK hK ?_;clear hK K
   refine aw_ret ?_
   refine xb_r ?_
   refine xt_r (xt_r ?_)
   refine xb_r ?_
   refine xt_r ?_
   rw [sChk_bad oM oM (by simpa using c3)]
   refine rP (V.i 2)
  refine aw_skip ?_
  refine xb_n (xt_n (hK _ ?_));clear hK K;refine wR 5 ?_;refine aY hTT 2 [(0,.c (iR ((↑k:Int)+1)) oM)] ?_;refine aops_nil (xt_n ?_)
  refine⟨k+1,⟨by omega,fun i hi=> ?_⟩,by refine le_ren [] (.cons kR (.cons kR (.cons kR .nil))) .nil kR kR,by omega⟩
  by_cases he:i=k
  ·
   subst he;simpa using c3
  ·
   exact hj i oM
 ·
  simp at c2
  refine aw_exit ?_
  refine xt_x ?_;refine xt_x ?_
  refine xb_same ?_
  refine xt_n ?_;clear hK K;refine hK _ ?_;clear hK K;refine sK fun K hK=>wR 3 ?_;refine aY hTT 1 [] ?_;refine nK hK ?_;clear hK K
  refine aw_ret ?_
  rw [sChk_good oM fun i hi=>hj i oM]
  refine rP (V.i 0)
def wrapAmt(n:Int):Int:=max n (IntKind.i64.wrap (0- n))
set_option maxRecDepth 100000 in
theorem rAmountW_ac(n:Int):AC Tryz.prog 147 [.i n] (.i (wrapAmt n)) []:=by
 refine acI hTT hMX Tryz.func147 Tryz.ntmps147 fun C hC hF=> ?_
 refine sK fun K hK=>wR 2 ?_;refine aY hTT 1 [] ?_;refine nK hK ?_;clear hK K;refine sK fun K hK=>wR 3 ?_;refine aY hTT 5 [(2,.w)] ?_;refine nK hK ?_;clear hK K
 refine aw_ret ?_
 refine rP (V.i (max n (IntKind.wrap IntKind.i64 ((0:Int)- n))))
theorem wrapAmt_le{n m:Int}(h:inR .i64 n)(hm:0≤m∧m≤4611686018427387904)(h2: -1099511627776< n):wrapAmt n≤m↔ -m≤n∧n≤m:=by
 simp only [inR]at h
 have:IntKind.i64.wrap (0- n)= -n:=by
  rw [inR_wrap (k:= .i64) (by simp only [inR];omega)];omega
 rw [wrapAmt,this]
 omega
set_option maxRecDepth 100000 in
theorem rValid_ac(p:Pt)(h1:inR .i64 p.1)(h2:inR .i64 p.2):AC Tryz.prog 110 [.agg [.i p.1,.i p.2]] (.b (sE p)) []:=by
 refine acI hTT hMX Tryz.func110 Tryz.ntmps110 fun C hC hF=> ?_
 refine sK fun K hK=>wR 2 ?_;refine aY hTT 2 [] ?_;refine nK hK ?_;clear hK K;refine sK fun K hK=>wR 3 ?_;refine aY hTT 2 [] ?_
 refine eC (rAmountW_ac p.1) ?_
 refine aY hTT 4 [] ?_
 refine eG 1 (g:=decide (wrapAmt (Prod.fst p)≤32767) == true) (fun h=>rAmountW_ac p.2) ?_
 refine aY hTT 13 [] ?_;refine nK hK ?_;clear hK K
 refine aw_ret ?_
 refine ret_pure (v':=V.b (decide (wrapAmt (Prod.fst p)≤32767) && decide (wrapAmt (Prod.snd p)≤32767) && decide ((-1099511627776:Int)< Prod.fst p) && decide ((-1099511627776:Int)< Prod.snd p))) (.inr rfl) kR ?_ kR
 refine vb ?_
 have a1:=wrapAmt_le (n:=p.1) (m:=32767) h1 (by decide)
 have a2:=wrapAmt_le (n:=p.2) (m:=32767) h2 (by decide)
 have key:∀n:Int,(-1099511627776< n→(wrapAmt n≤32767↔ -32767≤n∧n≤32767))→(decide (wrapAmt n≤32767) && decide (-1099511627776< n))=(decide (-32767≤n) && decide (n≤32767)):=by
  intro n h
  by_cases hn: -1099511627776< n
  ·
   simp [h hn,hn]
  ·
   have:¬(-32767≤n):=by omega
   simp [hn,this]
 have k1:=key p.1 a1
 have k2:=key p.2 a2
 rw [sE,betB,betB,←k1,←k2]
 simp only [Bool.and_assoc,Bool.and_left_comm]
end Go.Proofs.YtjmbpjlojjgggaaGreatDoor

namespace Go.Proofs.YtjmbpjlojjgggaaGreatDoor
open Go.Ab Go.RowKit Go.Dw Go.Shelf
structure Rc where
 n0:Int
 n1:Int
 n2:Int
 n3:Int
 k0:Int
 k1:Int
 k2:Int
 k3:Int
 seed:Int
 soft:Int
 hard:Int
 mo:Int
 st:Int
def Rc.c(r:Rc):List V:=[.i r.n0,.i r.n1,.i r.n2,.i r.n3,.i r.k0,.i r.k1,.i r.k2,.i r.k3,.i r.seed,.i r.soft,.i r.hard,.i r.mo,.i r.st]
def Rc.v(r:Rc):V:= .agg r.c
def Rc.thin(r:Rc):Nat→Int
 |0=>r.n0 |1=>r.n1 |2=>r.n2 |_=>r.n3
def Rc.thick(r:Rc):Nat→Int
 |0=>r.k0 |1=>r.k1 |2=>r.k2 |_=>r.k3
def Rc.max(r:Rc):Nat→Int
 |0=>1 |1=>r.mo |2=>r.st |_=>0
structure Rc.ok(r:Rc):Prop where
 a1:0≤r.n1∧r.n1≤r.k1∧r.k1≤1073741824
 a2:0≤r.n2∧r.n2≤r.k2∧r.k2≤1073741824
 a3:0≤r.n3∧r.n3≤r.k3∧r.k3≤1073741824
 seed:0≤r.seed∧r.seed≤1073741824
 soft:0≤r.soft∧r.soft≤1048576
 hard:0≤r.hard∧r.hard≤1048576
 mo:1≤r.mo∧r.mo≤16
 st:1≤r.st∧r.st≤16
structure Act where
 kind:Int
 cut:Int
 area:Int
 stock:Int
 yield:Int
 plate:Int
 bath:Int
 s0:Int
 s1:Int
 cur:Int
 sec:Int
 place:Int
 flaw:Int
def Act.c(a:Act):List V:=[.i a.kind,.i a.cut,.i a.area,.i a.stock,.i a.yield,.i a.plate,.i a.bath,.i a.s0,.i a.s1,.i a.cur,.i a.sec,.i a.place,.i a.flaw]
def Act.v(a:Act):V:= .agg a.c
def actB(a:Act):Bool:=
 if a.kind=1 then betB a.cut 0 1099511627776 && betB a.area 1 1048576
 else if a.kind=2 then betB a.stock 0 1099511627776 && betB a.yield 1 1000
 else if a.kind=3 then betB a.s0 0 1048576 && (betB a.s1 0 1048576 && (betB a.cur 0 1048576 && betB a.sec 0 1048576))
 else if a.kind=4 then betB a.place 0 359
 else decide (a.kind=5∨a.kind=6)
structure Pl where
 kind:Nat
 par:Int
 cut:Int
 area:Int
 thick:Int
 grown:Int
 ret:Bool
 cnt:Nat
 fl:Int→Bool
def Pl.c(p:Pl):List V:=[.i p.kind,.i p.par,.i p.cut,.i p.area,.i p.thick,.i p.grown,.b p.ret]
structure Tk4 where
 stock:Int
 yield:Int
 charge:Int
 laid:Int
def Tk4.c(t:Tk4):List V:=[.i t.stock,.i t.yield,.i t.charge,.i t.laid]
def shC(r:Rc)(p t f a:V):List V:= .b true::r.c++[p,t,f,a]
end Go.Proofs.YtjmbpjlojjgggaaGreatDoor

namespace Go.Proofs.YtjmbpjlojjgggaaGreatDoor
open Go.Ab Go.RowKit Go.Dw Go.Shelf
structure Act.gok(a:Act):Prop where
 s0:0≤a.s0∧a.s0≤1048576
 s1:0≤a.s1∧a.s1≤1048576
 cur:0≤a.cur∧a.cur≤1048576
 sec:0≤a.sec∧a.sec≤1048576
def grF(a:Act):Int:=a.s0*a.s1
def grR(a:Act):Int:=a.cur*a.sec
def gFi(y:Int)(a:Act):Int:=(grF a*y).tdiv 1000
def gMe(y:Int)(a:Act):Int:=(grF a*y).tdiv 1000+(grR a*y).tdiv 1000
def gCh(a:Act):Int:=grF a+grR a
theorem mul_bd{a b A B:Int}(h1:0≤a)(h2:a≤A)(h3:0≤b)(h4:b≤B):0≤a*b∧a*b≤A*B:=
 ⟨Int.mul_nonneg h1 h3,Int.mul_le_mul h2 h4 h3 oM⟩
theorem tdiv_bd'{x p:Int}(hx:0≤x)(hp:1≤p):0≤x.tdiv p∧x.tdiv p≤x:=by
 rw [Int.tdiv_eq_ediv_of_nonneg hx]
 exact⟨Int.ediv_nonneg hx oM,Int.ediv_le_self _ hx⟩
theorem gr_bd{a:Act}(h:a.gok):(0≤grF a∧grF a≤1099511627776)∧(0≤grR a∧grR a≤1099511627776):=
 ⟨mul_bd h.s0.1 h.s0.2 h.s1.1 h.s1.2,mul_bd h.cur.1 h.cur.2 h.sec.1 h.sec.2⟩
theorem gm_bd{a:Act}(h:a.gok){y:Int}(hy:1≤y∧y≤1000):(0≤grF a*y∧grF a*y≤1099511627776000)∧(0≤grR a*y∧grR a*y≤1099511627776000)∧(0≤gFi y a∧gFi y a≤1099511627776)∧(gFi y a≤gMe y a∧gMe y a≤2199023255552):=by
 obtain⟨h1,h2⟩:=gr_bd h
 have h3:=mul_bd h1.1 h1.2 (by omega:(0:Int)≤y) hy.2
 have h4:=mul_bd h2.1 h2.2 (by omega:(0:Int)≤y) hy.2
 refine⟨h3,h4,?_⟩
 unfold gFi gMe
 rw [Int.tdiv_eq_ediv_of_nonneg h3.1,Int.tdiv_eq_ediv_of_nonneg h4.1]
 omega
structure Pl.ok(p:Pl):Prop where
 kind:p.kind≤3
 area:1≤p.area∧p.area≤1048576
 grown:0≤p.grown∧p.grown≤1000
structure Tk4.ok(t:Tk4):Prop where
 yield:1≤t.yield∧t.yield≤1000
 stock:0≤t.stock
 laid:0≤t.laid
 sum:t.stock+t.laid≤1099511627776
def roomP(r:Rc)(p:Pl):Int:=if p.ret then 0 else max 0 (r.max p.kind- p.grown)
def hereE(r:Rc)(n:Nat)(p:Pl)(a:Act):Int:=
 if p.ret then 10 else if roomP r p=0∨256≤n then 11 else if r.soft*p.area< 1000*a.s0∨r.hard*p.area< 1000*a.cur then 14 else 0
def layT(p:Pl)(t:Tk4)(a:Act):Int:=(1000*gMe t.yield a).tdiv p.area
def layE(r:Rc)(p:Pl)(t:Tk4)(a:Act):Int:=
 if(1000*gFi t.yield a).tdiv p.area< r.seed∨betB (layT p t a) (r.thin (p.kind+1)) (r.thick (p.kind+1))=false then 20 else if t.stock< gMe t.yield a then 13 else 0
def layV(r:Rc)(p:Pl)(t:Tk4)(a:Act):Int:=if layE r p t a=0 then layT p t a else 0
def frow(k:Nat)(u:V)(_:Nat→Value)(i:Nat):List V:=[.alt (decide (i=k)) u .any]
def fshop(r:Rc)(n:Nat)(row:Nat→List V)(m:Nat)(tk:Nat→Tk4)(fl ac:V):V:= .ptr (shC r (.sl 1 n row) (.sl 4 m fun i=>(tk i).c) fl ac)
end Go.Proofs.YtjmbpjlojjgggaaGreatDoor

namespace Go.Proofs.YtjmbpjlojjgggaaGreatDoor
open Go.Ab Go.RowKit Go.Dw Go.Shelf
set_option maxRecDepth 100000 in
theorem between7_ac(x lo hi:Int):AC Tryz.prog 103 [.i x,.i lo,.i hi] (.b (betB x lo hi)) []:=by
 refine acI hTT hMX Tryz.func103 Tryz.ntmps103 fun C hC hF=> ?_
 refine sK fun K hK=>wR 2 ?_
 refine aops_n hTT (M:=[]) (n:=1) [pv 6 (V.b false)] kR kR tI ?_
 refine nK hK ?_;clear hK K;refine sK fun K hK=>wR 3 ?_
 refine aops_n hTT (M:=[]) (n:=9) [pv 7 (V.i x),pv 8 (V.i lo),pv 9 (V.b (decide (lo≤x))),pv 10 (V.b (decide (lo≤x))),pc 11 ((True∧True)∧((decide (lo≤x) == true)=true→True)) (V.gd (decide (lo≤x) == true) (V.i x)),pc 12 ((True∧True)∧((decide (lo≤x) == true)=true→True)) (V.gd (decide (lo≤x) == true) (V.i hi)),pc 13 ((((decide (lo≤x) == true)=true→(decide (lo≤x) == true)=true)∧((decide (lo≤x) == true)=true→(decide (lo≤x) == true)=true)∧True)∧((decide (lo≤x) == true)=true→True)) (V.gd (decide (lo≤x) == true) (V.b (decide (x≤hi)))),pc 14 ((decide (lo≤x)=true→(decide (lo≤x) == true)=true)∧True) (V.b (decide (lo≤x) && decide (x≤hi))),pv 6 (V.b (decide (lo≤x) && decide (x≤hi)))] kR kR ⟨⟨⟨tI,tI⟩,(fun _=>tI)⟩,⟨⟨tI,tI⟩,(fun _=>tI)⟩,⟨⟨(by(exact fun h=>h)),⟨(by(exact fun h=>h)),tI⟩⟩,(fun _=>tI)⟩,⟨(by(intro h;rw [h];rfl)),tI⟩,tI⟩ ?_
 refine nK hK ?_;clear hK K
 refine aw_ret ?_
 refine rP (V.b (decide (lo≤x) && decide (x≤hi)))
abbrev T3:=Int×Int×Int
def t3c(l:List T3)(k:Nat):List V:=[.i (l.getD k (0,0,0)).1,.i (l.getD k (0,0,0)).2.1,.i (l.getD k (0,0,0)).2.2]
def t3B(x:T3):Bool:=betB x.1 x.2.1 x.2.2
set_option maxRecDepth 100000 in
theorem all_ac(l:List T3)(hl:l.length≤100):AC Tryz.prog 102 [.sl 3 l.length (t3c l)] (.b (l.all t3B)) []:=by
 refine acI hTT hMX Tryz.func102 Tryz.ntmps102 fun C hC hF=> ?_
 refine sK fun K hK=>wR 2 ?_
 refine aops_n hTT (M:=[]) (n:=1) [pv 2 (V.b false)] kR kR tI ?_
 refine nK hK ?_;clear hK K;refine sK fun K hK=>sK fun K hK=>wR 3 ?_
 refine aops_n hTT (M:=[]) (n:=3) [pv 5 (V.sl 3 (List.length l) (t3c l)),pv 6 (V.i (↑(List.length l):Int)),pv 7 (V.i 0)] kR kR tI ?_
 refine nK hK ?_;clear hK K
 refine aw_block ?_
 refine w_loop (ι:=Nat) (fun k=>[(5,.sl 3 l.length (t3c l)),(6,.i l.length),(7,.i k)]) (fun _=>[]) (fun k=>k≤l.length∧∀j,j< k→t3B (l.getD j (0,0,0))=true) (fun k=>l.length- k) 0 ⟨Nat.zero_le _,fun j hj=>by omega⟩ ?_ ?_
 ·
  refine le_ren [] (.cons kR (.cons kR (.cons kR .nil))) .nil kR kR
 rintro k ⟨hk,hj⟩
 refine sK fun K hK=>wR 2 ?_
 refine aops_n hTT (M:=[]) (n:=1) [pv 8 (V.b (decide ((↑k:Int)< (↑(List.length l):Int))))] kR kR tI ?_
 refine nK hK ?_;clear hK K;refine sK fun K hK=> ?_
 refine w_cond (t:=decide ((↑k:Int)< (↑(List.length l):Int))) kR (fun c1=> ?_) (fun c1=> ?_)
 ·
  have hk1:k< l.length:=by simpa using c1
  have hm:l.getD k (0,0,0)∈l:=by rw [List.getD_eq_getElem?_getD,List.getElem?_eq_getElem hk1];exact List.getElem_mem _
  refine aw_skip ?_
  refine xt_n (hK _ ?_);clear hK K;refine sK fun K hK=> ?_
  refine aw_block ?_
  refine sK fun K hK=>wR 3 ?_
  refine aops_n hTT (M:=[]) (n:=4) [pc 9 ((0:Int)≤(↑k:Int)∧(↑k:Int)< (↑(List.length l):Int)) (V.ptr [V.i (Prod.fst (List.getD l k ((0:Int),(0:Int),(0:Int)))),V.i (Prod.fst (Prod.snd (List.getD l k ((0:Int),(0:Int),(0:Int))))),V.i (Prod.snd (Prod.snd (List.getD l k ((0:Int),(0:Int),(0:Int)))))]),pv 10 (V.agg [V.i (Prod.fst (List.getD l k ((0:Int),(0:Int),(0:Int)))),V.i (Prod.fst (Prod.snd (List.getD l k ((0:Int),(0:Int),(0:Int))))),V.i (Prod.snd (Prod.snd (List.getD l k ((0:Int),(0:Int),(0:Int)))))]),pn 4 (V.ref 200004 0) (200004:Nat) (Ob.box 205 [V.i 0,V.i 0,V.i 0]),pw ((0:Nat)+(3:Nat)≤(3:Nat)) (200004:Nat) (Ob.box 205 [V.i (Prod.fst (List.getD l k ((0:Int),(0:Int),(0:Int)))),V.i (Prod.fst (Prod.snd (List.getD l k ((0:Int),(0:Int),(0:Int))))),V.i (Prod.snd (Prod.snd (List.getD l k ((0:Int),(0:Int),(0:Int)))))])] kR kR ⟨oM,oM,tI⟩ ?_
  refine nK hK ?_;clear hK K;refine sK fun K hK=>wR 4 ?_
  refine aops_n hTT (M:=[]) (n:=6) [pc 11 ((0:Int)≤(0:Int)∧(0:Int)< (↑(3:Nat):Int)) (V.ref 200004 0),pc 12 ((0:Nat)≤(3:Nat)) (V.i (Prod.fst (List.getD l k ((0:Int),(0:Int),(0:Int))))),pc 13 ((0:Int)≤(1:Int)∧(1:Int)< (↑(3:Nat):Int)) (V.ref 200004 1),pc 14 ((1:Nat)≤(3:Nat)) (V.i (Prod.fst (Prod.snd (List.getD l k ((0:Int),(0:Int),(0:Int)))))),pc 15 ((0:Int)≤(2:Int)∧(2:Int)< (↑(3:Nat):Int)) (V.ref 200004 2),pc 16 ((2:Nat)≤(3:Nat)) (V.i (Prod.snd (Prod.snd (List.getD l k ((0:Int),(0:Int),(0:Int))))))] kR kR ⟨oM,oM,oM,oM,oM,oM,tI⟩ ?_
  refine eC (between7_ac (l.getD k (0,0,0)).1 (l.getD k (0,0,0)).2.1 (l.getD k (0,0,0)).2.2) ?_
  refine aops_n hTT (M:=[]) (n:=1) [pv 18 (V.b !betB (Prod.fst (List.getD l k ((0:Int),(0:Int),(0:Int)))) (Prod.fst (Prod.snd (List.getD l k ((0:Int),(0:Int),(0:Int))))) (Prod.snd (Prod.snd (List.getD l k ((0:Int),(0:Int),(0:Int))))))] kR kR tI ?_
  refine nK hK ?_;clear hK K
  refine w_cond (t:= !betB (Prod.fst (List.getD l k ((0:Int),(0:Int),(0:Int)))) (Prod.fst (Prod.snd (List.getD l k ((0:Int),(0:Int),(0:Int))))) (Prod.snd (Prod.snd (List.getD l k ((0:Int),(0:Int),(0:Int)))))) kR (fun c2=> ?_) (fun c2=> ?_)
  ·
   have e:l.all t3B=false:=by
    cases h:l.all t3B with
    |false=>rfl
    |true=>
     have:=List.all_eq_true.1 h _ hm
     unfold t3B at this
     rw [this]at c2
     cases c2
   refine sK fun K hK=>wR 5 ?_
   refine aops_n hTT (M:=[]) (n:=1) [pv 2 (V.b false)] kR kR tI ?_
   refine nK hK ?_;clear hK K
   refine aw_ret ?_
   refine xb_r ?_
   refine xt_r (xt_r ?_)
   refine xb_r ?_
   refine xt_r ?_
   rw [e]
   refine rP (V.b false)
  ·
   refine aw_skip ?_
   refine xb_n (xt_n (hK _ ?_));clear hK K;refine wR 5 ?_
   refine aops_n hTT (M:=[]) (n:=2) [pc 19 ((-9223372036854775808:Int)≤(↑k:Int)+1∧(↑k:Int)+1≤(9223372036854775807:Int)) (V.i ((↑k:Int)+1)),pv 7 (V.i ((↑k:Int)+1))] kR kR ⟨oM,tI⟩ ?_
   refine aops_nil (xt_n ?_)
   refine⟨k+1,⟨by omega,fun j hj2=> ?_⟩,by refine le_ren [] (.cons kR (.cons kR (.cons kR .nil))) .nil kR kR,by omega⟩
   by_cases e5:j=k
   ·
    rw [e5];unfold t3B;simpa using c2
   ·
    exact hj j oM
 ·
  have e:l.all t3B=true:=by
   rw [List.all_eq_true]
   intro x hx
   obtain⟨j,hj2,rfl⟩:=List.getElem_of_mem hx
   have:=hj j (by simp at c1;omega)
   rwa [List.getD_eq_getElem?_getD,List.getElem?_eq_getElem hj2]at this
  refine aw_exit ?_
  refine xt_x ?_;refine xt_x ?_
  refine xb_same ?_
  refine xt_n ?_;clear hK K;refine hK _ ?_;clear hK K;refine sK fun K hK=>wR 3 ?_
  refine aops_n hTT (M:=[]) (n:=1) [pv 2 (V.b true)] kR kR tI ?_
  refine nK hK ?_;clear hK K
  refine aw_ret ?_
  rw [e]
  refine rP (V.b true)
theorem t3_2{a1 a2 a3 b1 b2 b3:Int}:RImp (.sl 3 2 fun i=>([V.i a1,V.i a2,V.i a3,V.i b1,V.i b2,V.i b3].drop (i*3)).take 3) (.sl 3 [(a1,a2,a3),(b1,b2,b3)].length (t3c [((a1,a2,a3):T3),(b1,b2,b3)])):=RImp.rows rfl fun i hi=>by
 match i,hi with
 |0,_=>rfl
 |1,_=>rfl
theorem t3_4{a1 a2 a3 b1 b2 b3 c1 c2 c3 d1 d2 d3:Int}:RImp (.sl 3 4 fun i=>([V.i a1,V.i a2,V.i a3,V.i b1,V.i b2,V.i b3,V.i c1,V.i c2,V.i c3,V.i d1,V.i d2,V.i d3].drop (i*3)).take 3) (.sl 3 [(a1,a2,a3),(b1,b2,b3),(c1,c2,c3),(d1,d2,d3)].length (t3c [((a1,a2,a3):T3),(b1,b2,b3),(c1,c2,c3),(d1,d2,d3)])):=RImp.rows rfl fun i hi=>by
 match i,hi with
 |0,_=>rfl
 |1,_=>rfl
 |2,_=>rfl
 |3,_=>rfl
theorem t3_5{a1 a2 a3 b1 b2 b3 c1 c2 c3 d1 d2 d3 e1 e2 e3:Int}:RImp (.sl 3 5 fun i=>([V.i a1,V.i a2,V.i a3,V.i b1,V.i b2,V.i b3,V.i c1,V.i c2,V.i c3,V.i d1,V.i d2,V.i d3,V.i e1,V.i e2,V.i e3].drop (i*3)).take 3) (.sl 3 [(a1,a2,a3),(b1,b2,b3),(c1,c2,c3),(d1,d2,d3),(e1,e2,e3)].length (t3c [((a1,a2,a3):T3),(b1,b2,b3),(c1,c2,c3),(d1,d2,d3),(e1,e2,e3)])):=RImp.rows rfl fun i hi=>by
 match i,hi with
 |0,_=>rfl
 |1,_=>rfl
 |2,_=>rfl
 |3,_=>rfl
 |4,_=>rfl
theorem actB_1{a:Act}(h:a.kind=1):actB a=[((a.cut,0,1099511627776):T3),(a.area,1,1048576)].all t3B:=by
 rw [actB,if_pos h];simp [t3B]
theorem actB_2{a:Act}(h:a.kind=2):actB a=[((a.stock,0,1099511627776):T3),(a.yield,1,1000)].all t3B:=by
 rw [actB,if_neg oM,if_pos h];simp [t3B]
theorem actB_3{a:Act}(h:a.kind=3):actB a=[((a.s0,0,1048576):T3),(a.s1,0,1048576),(a.cur,0,1048576),(a.sec,0,1048576)].all t3B:=by
 rw [actB,if_neg oM,if_neg oM,if_pos h];simp [t3B]
set_option maxRecDepth 100000 in
theorem valid_ac(a:Act):AC Tryz.prog 50 [a.v] (.b (actB a)) []:=by
 refine acI hTT hMX Tryz.func50 Tryz.ntmps50 fun C hC hF=> ?_
 refine sK fun K hK=>wR 2 ?_
 refine aops_n hTT (M:=[]) (n:=2) [pv 1 (V.ptr [V.i (Act.kind a),V.i (Act.cut a),V.i (Act.area a),V.i (Act.stock a),V.i (Act.yield a),V.i (Act.plate a),V.i (Act.bath a),V.i (Act.s0 a),V.i (Act.s1 a),V.i (Act.cur a),V.i (Act.sec a),V.i (Act.place a),V.i (Act.flaw a)]),pv 2 (V.b false)] kR kR tI ?_
 refine nK hK ?_;clear hK K;refine sK fun K hK=>sK fun K hK=>wR 3 ?_
 refine aops_n hTT (M:=[]) (n:=2) [pv 3 (V.ptr [V.i (Act.kind a),V.i (Act.cut a),V.i (Act.area a),V.i (Act.stock a),V.i (Act.yield a),V.i (Act.plate a),V.i (Act.bath a),V.i (Act.s0 a),V.i (Act.s1 a),V.i (Act.cur a),V.i (Act.sec a),V.i (Act.place a),V.i (Act.flaw a)]),pv 4 (V.i (Act.kind a))] kR kR tI ?_
 refine nK hK ?_;clear hK K
 refine aw_block ?_
 refine sK fun K hK=>wR 4 ?_
 refine aops_n hTT (M:=[]) (n:=2) [pv 6 (V.b (decide (Act.kind a=1))),pv 5 (V.b (decide (Act.kind a=1)))] kR kR tI ?_
 refine nK hK ?_;clear hK K
 refine w_cond (t:=decide (Act.kind a=1)) kR (fun c1=> ?_) (fun c1=> ?_)
 ·
  have e:a.kind=1:=by simpa using c1
  refine sK fun K hK=>wR 5 ?_
  refine aops_n hTT (M:=[]) (n:=7) [pv 7 (V.ptr [V.i (Act.cut a),V.i (Act.area a),V.i (Act.stock a),V.i (Act.yield a),V.i (Act.plate a),V.i (Act.bath a),V.i (Act.s0 a),V.i (Act.s1 a),V.i (Act.cur a),V.i (Act.sec a),V.i (Act.place a),V.i (Act.flaw a)]),pv 8 (V.i (Act.cut a)),pv 9 (V.agg [V.i (Act.cut a),V.i 0,V.i 1099511627776]),pv 10 (V.ptr [V.i (Act.area a),V.i (Act.stock a),V.i (Act.yield a),V.i (Act.plate a),V.i (Act.bath a),V.i (Act.s0 a),V.i (Act.s1 a),V.i (Act.cur a),V.i (Act.sec a),V.i (Act.place a),V.i (Act.flaw a)]),pv 11 (V.i (Act.area a)),pv 12 (V.agg [V.i (Act.area a),V.i 1,V.i 1048576]),pv 13 (V.sl 3 2 fun(i:Nat)=>List.take (3:Nat) (List.drop (i*3) [V.i (Act.cut a),V.i 0,V.i 1099511627776,V.i (Act.area a),V.i 1,V.i 1048576]))] kR kR tI ?_
  refine eC (AC.conv (all_ac [(a.cut,0,1099511627776),(a.area,1,1048576)] (by simp)) (args':=[V.sl 3 2 fun(i:Nat)=>List.take (3:Nat) (List.drop (i*3) [V.i (Act.cut a),V.i 0,V.i 1099511627776,V.i (Act.area a),V.i 1,V.i 1048576])]) ⟨?_,trivial⟩) ?_
  ·
   exact t3_2
  refine aops_n hTT (M:=[]) (n:=1) [pv 2 (V.b (List.all [(Act.cut a,(0:Int),(1099511627776:Int)),(Act.area a,(1:Int),(1048576:Int))] t3B))] kR kR tI ?_
  refine nK hK ?_;clear hK K
  refine aw_ret ?_
  refine xb_r ?_
  refine xt_r ?_
  rw [actB_1 e]
  refine rP (V.b (List.all [(Act.cut a,(0:Int),(1099511627776:Int)),(Act.area a,(1:Int),(1048576:Int))] t3B))
 have n1:a.kind≠1:=by simpa using c1
 refine sK fun K hK=>wR 5 ?_
 refine aops_n hTT (M:=[]) (n:=2) [pv 16 (V.b (decide (Act.kind a=2))),pv 15 (V.b (decide (Act.kind a=2)))] kR kR tI ?_
 refine nK hK ?_;clear hK K
 refine w_cond (t:=decide (Act.kind a=2)) kR (fun c2=> ?_) (fun c2=> ?_)
 ·
  have e:a.kind=2:=by simpa using c2
  refine sK fun K hK=>wR 6 ?_
  refine aops_n hTT (M:=[]) (n:=7) [pv 17 (V.ptr [V.i (Act.stock a),V.i (Act.yield a),V.i (Act.plate a),V.i (Act.bath a),V.i (Act.s0 a),V.i (Act.s1 a),V.i (Act.cur a),V.i (Act.sec a),V.i (Act.place a),V.i (Act.flaw a)]),pv 18 (V.i (Act.stock a)),pv 19 (V.agg [V.i (Act.stock a),V.i 0,V.i 1099511627776]),pv 20 (V.ptr [V.i (Act.yield a),V.i (Act.plate a),V.i (Act.bath a),V.i (Act.s0 a),V.i (Act.s1 a),V.i (Act.cur a),V.i (Act.sec a),V.i (Act.place a),V.i (Act.flaw a)]),pv 21 (V.i (Act.yield a)),pv 22 (V.agg [V.i (Act.yield a),V.i 1,V.i 1000]),pv 23 (V.sl 3 2 fun(i:Nat)=>List.take (3:Nat) (List.drop (i*3) [V.i (Act.stock a),V.i 0,V.i 1099511627776,V.i (Act.yield a),V.i 1,V.i 1000]))] kR kR tI ?_
  refine eC (AC.conv (all_ac [(a.stock,0,1099511627776),(a.yield,1,1000)] (by simp)) (args':=[V.sl 3 2 fun(i:Nat)=>List.take (3:Nat) (List.drop (i*3) [V.i (Act.stock a),V.i 0,V.i 1099511627776,V.i (Act.yield a),V.i 1,V.i 1000])]) ⟨?_,trivial⟩) ?_
  ·
   exact t3_2
  refine aops_n hTT (M:=[]) (n:=1) [pv 2 (V.b (List.all [(Act.stock a,(0:Int),(1099511627776:Int)),(Act.yield a,(1:Int),(1000:Int))] t3B))] kR kR tI ?_
  refine nK hK ?_;clear hK K
  refine aw_ret ?_
  refine xb_r ?_
  refine xt_r ?_
  rw [actB_2 e]
  refine rP (V.b (List.all [(Act.stock a,(0:Int),(1099511627776:Int)),(Act.yield a,(1:Int),(1000:Int))] t3B))
 have n2:a.kind≠2:=by simpa using c2
 refine sK fun K hK=>wR 6 ?_
 refine aops_n hTT (M:=[]) (n:=2) [pv 26 (V.b (decide (Act.kind a=3))),pv 25 (V.b (decide (Act.kind a=3)))] kR kR tI ?_
 refine nK hK ?_;clear hK K
 refine w_cond (t:=decide (Act.kind a=3)) kR (fun c3=> ?_) (fun c3=> ?_)
 ·
  have e:a.kind=3:=by simpa using c3
  refine sK fun K hK=>wR 7 ?_
  refine aops_n hTT (M:=[]) (n:=15) [pv 27 (V.ptr [V.i (Act.s0 a),V.i (Act.s1 a),V.i (Act.cur a),V.i (Act.sec a),V.i (Act.place a),V.i (Act.flaw a)]),pc 28 ((0:Int)≤(0:Int)∧(0:Int)< (↑(2:Nat):Int)) (V.ptr [V.i (Act.s0 a),V.i (Act.s1 a),V.i (Act.cur a),V.i (Act.sec a),V.i (Act.place a),V.i (Act.flaw a)]),pv 29 (V.i (Act.s0 a)),pv 30 (V.agg [V.i (Act.s0 a),V.i 0,V.i 1048576]),pv 31 (V.ptr [V.i (Act.s0 a),V.i (Act.s1 a),V.i (Act.cur a),V.i (Act.sec a),V.i (Act.place a),V.i (Act.flaw a)]),pc 32 ((0:Int)≤(1:Int)∧(1:Int)< (↑(2:Nat):Int)) (V.ptr [V.i (Act.s1 a),V.i (Act.cur a),V.i (Act.sec a),V.i (Act.place a),V.i (Act.flaw a)]),pv 33 (V.i (Act.s1 a)),pv 34 (V.agg [V.i (Act.s1 a),V.i 0,V.i 1048576]),pv 35 (V.ptr [V.i (Act.cur a),V.i (Act.sec a),V.i (Act.place a),V.i (Act.flaw a)]),pv 36 (V.i (Act.cur a)),pv 37 (V.agg [V.i (Act.cur a),V.i 0,V.i 1048576]),pv 38 (V.ptr [V.i (Act.sec a),V.i (Act.place a),V.i (Act.flaw a)]),pv 39 (V.i (Act.sec a)),pv 40 (V.agg [V.i (Act.sec a),V.i 0,V.i 1048576]),pv 41 (V.sl 3 4 fun(i:Nat)=>List.take (3:Nat) (List.drop (i*3) [V.i (Act.s0 a),V.i 0,V.i 1048576,V.i (Act.s1 a),V.i 0,V.i 1048576,V.i (Act.cur a),V.i 0,V.i 1048576,V.i (Act.sec a),V.i 0,V.i 1048576]))] kR kR ⟨oM,oM,tI⟩ ?_
  refine eC (AC.conv (all_ac [(a.s0,0,1048576),(a.s1,0,1048576),(a.cur,0,1048576),(a.sec,0,1048576)] (by simp)) (args':=[V.sl 3 4 fun(i:Nat)=>List.take (3:Nat) (List.drop (i*3) [V.i (Act.s0 a),V.i 0,V.i 1048576,V.i (Act.s1 a),V.i 0,V.i 1048576,V.i (Act.cur a),V.i 0,V.i 1048576,V.i (Act.sec a),V.i 0,V.i 1048576])]) ⟨?_,trivial⟩) ?_
  ·
   exact t3_4
  refine aops_n hTT (M:=[]) (n:=1) [pv 2 (V.b (List.all [(Act.s0 a,(0:Int),(1048576:Int)),(Act.s1 a,(0:Int),(1048576:Int)),(Act.cur a,(0:Int),(1048576:Int)),(Act.sec a,(0:Int),(1048576:Int))] t3B))] kR kR tI ?_
  refine nK hK ?_;clear hK K
  refine aw_ret ?_
  refine xb_r ?_
  refine xt_r ?_
  rw [actB_3 e]
  refine rP (V.b (List.all [(Act.s0 a,(0:Int),(1048576:Int)),(Act.s1 a,(0:Int),(1048576:Int)),(Act.cur a,(0:Int),(1048576:Int)),(Act.sec a,(0:Int),(1048576:Int))] t3B))
 have n3:a.kind≠3:=by simpa using c3
 refine sK fun K hK=>wR 7 ?_
 refine aops_n hTT (M:=[]) (n:=2) [pv 44 (V.b (decide (Act.kind a=4))),pv 43 (V.b (decide (Act.kind a=4)))] kR kR tI ?_
 refine nK hK ?_;clear hK K
 refine w_cond (t:=decide (Act.kind a=4)) kR (fun c4=> ?_) (fun c4=> ?_)
 ·
  have e:a.kind=4:=by simpa using c4
  refine sK fun K hK=>wR 8 ?_
  refine aops_n hTT (M:=[]) (n:=2) [pv 45 (V.ptr [V.i (Act.place a),V.i (Act.flaw a)]),pv 46 (V.i (Act.place a))] kR kR tI ?_
  refine eC (between7_ac a.place 0 359) ?_
  refine aops_n hTT (M:=[]) (n:=1) [pv 2 (V.b (betB (Act.place a) (0:Int) (359:Int)))] kR kR tI ?_
  refine nK hK ?_;clear hK K
  refine aw_ret ?_
  refine xb_r ?_
  refine xt_r ?_
  rw [show actB a=betB a.place 0 359 by rw [actB,if_neg n1,if_neg n2,if_neg n3,if_pos e]]
  refine rP (V.b (betB (Act.place a) (0:Int) (359:Int)))
 have n4:a.kind≠4:=by simpa using c4
 have eA:actB a=decide (a.kind=5∨a.kind=6):=by rw [actB,if_neg n1,if_neg n2,if_neg n3,if_neg n4]
 refine sK fun K hK=>sK fun K hK=>wR 8 ?_
 refine aops_n hTT (M:=[]) (n:=2) [pv 49 (V.b (decide (Act.kind a=5))),pv 48 (V.b (decide (Act.kind a=5)))] kR kR tI ?_
 refine nK hK ?_;clear hK K
 refine w_cond (t:=decide (Act.kind a=5)) kR (fun c5=> ?_) (fun c5=> ?_)
 ·
  have e:a.kind=5:=by simpa using c5
  have eB:actB a=true:=by rw [eA,e];rfl
  refine aw_skip ?_
  refine xt_n (hK _ ?_);clear hK K
  refine w_cond (t:=decide (Act.kind a=5)) kR (fun c5b=> ?_) (fun c5b=> ?_)
  ·
   refine sK fun K hK=> ?_
   refine wR 9 ?_
   refine aops_n hTT (M:=[]) (n:=1) [pv 2 (V.b true)] kR kR tI ?_
   refine nK hK ?_;clear hK K
   refine aw_ret ?_
   refine xb_r ?_
   refine xt_r ?_
   rw [eB]
   refine rP (V.b true)
  ·
   simp [e]at c5b
 have n5:a.kind≠5:=by simpa using c5
 refine wR 9 ?_
 refine aops_n hTT (M:=[]) (n:=2) [pv 50 (V.b (decide (Act.kind a=6))),pv 48 (V.b (decide (Act.kind a=6)))] kR kR tI ?_
 refine nK hK ?_;clear hK K
 refine w_cond (t:=decide (Act.kind a=6)) kR (fun c6=> ?_) (fun c6=> ?_)
 ·
  have e:a.kind=6:=by simpa using c6
  have eB:actB a=true:=by rw [eA,e];rfl
  refine sK fun K hK=>wR 10 ?_
  refine aops_n hTT (M:=[]) (n:=1) [pv 2 (V.b true)] kR kR tI ?_
  refine nK hK ?_;clear hK K
  refine aw_ret ?_
  refine xb_r ?_
  refine xt_r ?_
  rw [eB]
  refine rP (V.b true)
 ·
  have n6:a.kind≠6:=by simpa using c6
  have eB:actB a=false:=by rw [eA];exact decide_eq_false oM
  refine aw_skip ?_
  refine xb_n (xt_n (hK _ ?_));clear hK K;refine sK fun K hK=>wR 10 ?_
  refine aops_n hTT (M:=[]) (n:=1) [pv 2 (V.b false)] kR kR tI ?_
  refine nK hK ?_;clear hK K
  refine aw_ret ?_
  rw [eB]
  refine rP (V.b false)
abbrev yySH10:=((0:Int)≤(1:Int)∧(1:Int)< (↑(4:Nat):Int))
abbrev yySH11:=((0:Int)≤(2:Int)∧(2:Int)< (↑(4:Nat):Int))
abbrev yySH12:=((0:Int)≤(3:Int)∧(3:Int)< (↑(4:Nat):Int))
set_option maxRecDepth 100000 in
theorem checkRecipe_ac(r:Rc)(h:r.ok):AC Tryz.prog 48 [r.v] (.i 0) []:=by
 obtain⟨h1,h2,h3,h4,h5,h6,h7,h8⟩:=h
 refine acI hTT hMX Tryz.func48 Tryz.ntmps48 fun C hC hF=> ?_
 refine sK fun K hK=>wR 2 ?_
 refine aops_n hTT (M:=[]) (n:=2) [pv 1 (V.ptr [V.i (Rc.n0 r),V.i (Rc.n1 r),V.i (Rc.n2 r),V.i (Rc.n3 r),V.i (Rc.k0 r),V.i (Rc.k1 r),V.i (Rc.k2 r),V.i (Rc.k3 r),V.i (Rc.seed r),V.i (Rc.soft r),V.i (Rc.hard r),V.i (Rc.mo r),V.i (Rc.st r)]),pv 2 (V.i 0)] kR kR tI ?_
 refine nK hK ?_;clear hK K;refine sK fun K hK=>sK fun K hK=>wR 3 ?_
 refine aops_n hTT (M:=[]) (n:=1) [pv 3 (V.i 1)] kR kR tI ?_
 refine nK hK ?_;clear hK K
 refine aw_block ?_
 refine aw_rounds 5 ?_
 refine awr_succ (m:=4) fun K hK=> ?_
 refine sK fun K hK=>sK fun K hK=>wR 4 ?_
 refine aops_n hTT (M:=[]) (n:=2) [pv 4 (V.i 1),pv 5 (V.b true)] kR kR tI ?_
 refine nK hK ?_;clear hK K;refine w_true (t:=true) kR rfl ?_
 refine aw_skip ?_
 refine xt_n (hK _ ?_);clear hK K;refine sK fun K hK=> ?_
 refine aw_block ?_
 refine sK fun K hK=>wD 5 ?_
 refine aops_n hTT (M:=[]) (n:=15) [pv 8 (V.i 1),pv 9 (V.ptr [V.i (Rc.k0 r),V.i (Rc.k1 r),V.i (Rc.k2 r),V.i (Rc.k3 r),V.i (Rc.seed r),V.i (Rc.soft r),V.i (Rc.hard r),V.i (Rc.mo r),V.i (Rc.st r)]),pc 10 yySH10 (V.ptr [V.i (Rc.k1 r),V.i (Rc.k2 r),V.i (Rc.k3 r),V.i (Rc.seed r),V.i (Rc.soft r),V.i (Rc.hard r),V.i (Rc.mo r),V.i (Rc.st r)]),pv 11 (V.i (Rc.k1 r)),pv 12 (V.agg [V.i (Rc.k1 r),V.i 0,V.i 1073741824]),pv 13 (V.i 1),pv 14 (V.ptr [V.i (Rc.n0 r),V.i (Rc.n1 r),V.i (Rc.n2 r),V.i (Rc.n3 r),V.i (Rc.k0 r),V.i (Rc.k1 r),V.i (Rc.k2 r),V.i (Rc.k3 r),V.i (Rc.seed r),V.i (Rc.soft r),V.i (Rc.hard r),V.i (Rc.mo r),V.i (Rc.st r)]),pc 15 yySH10 (V.ptr [V.i (Rc.n1 r),V.i (Rc.n2 r),V.i (Rc.n3 r),V.i (Rc.k0 r),V.i (Rc.k1 r),V.i (Rc.k2 r),V.i (Rc.k3 r),V.i (Rc.seed r),V.i (Rc.soft r),V.i (Rc.hard r),V.i (Rc.mo r),V.i (Rc.st r)]),pv 16 (V.i (Rc.n1 r)),pv 17 (V.i 1),pv 18 (V.ptr [V.i (Rc.k0 r),V.i (Rc.k1 r),V.i (Rc.k2 r),V.i (Rc.k3 r),V.i (Rc.seed r),V.i (Rc.soft r),V.i (Rc.hard r),V.i (Rc.mo r),V.i (Rc.st r)]),pc 19 yySH10 (V.ptr [V.i (Rc.k1 r),V.i (Rc.k2 r),V.i (Rc.k3 r),V.i (Rc.seed r),V.i (Rc.soft r),V.i (Rc.hard r),V.i (Rc.mo r),V.i (Rc.st r)]),pv 20 (V.i (Rc.k1 r)),pv 21 (V.agg [V.i (Rc.n1 r),V.i 0,V.i (Rc.k1 r)]),pv 22 (V.sl 3 2 fun(i:Nat)=>List.take (3:Nat) (List.drop (i*3) [V.i (Rc.k1 r),V.i 0,V.i 1073741824,V.i (Rc.n1 r),V.i 0,V.i (Rc.k1 r)]))] kR kR ⟨oM,oM,oM,tI⟩ ?_
 refine eC (AC.conv (all_ac [(r.k1,0,1073741824),(r.n1,0,r.k1)] (by simp)) (args':=[V.sl 3 2 fun(i:Nat)=>List.take (3:Nat) (List.drop (i*3) [V.i (Rc.k1 r),V.i 0,V.i 1073741824,V.i (Rc.n1 r),V.i 0,V.i (Rc.k1 r)])]) ⟨?_,trivial⟩) ?_
 ·
  exact t3_2
 rw [show [((r.k1,0,1073741824):T3),(r.n1,0,r.k1)].all t3B=true by simp [t3B,betB];omega]
 refine aops_n hTT (M:=[]) (n:=1) [pv 24 (V.b false)] kR kR tI ?_
 refine aops_nil ⟨kR,(xt_n (hK _ ?_))⟩;clear hK K;refine w_false (t:=false) kR rfl ?_
 refine aw_skip ?_
 refine xb_n (xt_n (hK _ ?_));clear hK K;refine wR 6 ?_
 refine aops_n hTT (M:=[]) (n:=3) [pv 6 (V.i 1),pc 7 ((-9223372036854775808:Int)≤(1:Int)+(1:Int)∧(1:Int)+(1:Int)≤(9223372036854775807:Int)) (V.i 2),pv 3 (V.i 2)] kR kR ⟨oM,tI⟩ ?_
 refine nK hK ?_;clear hK K
 refine awr_succ (m:=3) fun K hK=> ?_
 refine sK fun K hK=>sK fun K hK=>wR 7 ?_
 refine aops_n hTT (M:=[]) (n:=2) [pv 4 (V.i 2),pv 5 (V.b true)] kR kR tI ?_
 refine nK hK ?_;clear hK K;refine w_true (t:=true) kR rfl ?_
 refine aw_skip ?_
 refine xt_n (hK _ ?_);clear hK K;refine sK fun K hK=> ?_
 refine aw_block ?_
 refine sK fun K hK=>wD 8 ?_
 refine aops_n hTT (M:=[]) (n:=15) [pv 8 (V.i 2),pv 9 (V.ptr [V.i (Rc.k0 r),V.i (Rc.k1 r),V.i (Rc.k2 r),V.i (Rc.k3 r),V.i (Rc.seed r),V.i (Rc.soft r),V.i (Rc.hard r),V.i (Rc.mo r),V.i (Rc.st r)]),pc 10 yySH11 (V.ptr [V.i (Rc.k2 r),V.i (Rc.k3 r),V.i (Rc.seed r),V.i (Rc.soft r),V.i (Rc.hard r),V.i (Rc.mo r),V.i (Rc.st r)]),pv 11 (V.i (Rc.k2 r)),pv 12 (V.agg [V.i (Rc.k2 r),V.i 0,V.i 1073741824]),pv 13 (V.i 2),pv 14 (V.ptr [V.i (Rc.n0 r),V.i (Rc.n1 r),V.i (Rc.n2 r),V.i (Rc.n3 r),V.i (Rc.k0 r),V.i (Rc.k1 r),V.i (Rc.k2 r),V.i (Rc.k3 r),V.i (Rc.seed r),V.i (Rc.soft r),V.i (Rc.hard r),V.i (Rc.mo r),V.i (Rc.st r)]),pc 15 yySH11 (V.ptr [V.i (Rc.n2 r),V.i (Rc.n3 r),V.i (Rc.k0 r),V.i (Rc.k1 r),V.i (Rc.k2 r),V.i (Rc.k3 r),V.i (Rc.seed r),V.i (Rc.soft r),V.i (Rc.hard r),V.i (Rc.mo r),V.i (Rc.st r)]),pv 16 (V.i (Rc.n2 r)),pv 17 (V.i 2),pv 18 (V.ptr [V.i (Rc.k0 r),V.i (Rc.k1 r),V.i (Rc.k2 r),V.i (Rc.k3 r),V.i (Rc.seed r),V.i (Rc.soft r),V.i (Rc.hard r),V.i (Rc.mo r),V.i (Rc.st r)]),pc 19 yySH11 (V.ptr [V.i (Rc.k2 r),V.i (Rc.k3 r),V.i (Rc.seed r),V.i (Rc.soft r),V.i (Rc.hard r),V.i (Rc.mo r),V.i (Rc.st r)]),pv 20 (V.i (Rc.k2 r)),pv 21 (V.agg [V.i (Rc.n2 r),V.i 0,V.i (Rc.k2 r)]),pv 22 (V.sl 3 2 fun(i:Nat)=>List.take (3:Nat) (List.drop (i*3) [V.i (Rc.k2 r),V.i 0,V.i 1073741824,V.i (Rc.n2 r),V.i 0,V.i (Rc.k2 r)]))] kR kR ⟨oM,oM,oM,tI⟩ ?_
 refine eC (AC.conv (all_ac [(r.k2,0,1073741824),(r.n2,0,r.k2)] (by simp)) (args':=[V.sl 3 2 fun(i:Nat)=>List.take (3:Nat) (List.drop (i*3) [V.i (Rc.k2 r),V.i 0,V.i 1073741824,V.i (Rc.n2 r),V.i 0,V.i (Rc.k2 r)])]) ⟨?_,trivial⟩) ?_
 ·
  exact t3_2
 rw [show [((r.k2,0,1073741824):T3),(r.n2,0,r.k2)].all t3B=true by simp [t3B,betB];omega]
 refine aops_n hTT (M:=[]) (n:=1) [pv 24 (V.b false)] kR kR tI ?_
 refine aops_nil ⟨kR,(xt_n (hK _ ?_))⟩;clear hK K;refine w_false (t:=false) kR rfl ?_
 refine aw_skip ?_
 refine xb_n (xt_n (hK _ ?_));clear hK K;refine wR 9 ?_
 refine aops_n hTT (M:=[]) (n:=3) [pv 6 (V.i 2),pc 7 ((-9223372036854775808:Int)≤(2:Int)+(1:Int)∧(2:Int)+(1:Int)≤(9223372036854775807:Int)) (V.i 3),pv 3 (V.i 3)] kR kR ⟨oM,tI⟩ ?_
 refine nK hK ?_;clear hK K
 refine awr_succ (m:=2) fun K hK=> ?_
 refine sK fun K hK=>sK fun K hK=>wR 10 ?_
 refine aops_n hTT (M:=[]) (n:=2) [pv 4 (V.i 3),pv 5 (V.b true)] kR kR tI ?_
 refine nK hK ?_;clear hK K;refine w_true (t:=true) kR rfl ?_
 refine aw_skip ?_
 refine xt_n (hK _ ?_);clear hK K;refine sK fun K hK=> ?_
 refine aw_block ?_
 refine sK fun K hK=>wD 11 ?_
 refine aops_n hTT (M:=[]) (n:=15) [pv 8 (V.i 3),pv 9 (V.ptr [V.i (Rc.k0 r),V.i (Rc.k1 r),V.i (Rc.k2 r),V.i (Rc.k3 r),V.i (Rc.seed r),V.i (Rc.soft r),V.i (Rc.hard r),V.i (Rc.mo r),V.i (Rc.st r)]),pc 10 yySH12 (V.ptr [V.i (Rc.k3 r),V.i (Rc.seed r),V.i (Rc.soft r),V.i (Rc.hard r),V.i (Rc.mo r),V.i (Rc.st r)]),pv 11 (V.i (Rc.k3 r)),pv 12 (V.agg [V.i (Rc.k3 r),V.i 0,V.i 1073741824]),pv 13 (V.i 3),pv 14 (V.ptr [V.i (Rc.n0 r),V.i (Rc.n1 r),V.i (Rc.n2 r),V.i (Rc.n3 r),V.i (Rc.k0 r),V.i (Rc.k1 r),V.i (Rc.k2 r),V.i (Rc.k3 r),V.i (Rc.seed r),V.i (Rc.soft r),V.i (Rc.hard r),V.i (Rc.mo r),V.i (Rc.st r)]),pc 15 yySH12 (V.ptr [V.i (Rc.n3 r),V.i (Rc.k0 r),V.i (Rc.k1 r),V.i (Rc.k2 r),V.i (Rc.k3 r),V.i (Rc.seed r),V.i (Rc.soft r),V.i (Rc.hard r),V.i (Rc.mo r),V.i (Rc.st r)]),pv 16 (V.i (Rc.n3 r)),pv 17 (V.i 3),pv 18 (V.ptr [V.i (Rc.k0 r),V.i (Rc.k1 r),V.i (Rc.k2 r),V.i (Rc.k3 r),V.i (Rc.seed r),V.i (Rc.soft r),V.i (Rc.hard r),V.i (Rc.mo r),V.i (Rc.st r)]),pc 19 yySH12 (V.ptr [V.i (Rc.k3 r),V.i (Rc.seed r),V.i (Rc.soft r),V.i (Rc.hard r),V.i (Rc.mo r),V.i (Rc.st r)]),pv 20 (V.i (Rc.k3 r)),pv 21 (V.agg [V.i (Rc.n3 r),V.i 0,V.i (Rc.k3 r)]),pv 22 (V.sl 3 2 fun(i:Nat)=>List.take (3:Nat) (List.drop (i*3) [V.i (Rc.k3 r),V.i 0,V.i 1073741824,V.i (Rc.n3 r),V.i 0,V.i (Rc.k3 r)]))] kR kR ⟨oM,oM,oM,tI⟩ ?_
 refine eC (AC.conv (all_ac [(r.k3,0,1073741824),(r.n3,0,r.k3)] (by simp)) (args':=[V.sl 3 2 fun(i:Nat)=>List.take (3:Nat) (List.drop (i*3) [V.i (Rc.k3 r),V.i 0,V.i 1073741824,V.i (Rc.n3 r),V.i 0,V.i (Rc.k3 r)])]) ⟨?_,trivial⟩) ?_
 ·
  exact t3_2
 rw [show [((r.k3,0,1073741824):T3),(r.n3,0,r.k3)].all t3B=true by simp [t3B,betB];omega]
 refine aops_n hTT (M:=[]) (n:=1) [pv 24 (V.b false)] kR kR tI ?_
 refine aops_nil ⟨kR,(xt_n (hK _ ?_))⟩;clear hK K;refine w_false (t:=false) kR rfl ?_
 refine aw_skip ?_
 refine xb_n (xt_n (hK _ ?_));clear hK K;refine wR 12 ?_
 refine aops_n hTT (M:=[]) (n:=3) [pv 6 (V.i 3),pc 7 ((-9223372036854775808:Int)≤(3:Int)+(1:Int)∧(3:Int)+(1:Int)≤(9223372036854775807:Int)) (V.i 4),pv 3 (V.i 4)] kR kR ⟨oM,tI⟩ ?_
 refine nK hK ?_;clear hK K
 refine awr_succ (m:=1) fun K hK=> ?_
 refine sK fun K hK=>sK fun K hK=>wR 13 ?_
 refine aops_n hTT (M:=[]) (n:=2) [pv 4 (V.i 4),pv 5 (V.b false)] kR kR tI ?_
 refine nK hK ?_;clear hK K;refine w_false (t:=false) kR rfl ?_
 refine aw_exit ?_
 refine xt_x ?_;refine xt_x ?_
 refine xb_same ?_
 refine xt_n ?_;clear hK K;clear hK K;refine hK _ ?_;clear hK K;refine sK fun K hK=>sK fun K hK=>wR 14 ?_
 refine aops_n hTT (M:=[]) (n:=16) [pv 25 (V.ptr [V.i (Rc.seed r),V.i (Rc.soft r),V.i (Rc.hard r),V.i (Rc.mo r),V.i (Rc.st r)]),pv 26 (V.i (Rc.seed r)),pv 27 (V.agg [V.i (Rc.seed r),V.i 0,V.i 1073741824]),pv 28 (V.ptr [V.i (Rc.soft r),V.i (Rc.hard r),V.i (Rc.mo r),V.i (Rc.st r)]),pv 29 (V.i (Rc.soft r)),pv 30 (V.agg [V.i (Rc.soft r),V.i 0,V.i 1048576]),pv 31 (V.ptr [V.i (Rc.hard r),V.i (Rc.mo r),V.i (Rc.st r)]),pv 32 (V.i (Rc.hard r)),pv 33 (V.agg [V.i (Rc.hard r),V.i 0,V.i 1048576]),pv 34 (V.ptr [V.i (Rc.mo r),V.i (Rc.st r)]),pv 35 (V.i (Rc.mo r)),pv 36 (V.agg [V.i (Rc.mo r),V.i 1,V.i 16]),pv 37 (V.ptr [V.i (Rc.st r)]),pv 38 (V.i (Rc.st r)),pv 39 (V.agg [V.i (Rc.st r),V.i 1,V.i 16]),pv 40 (V.sl 3 5 fun(i:Nat)=>List.take (3:Nat) (List.drop (i*3) [V.i (Rc.seed r),V.i 0,V.i 1073741824,V.i (Rc.soft r),V.i 0,V.i 1048576,V.i (Rc.hard r),V.i 0,V.i 1048576,V.i (Rc.mo r),V.i 1,V.i 16,V.i (Rc.st r),V.i 1,V.i 16]))] kR kR tI ?_
 refine eC (AC.conv (all_ac [(r.seed,0,1073741824),(r.soft,0,1048576),(r.hard,0,1048576),(r.mo,1,16),(r.st,1,16)] (by simp)) (args':=[V.sl 3 5 fun(i:Nat)=>List.take (3:Nat) (List.drop (i*3) [V.i (Rc.seed r),V.i 0,V.i 1073741824,V.i (Rc.soft r),V.i 0,V.i 1048576,V.i (Rc.hard r),V.i 0,V.i 1048576,V.i (Rc.mo r),V.i 1,V.i 16,V.i (Rc.st r),V.i 1,V.i 16])]) ⟨?_,trivial⟩) ?_
 ·
  exact t3_5
 rw [show [((r.seed,0,1073741824):T3),(r.soft,0,1048576),(r.hard,0,1048576),(r.mo,1,16),(r.st,1,16)].all t3B=true by simp [t3B,betB];omega]
 refine aops_n hTT (M:=[]) (n:=1) [pv 42 (V.b false)] kR kR tI ?_
 refine nK hK ?_;clear hK K;refine w_false (t:=false) kR rfl ?_
 refine aw_skip ?_
 refine xt_n (hK _ ?_);clear hK K;refine sK fun K hK=>wR 15 ?_
 refine aops_n hTT (M:=[]) (n:=1) [pv 2 (V.i 0)] kR kR tI ?_
 refine nK hK ?_;clear hK K
 refine aw_ret ?_
 refine rP (V.i 0)
set_option maxRecDepth 100000 in
theorem New_ac(r:Rc)(h:r.ok):AC Tryz.prog 12 [r.v] (.tup [.ref 0 0,.i 0]) [.box 123 (shC r .nil .nil .nil .nil)]:=by
 refine acI hTT hMX Tryz.func12 Tryz.ntmps12 fun C hC hF=> ?_
 refine sK fun K hK=>wR 2 ?_
 refine aops_n hTT (M:=[]) (n:=3) [pv 1 (V.ptr [V.i (Rc.n0 r),V.i (Rc.n1 r),V.i (Rc.n2 r),V.i (Rc.n3 r),V.i (Rc.k0 r),V.i (Rc.k1 r),V.i (Rc.k2 r),V.i (Rc.k3 r),V.i (Rc.seed r),V.i (Rc.soft r),V.i (Rc.hard r),V.i (Rc.mo r),V.i (Rc.st r)]),pv 2 (V.c (Value.pointer none)),pv 3 (V.i 0)] kR kR tI ?_
 refine nK hK ?_;clear hK K;refine sK fun K hK=>sK fun K hK=>wR 3 ?_
 refine aops_n hTT (M:=[]) (n:=1) [pv 5 (V.agg [V.i (Rc.n0 r),V.i (Rc.n1 r),V.i (Rc.n2 r),V.i (Rc.n3 r),V.i (Rc.k0 r),V.i (Rc.k1 r),V.i (Rc.k2 r),V.i (Rc.k3 r),V.i (Rc.seed r),V.i (Rc.soft r),V.i (Rc.hard r),V.i (Rc.mo r),V.i (Rc.st r)])] kR kR tI ?_
 refine eC (checkRecipe_ac r h) ?_
 refine aops_n hTT (M:=[12]) (n:=1) [pv 4 (V.i 0)] kR kR tI ?_
 refine nK hK ?_;clear hK K;refine sK fun K hK=>wR 4 ?_
 refine aops_n hTT (M:=[12]) (n:=2) [pv 7 (V.i 0),pv 8 (V.b false)] kR kR tI ?_
 refine nK hK ?_;clear hK K;refine w_false (t:=false) kR rfl ?_
 refine aw_skip ?_
 refine xt_n (hK _ ?_);clear hK K;refine sK fun K hK=>wR 5 ?_
 refine aops_n hTT (M:=[12]) (n:=5) [pv 10 (V.agg [V.i (Rc.n0 r),V.i (Rc.n1 r),V.i (Rc.n2 r),V.i (Rc.n3 r),V.i (Rc.k0 r),V.i (Rc.k1 r),V.i (Rc.k2 r),V.i (Rc.k3 r),V.i (Rc.seed r),V.i (Rc.soft r),V.i (Rc.hard r),V.i (Rc.mo r),V.i (Rc.st r)]),pv 11 (V.agg [V.b true,V.i (Rc.n0 r),V.i (Rc.n1 r),V.i (Rc.n2 r),V.i (Rc.n3 r),V.i (Rc.k0 r),V.i (Rc.k1 r),V.i (Rc.k2 r),V.i (Rc.k3 r),V.i (Rc.seed r),V.i (Rc.soft r),V.i (Rc.hard r),V.i (Rc.mo r),V.i (Rc.st r),V.nil,V.nil,V.nil,V.nil]),pn 12 (V.ref 400012 0) (400012:Nat) (Ob.box 123 [V.b true,V.i (Rc.n0 r),V.i (Rc.n1 r),V.i (Rc.n2 r),V.i (Rc.n3 r),V.i (Rc.k0 r),V.i (Rc.k1 r),V.i (Rc.k2 r),V.i (Rc.k3 r),V.i (Rc.seed r),V.i (Rc.soft r),V.i (Rc.hard r),V.i (Rc.mo r),V.i (Rc.st r),V.nil,V.nil,V.nil,V.nil]),pv 2 (V.ref 400012 0),pv 3 (V.i 0)] kR kR tI ?_
 refine nK hK ?_;clear hK K
 refine aw_ret ?_
 skip
 refine ret_own [(0,400012)] [(2,V.ref 0 0),(3,V.i 0)] (.inr rfl) (.cons kR (.cons kR .nil)) (.cons ⟨Ob.box 123 [V.b true,V.i (Rc.n0 r),V.i (Rc.n1 r),V.i (Rc.n2 r),V.i (Rc.n3 r),V.i (Rc.k0 r),V.i (Rc.k1 r),V.i (Rc.k2 r),V.i (Rc.k3 r),V.i (Rc.seed r),V.i (Rc.soft r),V.i (Rc.hard r),V.i (Rc.mo r),V.i (Rc.st r),V.nil,V.nil,V.nil,V.nil],kR,.box kR⟩ .nil) kR kR kR kR
end Go.Proofs.YtjmbpjlojjgggaaGreatDoor

namespace Go.Proofs.YtjmbpjlojjgggaaGreatDoor
open Go.Ab Go.RowKit Go.Dw Go.Shelf
set_option maxRecDepth 100000 in
theorem bad_ac(r:Rc)(p t f a:V):AC Tryz.prog 49 [.ptr (shC r p t f a)] (.b false) []:=by
 refine acI hTT hMX Tryz.func49 Tryz.ntmps49 fun C hC hF=> ?_
 refine sK fun K hK=>wR 2 ?_;refine aY hTT 1 [] ?_;refine nK hK ?_;clear hK K;refine sK fun K hK=>wR 3 ?_;refine aY hTT 10 [] ?_;refine nK hK ?_;clear hK K
 refine aw_ret ?_
 refine rP (V.b false)
theorem frow_get(k:Nat)(u:V):RImp (.alt (decide (k=k)) u .any) u:=fun w L y h=>h.alt_t (by simp)
set_option maxRecDepth 100000 in
theorem getF_ac(r:Rc)(n:Nat)(x:Nat→Value)(t f a:V)(pc:List V)(hu:V.idfL pc=true)(k:Nat)(hk:k< n)(hn:n≤1000000):AC Tryz.prog 71 [.ptr (shC r (.sl 1 n (frow k (.ptr pc) x)) t f a),.i k] (.ptr pc) []:=by
 refine AC.res (v:= .alt (decide (k=k)) (.ptr pc) .any) ?_ (by simp [V.idf,hu]) (frow_get k _)
 refine acI hTT hMX Tryz.func71 Tryz.ntmps71 fun C hC hF=> ?_
 refine sK fun K hK=>wR 2 ?_;refine aY hTT 1 [] ?_;refine nK hK ?_;clear hK K;refine sK fun K hK=> ?_;refine sX hTT 3 11 [(3,.r (Ab.pc 8 ((True∧True)∧((decide ((↑k:Int)< 0) == false)=true→True)) (V.gd (decide ((↑k:Int)< 0) == false) (V.i (↑k:Int))))),(4,.r (Ab.pc 9 ((True∧True)∧((decide ((↑k:Int)< 0) == false)=true→True)) (V.gd (decide ((↑k:Int)< 0) == false) (V.ptr [V.b true,V.i (Rc.n0 r),V.i (Rc.n1 r),V.i (Rc.n2 r),V.i (Rc.n3 r),V.i (Rc.k0 r),V.i (Rc.k1 r),V.i (Rc.k2 r),V.i (Rc.k3 r),V.i (Rc.seed r),V.i (Rc.soft r),V.i (Rc.hard r),V.i (Rc.mo r),V.i (Rc.st r),V.sl 1 n (frow k (V.ptr pc) x),t,f,a])))),(5,.r (Ab.pc 10 ((((decide ((↑k:Int)< 0) == false)=true→(decide ((↑k:Int)< 0) == false)=true)∧True)∧((decide ((↑k:Int)< 0) == false)=true→True)) (V.gd (decide ((↑k:Int)< 0) == false) (V.ptr [V.b true,V.i (Rc.n0 r),V.i (Rc.n1 r),V.i (Rc.n2 r),V.i (Rc.n3 r),V.i (Rc.k0 r),V.i (Rc.k1 r),V.i (Rc.k2 r),V.i (Rc.k3 r),V.i (Rc.seed r),V.i (Rc.soft r),V.i (Rc.hard r),V.i (Rc.mo r),V.i (Rc.st r),V.sl 1 n (frow k (V.ptr pc) x),t,f,a])))),(6,.r (Ab.pc 11 ((((decide ((↑k:Int)< 0) == false)=true→(decide ((↑k:Int)< 0) == false)=true)∧True)∧((decide ((↑k:Int)< 0) == false)=true→True)) (V.gd (decide ((↑k:Int)< 0) == false) (V.ptr [V.sl 1 n (frow k (V.ptr pc) x),t,f,a])))),(7,.r (Ab.pc 12 ((((decide ((↑k:Int)< 0) == false)=true→(decide ((↑k:Int)< 0) == false)=true)∧True)∧((decide ((↑k:Int)< 0) == false)=true→True)) (V.gd (decide ((↑k:Int)< 0) == false) (V.sl 1 n (frow k (V.ptr pc) x))))),(8,.r (Ab.pc 13 ((((decide ((↑k:Int)< 0) == false)=true→(decide ((↑k:Int)< 0) == false)=true)∧True)∧((decide ((↑k:Int)< 0) == false)=true→True)) (V.gd (decide ((↑k:Int)< 0) == false) (V.i (↑n:Int))))),(9,.r (Ab.pc 14 ((((decide ((↑k:Int)< 0) == false)=true→(decide ((↑k:Int)< 0) == false)=true)∧((decide ((↑k:Int)< 0) == false)=true→(decide ((↑k:Int)< 0) == false)=true)∧True)∧((decide ((↑k:Int)< 0) == false)=true→True)) (V.gd (decide ((↑k:Int)< 0) == false) (V.b (decide ((↑n:Int)≤(↑k:Int))))))),(10,.r (Ab.pc 15 (True∧(decide ((↑k:Int)< 0)=false→(decide ((↑k:Int)< 0) == false)=true)) (V.b (decide ((↑k:Int)< 0) || decide ((↑n:Int)≤(↑k:Int))))))] ⟨⟨⟨tI,tI⟩,(fun _=>tI)⟩,⟨⟨tI,tI⟩,(fun _=>tI)⟩,⟨⟨(by(exact fun h=>h)),tI⟩,(fun _=>tI)⟩,⟨⟨(by(exact fun h=>h)),tI⟩,(fun _=>tI)⟩,⟨⟨(by(exact fun h=>h)),tI⟩,(fun _=>tI)⟩,⟨⟨(by(exact fun h=>h)),tI⟩,(fun _=>tI)⟩,⟨⟨(by(exact fun h=>h)),⟨(by(exact fun h=>h)),tI⟩⟩,(fun _=>tI)⟩,⟨tI,(by(intro h;rw [h];rfl))⟩,tI⟩ ?_
 refine w_cond (t:=decide ((↑k:Int)< 0) || decide ((↑n:Int)≤(↑k:Int))) kR (fun c1=> ?_) (fun c1=> ?_)
 ·
  simp at c1;omega
 refine aw_skip ?_
 refine xt_n (hK _ ?_);clear hK K;refine sX hTT 4 8 [(5,.r (Ab.pc 21 ((0:Int)≤(↑k:Int)∧(↑k:Int)< (↑n:Int)) (V.ptr [V.alt (decide (k=k)) (V.ptr pc) V.any])))] ⟨oM,tI⟩ ?_
 refine aw_ret ?_
 refine rP (V.alt (decide (k=k)) (V.ptr pc) V.any)
set_option maxRecDepth 100000 in
theorem getN_ac(r:Rc)(n:Nat)(c:Nat→List V)(t f a:V)(k:Int)(hk:¬(0≤k∧k< n))(hn:n≤1000000):AC Tryz.prog 71 [.ptr (shC r (.sl 1 n c) t f a),.i k] (.c (.pointer none)) []:=by
 refine acI hTT hMX Tryz.func71 Tryz.ntmps71 fun C hC hF=> ?_
 refine sK fun K hK=>wR 2 ?_;refine aY hTT 1 [] ?_;refine nK hK ?_;clear hK K;refine sK fun K hK=>sK fun K hK=>wR 3 ?_;refine aY hTT 11 [] ?_;refine nK hK ?_;clear hK K
 refine w_cond (t:=decide (k< 0) || decide ((↑n:Int)≤k)) kR (fun c1=> ?_) (fun c1=> ?_)
 ·
  refine sK fun K hK=> ?_
  refine wR 4 ?_;refine aY hTT 1 [] ?_;refine nK hK ?_;clear hK K
  refine aw_ret ?_
  refine xt_r ?_
  refine rP (V.c (Value.pointer none))
 ·
  simp at c1;omega
set_option maxRecDepth 100000 in
theorem room_ac(r:Rc)(hr:r.ok)(t1 t2 t3 t4:V)(p:Pl)(hp:p.ok)(f:V):AC Tryz.prog 83 [.ptr (shC r t1 t2 t3 t4),.ptr (p.c++[f])] (.i (roomP r p)) []:=by
 obtain⟨h1,h2,h3⟩:=hp
 have hm:=hr.mo
 have hs:=hr.st
 obtain⟨kd,par,cut,area,thick,gr,ret,cnt,fl⟩:=p
 have h4:0≤gr∧gr≤1000:=h3
 cases ret with
 |true=>
  show AC Tryz.prog 83 [.ptr (shC r t1 t2 t3 t4),.ptr [.i kd,.i par,.i cut,.i area,.i thick,.i gr,.b true,f]] (.i (0)) []
  refine acI hTT hMX Tryz.func83 Tryz.ntmps83 fun C hC hF=> ?_
  refine sK fun K hK=>wR 2 ?_;refine aY hTT 1 [] ?_;refine nK hK ?_;clear hK K;refine sK fun K hK=>sK fun K hK=>wR 3 ?_;refine aY hTT 5 [] ?_;refine nK hK ?_;clear hK K;refine w_true (t:=true) kR rfl (sK fun K hK=>wR 4 ?_);refine aY hTT 1 [] ?_;refine nK hK ?_;clear hK K
  refine aw_ret ?_
  refine xt_r ?_
  refine rP (V.i 0)
 |false=>
  match kd,h1 with
  |0,_=>
   show AC Tryz.prog 83 [.ptr (shC r t1 t2 t3 t4),.ptr [.i 0,.i par,.i cut,.i area,.i thick,.i gr,.b false,f]] (.i (max 0 (1- gr))) []
   refine acI hTT hMX Tryz.func83 Tryz.ntmps83 fun C hC hF=> ?_
   refine sK fun K hK=>wR 2 ?_;refine aY hTT 1 [] ?_;refine nK hK ?_;clear hK K;refine sK fun K hK=>sK fun K hK=>wR 3 ?_;refine aY hTT 5 [] ?_;refine nK hK ?_;clear hK K;refine w_false (t:=false) kR rfl ?_
   refine aw_skip ?_
   refine xt_n (hK _ ?_);clear hK K;refine sK fun K hK=>wD 4 ?_;refine aY hTT 25 [(16,.d),(5,.c (iR ((1:Int)- gr)) oM)] ?_;refine aops_nil ⟨kR,(xt_n (hK _ ?_))⟩;clear hK K
   refine aw_ret ?_
   refine rP (V.i (max (0:Int) ((1:Int)- gr)))
  |1,_=>
   show AC Tryz.prog 83 [.ptr (shC r t1 t2 t3 t4),.ptr [.i 1,.i par,.i cut,.i area,.i thick,.i gr,.b false,f]] (.i (max 0 (r.mo- gr))) []
   refine acI hTT hMX Tryz.func83 Tryz.ntmps83 fun C hC hF=> ?_
   refine sK fun K hK=>wR 2 ?_;refine aY hTT 1 [] ?_;refine nK hK ?_;clear hK K;refine sK fun K hK=>sK fun K hK=>wR 3 ?_;refine aY hTT 5 [] ?_;refine nK hK ?_;clear hK K;refine w_false (t:=false) kR rfl ?_
   refine aw_skip ?_
   refine xt_n (hK _ ?_);clear hK K;refine sK fun K hK=>wD 4 ?_;refine aY hTT 25 [(16,.d),(5,.c (iR (Rc.mo r- gr)) oM)] ?_;refine aops_nil ⟨kR,(xt_n (hK _ ?_))⟩;clear hK K
   refine aw_ret ?_
   refine rP (V.i (max (0:Int) (Rc.mo r- gr)))
  |2,_=>
   show AC Tryz.prog 83 [.ptr (shC r t1 t2 t3 t4),.ptr [.i 2,.i par,.i cut,.i area,.i thick,.i gr,.b false,f]] (.i (max 0 (r.st- gr))) []
   refine acI hTT hMX Tryz.func83 Tryz.ntmps83 fun C hC hF=> ?_
   refine sK fun K hK=>wR 2 ?_;refine aY hTT 1 [] ?_;refine nK hK ?_;clear hK K;refine sK fun K hK=>sK fun K hK=>wR 3 ?_;refine aY hTT 5 [] ?_;refine nK hK ?_;clear hK K;refine w_false (t:=false) kR rfl ?_
   refine aw_skip ?_
   refine xt_n (hK _ ?_);clear hK K;refine sK fun K hK=>wD 4 ?_;refine aY hTT 25 [(16,.d),(5,.c (iR (Rc.st r- gr)) oM)] ?_;refine aops_nil ⟨kR,(xt_n (hK _ ?_))⟩;clear hK K
   refine aw_ret ?_
   refine rP (V.i (max (0:Int) (Rc.st r- gr)))
  |3,_=>
   show AC Tryz.prog 83 [.ptr (shC r t1 t2 t3 t4),.ptr [.i 3,.i par,.i cut,.i area,.i thick,.i gr,.b false,f]] (.i (max 0 (0- gr))) []
   refine acI hTT hMX Tryz.func83 Tryz.ntmps83 fun C hC hF=> ?_
   refine sK fun K hK=>wR 2 ?_;refine aY hTT 1 [] ?_;refine nK hK ?_;clear hK K;refine sK fun K hK=>sK fun K hK=>wR 3 ?_;refine aY hTT 5 [] ?_;refine nK hK ?_;clear hK K;refine w_false (t:=false) kR rfl ?_
   refine aw_skip ?_
   refine xt_n (hK _ ?_);clear hK K;refine sK fun K hK=>wD 4 ?_;refine aY hTT 25 [(16,.d),(5,.c (iR ((0:Int)- gr)) oM)] ?_;refine aops_nil ⟨kR,(xt_n (hK _ ?_))⟩;clear hK K
   refine aw_ret ?_
   refine rP (V.i (max (0:Int) ((0:Int)- gr)))
end Go.Proofs.YtjmbpjlojjgggaaGreatDoor

namespace Go.Proofs.YtjmbpjlojjgggaaGreatDoor
open Go.Ab Go.RowKit Go.Dw Go.Shelf
set_option maxRecDepth 100000 in
theorem growth_ac(r:Rc)(n:Nat)(row:Nat→List V)(m:Nat)(tk:Nat→Tk4)(fl ac:V)(a:Act)(ha:a.gok)(hb:0≤a.bath∧a.bath< m)(hm:m≤1000000)(ht:(tk a.bath.toNat).ok) :
  AC Tryz.prog 107 [fshop r n row m tk fl ac,a.v] (.agg [.i (gFi (tk a.bath.toNat).yield a),.i (gMe (tk a.bath.toNat).yield a),.i (gCh a)]) []:=by
 obtain⟨hb1,hb2⟩:=hb
 obtain⟨g1,g2⟩:=gr_bd ha
 obtain⟨g3,g4,g5,g6⟩:=gm_bd ha ht.yield
 have hy:=ht.yield
 unfold gFi gMe at*
 unfold grF grR at*
 refine acI hTT hMX Tryz.func107 Tryz.ntmps107 fun C hC hF=> ?_
 refine sK fun K hK=>wR 2 ?_;refine aY hTT 2 [] ?_;refine nK hK ?_;clear hK K;refine sK fun K hK=>wD 3 ?_;refine aY hTT 10 [(6,.c ((0:Int)≤Act.bath a∧Act.bath a< (↑m:Int)) oM)] ?_;refine aops_nil ⟨kR,(xt_n (hK _ ?_))⟩;clear hK K;refine sK fun K hK=>wD 4 ?_;refine aY hTT 14 [(1,.d),(2,.d),(1,.c (iR (Act.s0 a*Act.s1 a)) oM),(4,.c (iR (Act.cur a*Act.sec a)) oM)] ?_;refine aops_nil ⟨kR,(xt_n (hK _ ?_))⟩;clear hK K;refine sK fun K hK=>wR 5 ?_;refine aY hTT 18 [(2,.c (iR (Act.s0 a*Act.s1 a*Tk4.yield (tk (Int.toNat (Act.bath a))))) oM),(0,.c ((0:Int)< (1000:Int)∧(-9223372036854775808:Int)≤Act.s0 a*Act.s1 a*Tk4.yield (tk (Int.toNat (Act.bath a)))∧Act.s0 a*Act.s1 a*Tk4.yield (tk (Int.toNat (Act.bath a)))≤9223372036854775807) ⟨oM,oM⟩),(2,.c (iR (Act.s0 a*Act.s1 a*Tk4.yield (tk (Int.toNat (Act.bath a))))) oM),(0,.c ((0:Int)< (1000:Int)∧(-9223372036854775808:Int)≤Act.s0 a*Act.s1 a*Tk4.yield (tk (Int.toNat (Act.bath a)))∧Act.s0 a*Act.s1 a*Tk4.yield (tk (Int.toNat (Act.bath a)))≤9223372036854775807) ⟨oM,oM⟩),(2,.c (iR (Act.cur a*Act.sec a*Tk4.yield (tk (Int.toNat (Act.bath a))))) oM),(0,.c ((0:Int)< (1000:Int)∧(-9223372036854775808:Int)≤Act.cur a*Act.sec a*Tk4.yield (tk (Int.toNat (Act.bath a)))∧Act.cur a*Act.sec a*Tk4.yield (tk (Int.toNat (Act.bath a)))≤9223372036854775807) ⟨oM,oM⟩),(0,.c (iR (Int.tdiv (Act.s0 a*Act.s1 a*Tk4.yield (tk (Int.toNat (Act.bath a)))) (1000:Int)+Int.tdiv (Act.cur a*Act.sec a*Tk4.yield (tk (Int.toNat (Act.bath a)))) (1000:Int))) oM),(2,.c (iR (Act.s0 a*Act.s1 a+Act.cur a*Act.sec a)) oM),(1,.c ((0:Nat)+(3:Nat)≤(3:Nat)) oM)] ?_;refine nK hK ?_;clear hK K
 refine aw_ret ?_
 refine rP (V.agg [V.i (Int.tdiv (Act.s0 a*Act.s1 a*Tk4.yield (tk (Int.toNat (Act.bath a)))) (1000:Int)),V.i (Int.tdiv (Act.s0 a*Act.s1 a*Tk4.yield (tk (Int.toNat (Act.bath a)))) (1000:Int)+Int.tdiv (Act.cur a*Act.sec a*Tk4.yield (tk (Int.toNat (Act.bath a)))) (1000:Int)),V.i (Act.s0 a*Act.s1 a+Act.cur a*Act.sec a)])
theorem RImp.nat{i:Int}{k:Nat}(h:i=k):RImp (V.i i) (V.i k):=by rw [h];exact RImp.refl _
set_option maxRecDepth 100000 in
theorem here_ac(r:Rc)(hr:r.ok)(n:Nat)(x:Nat→Value)(p:Pl)(hp:p.ok)(pf:V)(hf:pf.idf=true)(m:Nat)(tk:Nat→Tk4)(fl ac:V)(a:Act)(ha:a.gok)(k:Nat)(hk:a.plate=k)(hkn:k< n)(hn:n≤1000000)(hb:0≤a.bath∧a.bath< m)(hm:m≤1000000) :
  AC Tryz.prog 105 [fshop r n (frow k (.ptr (p.c++[pf])) x) m tk fl ac,a.v] (.i (hereE r n p a)) []:=by
 obtain⟨hb1,hb2⟩:=hb
 have b1:=mul_bd hr.soft.1 hr.soft.2 (by have:=hp.area.1;omega:(0:Int)≤p.area) hp.area.2
 have b2:=mul_bd hr.hard.1 hr.hard.2 (by have:=hp.area.1;omega:(0:Int)≤p.area) hp.area.2
 have b3:=ha.s0
 have b4:=ha.cur
 refine acI hTT hMX Tryz.func105 Tryz.ntmps105 fun C hC hF=> ?_
 refine sK fun K hK=>wR 2 ?_;refine aY hTT 2 [] ?_;refine nK hK ?_;clear hK K;refine sK fun K hK=>wR 3 ?_;refine aY hTT 3 [] ?_
 refine eC (AC.conv (getF_ac r n x (.sl 4 m fun i=>(tk i).c) fl ac (p.c++[pf]) (by simp [Pl.c,V.idfL,V.idf,hf]) k hkn hn) (args':=[V.ptr [V.b true,V.i (Rc.n0 r),V.i (Rc.n1 r),V.i (Rc.n2 r),V.i (Rc.n3 r),V.i (Rc.k0 r),V.i (Rc.k1 r),V.i (Rc.k2 r),V.i (Rc.k3 r),V.i (Rc.seed r),V.i (Rc.soft r),V.i (Rc.hard r),V.i (Rc.mo r),V.i (Rc.st r),V.sl 1 n (frow k (V.ptr [V.i (↑(Pl.kind p):Int),V.i (Pl.par p),V.i (Pl.cut p),V.i (Pl.area p),V.i (Pl.thick p),V.i (Pl.grown p),V.b (Pl.ret p),pf]) x),V.sl 4 m fun(i:Nat)=>Tk4.c (tk i),fl,ac],V.i (Act.plate a)]) ⟨RImp.refl _,?_,trivial⟩) ?_
 ·
  exact RImp.nat hk
 refine aY hTT 1 [] ?_;refine nK hK ?_;clear hK K;refine sK fun K hK=> ?_
 refine aw_block ?_
 refine sK fun K hK=>wD 4 ?_;refine aY hTT 18 [] ?_;refine aops_nil ⟨kR,(xt_n (hK _ ?_))⟩;clear hK K
 refine w_cond (t:=decide (Act.bath a< 0) || decide ((↑m:Int)≤Act.bath a)) kR (fun c1=> ?_) (fun c1=> ?_)
 ·
  simp at c1;omega
 refine sK fun K hK=>wR 5 ?_;refine aY hTT 6 [] ?_;refine nK hK ?_;clear hK K
 refine w_cond (t:=Pl.ret p) kR (fun c2=> ?_) (fun c2=> ?_)
 ·
  have e:hereE r n p a=10:=by rw [hereE,if_pos c2]
  refine sK fun K hK=>wR 6 ?_;refine aY hTT 1 [] ?_;refine nK hK ?_;clear hK K
  refine aw_ret ?_
  refine xb_r ?_
  refine xt_r ?_
  rw [e]
  refine rP (V.i 10)
 refine sK fun K hK=>wR 6 ?_;refine aY hTT 2 [] ?_
 refine eC (room_ac r hr (.sl 1 n (frow k (.ptr (p.c++[pf])) x)) (.sl 4 m fun i=>(tk i).c) fl ac p hp pf) ?_
 refine aY hTT 10 [] ?_;refine nK hK ?_;clear hK K
 refine w_cond (t:=decide (roomP r p=0) || decide ((256:Int)≤(↑n:Int))) kR (fun c3=> ?_) (fun c3=> ?_)
 ·
  have e:hereE r n p a=11:=by rw [hereE,if_neg (by simp [c2]),if_pos (by simp at c3;omega)]
  refine sK fun K hK=>wR 7 ?_;refine aY hTT 1 [] ?_;refine nK hK ?_;clear hK K
  refine aw_ret ?_
  refine xb_r ?_
  refine xt_r ?_
  rw [e]
  refine rP (V.i 11)
 refine sK fun K hK=>wD 7 ?_;refine aX hTT 34 [(1,.c ((0:Int)≤(0:Int)∧(0:Int)< (↑(2:Nat):Int))),(3,.i ((1000:Int)*Act.s0 a)),(14,.i (Rc.soft r*Pl.area p)),(17,.c (gA (decide (Rc.soft r*Pl.area p< 1000*Act.s0 a) == false) True)),(18,.c (gB (decide (Rc.soft r*Pl.area p< 1000*Act.s0 a) == false) True)),(19,.c ((True∧((decide (Rc.soft r*Pl.area p< 1000*Act.s0 a) == false)=true→(decide (Rc.soft r*Pl.area p< 1000*Act.s0 a) == false)=true)∧True)∧((decide (Rc.soft r*Pl.area p< 1000*Act.s0 a) == false)=true→(-9223372036854775808:Int)≤(1000:Int)*Act.cur a∧(1000:Int)*Act.cur a≤9223372036854775807))),(20,.c (gA (decide (Rc.soft r*Pl.area p< 1000*Act.s0 a) == false) True)),(21,.c (gB (decide (Rc.soft r*Pl.area p< 1000*Act.s0 a) == false) True)),(22,.c (gB (decide (Rc.soft r*Pl.area p< 1000*Act.s0 a) == false) True)),(23,.c (gB (decide (Rc.soft r*Pl.area p< 1000*Act.s0 a) == false) True)),(24,.c (gB (decide (Rc.soft r*Pl.area p< 1000*Act.s0 a) == false) True)),(25,.c (gA (decide (Rc.soft r*Pl.area p< 1000*Act.s0 a) == false) True)),(26,.c (gB (decide (Rc.soft r*Pl.area p< 1000*Act.s0 a) == false) True)),(27,.c (gB (decide (Rc.soft r*Pl.area p< 1000*Act.s0 a) == false) True)),(28,.c (gB (decide (Rc.soft r*Pl.area p< 1000*Act.s0 a) == false) True)),(29,.c (gB (decide (Rc.soft r*Pl.area p< 1000*Act.s0 a) == false) True)),(30,.c (gC (decide (Rc.soft r*Pl.area p< 1000*Act.s0 a) == false) ((-9223372036854775808:Int)≤Rc.hard r*Pl.area p∧Rc.hard r*Pl.area p≤9223372036854775807))),(31,.c (gC (decide (Rc.soft r*Pl.area p< 1000*Act.s0 a) == false) True)),(32,.c (True∧(decide (Rc.soft r*Pl.area p< 1000*Act.s0 a)=false→(decide (Rc.soft r*Pl.area p< 1000*Act.s0 a) == false)=true)))] ⟨oM,oM,oM,⟨⟨tI,tI⟩,(fun _=>tI)⟩,⟨⟨(by(exact fun h=>h)),tI⟩,(fun _=>tI)⟩,⟨⟨tI,⟨(by(exact fun h=>h)),tI⟩⟩,(by(intro hg;simp at hg;omega))⟩,⟨⟨tI,tI⟩,(fun _=>tI)⟩,⟨⟨(by(exact fun h=>h)),tI⟩,(fun _=>tI)⟩,⟨⟨(by(exact fun h=>h)),tI⟩,(fun _=>tI)⟩,⟨⟨(by(exact fun h=>h)),tI⟩,(fun _=>tI)⟩,⟨⟨(by(exact fun h=>h)),tI⟩,(fun _=>tI)⟩,⟨⟨tI,tI⟩,(fun _=>tI)⟩,⟨⟨(by(exact fun h=>h)),tI⟩,(fun _=>tI)⟩,⟨⟨(by(exact fun h=>h)),tI⟩,(fun _=>tI)⟩,⟨⟨(by(exact fun h=>h)),tI⟩,(fun _=>tI)⟩,⟨⟨(by(exact fun h=>h)),tI⟩,(fun _=>tI)⟩,⟨⟨(by(exact fun h=>h)),⟨(by(exact fun h=>h)),tI⟩⟩,(by(intro hg;simp at hg;omega))⟩,⟨⟨(by(exact fun h=>h)),⟨(by(exact fun h=>h)),tI⟩⟩,(fun _=>tI)⟩,⟨tI,(by(intro h;rw [h];rfl))⟩,tI⟩ ?_;refine aops_nil ⟨kR,(xt_n (hK _ ?_))⟩;clear hK K
 refine w_cond (t:=decide (Rc.soft r*Pl.area p< 1000*Act.s0 a) || decide (Rc.hard r*Pl.area p< 1000*Act.cur a)) kR (fun c4=> ?_) (fun c4=> ?_)
 ·
  have e:hereE r n p a=14:=by rw [hereE,if_neg (by simp [c2]),if_neg (by simp at c3;omega),if_pos (by simp at c4;omega)]
  refine sK fun K hK=>wR 8 ?_;refine aY hTT 1 [] ?_;refine nK hK ?_;clear hK K
  refine aw_ret ?_
  refine xb_r ?_
  refine xt_r ?_
  rw [e]
  refine rP (V.i 14)
 ·
  have e:hereE r n p a=0:=by rw [hereE,if_neg (by simp [c2]),if_neg (by simp at c3;omega),if_neg (by simp at c4;omega)]
  refine aw_skip ?_
  refine xb_n (xt_n (hK _ ?_));clear hK K;refine sK fun K hK=>wR 8 ?_;refine aY hTT 1 [] ?_;refine nK hK ?_;clear hK K
  refine aw_ret ?_
  rw [e]
  refine rP (V.i 0)
set_option maxHeartbeats 4000000 in
set_option maxRecDepth 100000 in
theorem lay_ac(r:Rc)(hr:r.ok)(n:Nat)(x:Nat→Value)(p:Pl)(hp:p.ok)(h3:p.kind≤2)(pf:V)(hf:pf.idf=true)(m:Nat)(tk:Nat→Tk4)(fl ac:V)(a:Act)(ha:a.gok)(k:Nat)(hk:a.plate=k)(hkn:k< n)(hn:n≤1000000)(hb:0≤a.bath∧a.bath< m)(hm:m≤1000000)(ht:(tk a.bath.toNat).ok) :
  AC Tryz.prog 106 [fshop r n (frow k (.ptr (p.c++[pf])) x) m tk fl ac,a.v] (.tup [.i (layV r p (tk a.bath.toNat) a),.i (layE r p (tk a.bath.toNat) a)]) []:=by
 obtain⟨hb1,hb2⟩:=hb
 obtain⟨g3,g4,g5,g6⟩:=gm_bd ha ht.yield
 obtain⟨kd,par,cut,area,thick,gr,ret,cnt,fs⟩:=p
 have hp1:1≤area∧area≤1048576:=hp.area
 have d1:=tdiv_bd' (x:=1000*gMe (tk a.bath.toNat).yield a) (p:=area) oM hp1.1
 have d2:=tdiv_bd' (x:=1000*gFi (tk a.bath.toNat).yield a) (p:=area) oM hp1.1
 match kd,h3 with
 |0,_=>
  have eq:(⟨0,par,cut,area,thick,gr,ret,cnt,fs⟩:Pl).c=[.i 0,.i par,.i cut,.i area,.i thick,.i gr,.b ret]:=rfl
  refine acI hTT hMX Tryz.func106 Tryz.ntmps106 fun C hC hF=> ?_
  rw [eq]
  refine sK fun K hK=>wR 2 ?_;refine aY hTT 3 [] ?_;refine nK hK ?_;clear hK K;refine sK fun K hK=>wD 3 ?_;refine aY hTT 3 [] ?_
  refine eC (AC.conv (getF_ac r n x (.sl 4 m fun i=>(tk i).c) fl ac ([.i 0,.i par,.i cut,.i area,.i thick,.i gr,.b ret]++[pf]) (by simp [V.idfL,V.idf,hf]) k hkn hn) (args':=[V.ptr [V.b true,V.i (Rc.n0 r),V.i (Rc.n1 r),V.i (Rc.n2 r),V.i (Rc.n3 r),V.i (Rc.k0 r),V.i (Rc.k1 r),V.i (Rc.k2 r),V.i (Rc.k3 r),V.i (Rc.seed r),V.i (Rc.soft r),V.i (Rc.hard r),V.i (Rc.mo r),V.i (Rc.st r),V.sl 1 n (frow k (V.ptr [V.i 0,V.i par,V.i cut,V.i area,V.i thick,V.i gr,V.b ret,pf]) x),V.sl 4 m fun(i:Nat)=>Tk4.c (tk i),fl,ac],V.i (Act.plate a)]) ⟨RImp.refl _,?_,trivial⟩) ?_
  ·
   exact RImp.nat hk
  refine aY hTT 2 [] ?_
  refine eC (growth_ac r n (frow k (.ptr ([.i 0,.i par,.i cut,.i area,.i thick,.i gr,.b ret]++[pf])) x) m tk fl ac a ha ⟨hb1,hb2⟩ hm ht) ?_
  refine aY hTT 3 [(2,.c ((0:Nat)+(3:Nat)≤(3:Nat)) oM)] ?_;refine aops_nil ⟨kR,(xt_n (hK _ ?_))⟩;clear hK K;refine sK fun K hK=>wR 4 ?_;refine aY hTT 7 [(5,.d)] ?_;refine nK hK ?_;clear hK K;refine sK fun K hK=>wD 5 ?_;refine aY hTT 10 [(1,.c ((1:Nat)≤(3:Nat)) oM),(0,.c (iR ((1000:Int)*gMe (Tk4.yield (tk (Int.toNat (Act.bath a)))) a)) oM),(5,.c ((0:Int)< area∧(-9223372036854775808:Int)≤(1000:Int)*gMe (Tk4.yield (tk (Int.toNat (Act.bath a)))) a∧(1000:Int)*gMe (Tk4.yield (tk (Int.toNat (Act.bath a)))) a≤9223372036854775807) ⟨oM,oM⟩)] ?_;refine aops_nil ⟨kR,(xt_n (hK _ ?_))⟩;clear hK K;refine sK fun K hK=>sK fun K hK=>wD 6 ?_;refine aY hTT 31 [(1,.c ((0:Nat)≤(3:Nat)) oM),(0,.c (iR ((1000:Int)*gFi (Tk4.yield (tk (Int.toNat (Act.bath a)))) a)) oM),(5,.c ((0:Int)< area∧(-9223372036854775808:Int)≤(1000:Int)*gFi (Tk4.yield (tk (Int.toNat (Act.bath a)))) a∧(1000:Int)*gFi (Tk4.yield (tk (Int.toNat (Act.bath a)))) a≤9223372036854775807) ⟨oM,oM⟩),(13,.d),(6,.d)] ?_
  refine eG 3 (g:=decide (Int.tdiv ((1000:Int)*gFi (Tk4.yield (tk (Int.toNat (Act.bath a)))) a) area< Rc.seed r) == false) (fun h=>between7_ac (layT ⟨0,par,cut,area,thick,gr,ret,cnt,fs⟩ (tk a.bath.toNat) a) (r.thin (0+1)) (r.thick (0+1))) ?_
  refine aY hTT 2 [] ?_;refine aops_nil ⟨kR,(xt_n (hK _ ?_))⟩;clear hK K
  refine w_cond (t:=decide (Int.tdiv ((1000:Int)*gFi (Tk4.yield (tk (Int.toNat (Act.bath a)))) a) area< Rc.seed r) || !betB (layT (Pl.mk (0:Nat) par cut area thick gr ret cnt fs) (tk (Int.toNat (Act.bath a))) a) (Rc.thin r ((0:Nat)+(1:Nat))) (Rc.thick r ((0:Nat)+(1:Nat)))) kR (fun c1=> ?_) (fun c1=> ?_)
  ·
   have e:layE r ⟨0,par,cut,area,thick,gr,ret,cnt,fs⟩ (tk a.bath.toNat) a=20:=by rw [layE,if_pos (by simpa using c1)]
   have e':layV r ⟨0,par,cut,area,thick,gr,ret,cnt,fs⟩ (tk a.bath.toNat) a=0:=by rw [layV,if_neg oM]
   refine sK fun K hK=>wR 7 ?_;refine aY hTT 2 [] ?_;refine nK hK ?_;clear hK K
   refine aw_ret ?_
   refine xt_r ?_
   rw [e,e']
   refine rP (V.tup [V.i 0,V.i 20])
  refine aw_skip ?_
  refine xt_n (hK _ ?_);clear hK K;refine sK fun K hK=>sK fun K hK=>wD 7 ?_;refine aY hTT 12 [(6,.c ((0:Int)≤Act.bath a∧Act.bath a< (↑m:Int)) oM),(3,.c ((1:Nat)≤(3:Nat)) oM)] ?_;refine aops_nil ⟨kR,(xt_n (hK _ ?_))⟩;clear hK K
  refine w_cond (t:=decide (Tk4.stock (tk (Int.toNat (Act.bath a)))< gMe (Tk4.yield (tk (Int.toNat (Act.bath a)))) a)) kR (fun c2=> ?_) (fun c2=> ?_)
  ·
   have e:layE r ⟨0,par,cut,area,thick,gr,ret,cnt,fs⟩ (tk a.bath.toNat) a=13:=by rw [layE,if_neg (by simpa using c1),if_pos (by simpa using c2)]
   have e':layV r ⟨0,par,cut,area,thick,gr,ret,cnt,fs⟩ (tk a.bath.toNat) a=0:=by rw [layV,if_neg oM]
   refine sK fun K hK=>wR 8 ?_;refine aY hTT 2 [] ?_;refine nK hK ?_;clear hK K
   refine aw_ret ?_
   refine xt_r ?_
   rw [e,e']
   refine rP (V.tup [V.i 0,V.i 13])
  ·
   have e:layE r ⟨0,par,cut,area,thick,gr,ret,cnt,fs⟩ (tk a.bath.toNat) a=0:=by rw [layE,if_neg (by simpa using c1),if_neg (by simpa using c2)]
   have e':layV r ⟨0,par,cut,area,thick,gr,ret,cnt,fs⟩ (tk a.bath.toNat) a=layT ⟨0,par,cut,area,thick,gr,ret,cnt,fs⟩ (tk a.bath.toNat) a:=by rw [layV,if_pos e]
   refine aw_skip ?_
   refine xt_n (hK _ ?_);clear hK K;refine sK fun K hK=>wR 8 ?_;refine aY hTT 3 [] ?_;refine nK hK ?_;clear hK K
   refine aw_ret ?_
   rw [e,e']
   refine rP (V.tup [V.i (Int.tdiv ((1000:Int)*gMe (Tk4.yield (tk (Int.toNat (Act.bath a)))) a) area),V.i 0])
 |1,_=>
  have eq:(⟨1,par,cut,area,thick,gr,ret,cnt,fs⟩:Pl).c=[.i 1,.i par,.i cut,.i area,.i thick,.i gr,.b ret]:=rfl
  refine acI hTT hMX Tryz.func106 Tryz.ntmps106 fun C hC hF=> ?_
  rw [eq]
  refine sK fun K hK=>wR 2 ?_;refine aY hTT 3 [] ?_;refine nK hK ?_;clear hK K;refine sK fun K hK=>wD 3 ?_;refine aY hTT 3 [] ?_
  refine eC (AC.conv (getF_ac r n x (.sl 4 m fun i=>(tk i).c) fl ac ([.i 1,.i par,.i cut,.i area,.i thick,.i gr,.b ret]++[pf]) (by simp [V.idfL,V.idf,hf]) k hkn hn) (args':=[V.ptr [V.b true,V.i (Rc.n0 r),V.i (Rc.n1 r),V.i (Rc.n2 r),V.i (Rc.n3 r),V.i (Rc.k0 r),V.i (Rc.k1 r),V.i (Rc.k2 r),V.i (Rc.k3 r),V.i (Rc.seed r),V.i (Rc.soft r),V.i (Rc.hard r),V.i (Rc.mo r),V.i (Rc.st r),V.sl 1 n (frow k (V.ptr [V.i 1,V.i par,V.i cut,V.i area,V.i thick,V.i gr,V.b ret,pf]) x),V.sl 4 m fun(i:Nat)=>Tk4.c (tk i),fl,ac],V.i (Act.plate a)]) ⟨RImp.refl _,?_,trivial⟩) ?_
  ·
   exact RImp.nat hk
  refine aY hTT 2 [] ?_
  refine eC (growth_ac r n (frow k (.ptr ([.i 1,.i par,.i cut,.i area,.i thick,.i gr,.b ret]++[pf])) x) m tk fl ac a ha ⟨hb1,hb2⟩ hm ht) ?_
  refine aY hTT 3 [(2,.c ((0:Nat)+(3:Nat)≤(3:Nat)) oM)] ?_;refine aops_nil ⟨kR,(xt_n (hK _ ?_))⟩;clear hK K;refine sK fun K hK=>wR 4 ?_;refine aY hTT 7 [(5,.d)] ?_;refine nK hK ?_;clear hK K;refine sK fun K hK=>wD 5 ?_;refine aY hTT 10 [(1,.c ((1:Nat)≤(3:Nat)) oM),(0,.c (iR ((1000:Int)*gMe (Tk4.yield (tk (Int.toNat (Act.bath a)))) a)) oM),(5,.c ((0:Int)< area∧(-9223372036854775808:Int)≤(1000:Int)*gMe (Tk4.yield (tk (Int.toNat (Act.bath a)))) a∧(1000:Int)*gMe (Tk4.yield (tk (Int.toNat (Act.bath a)))) a≤9223372036854775807) ⟨oM,oM⟩)] ?_;refine aops_nil ⟨kR,(xt_n (hK _ ?_))⟩;clear hK K;refine sK fun K hK=>sK fun K hK=>wD 6 ?_;refine aY hTT 31 [(1,.c ((0:Nat)≤(3:Nat)) oM),(0,.c (iR ((1000:Int)*gFi (Tk4.yield (tk (Int.toNat (Act.bath a)))) a)) oM),(5,.c ((0:Int)< area∧(-9223372036854775808:Int)≤(1000:Int)*gFi (Tk4.yield (tk (Int.toNat (Act.bath a)))) a∧(1000:Int)*gFi (Tk4.yield (tk (Int.toNat (Act.bath a)))) a≤9223372036854775807) ⟨oM,oM⟩),(13,.d),(6,.d)] ?_
  refine eG 3 (g:=decide (Int.tdiv ((1000:Int)*gFi (Tk4.yield (tk (Int.toNat (Act.bath a)))) a) area< Rc.seed r) == false) (fun h=>between7_ac (layT ⟨1,par,cut,area,thick,gr,ret,cnt,fs⟩ (tk a.bath.toNat) a) (r.thin (1+1)) (r.thick (1+1))) ?_
  refine aY hTT 2 [] ?_;refine aops_nil ⟨kR,(xt_n (hK _ ?_))⟩;clear hK K
  refine w_cond (t:=decide (Int.tdiv ((1000:Int)*gFi (Tk4.yield (tk (Int.toNat (Act.bath a)))) a) area< Rc.seed r) || !betB (layT (Pl.mk (1:Nat) par cut area thick gr ret cnt fs) (tk (Int.toNat (Act.bath a))) a) (Rc.thin r ((1:Nat)+(1:Nat))) (Rc.thick r ((1:Nat)+(1:Nat)))) kR (fun c1=> ?_) (fun c1=> ?_)
  ·
   have e:layE r ⟨1,par,cut,area,thick,gr,ret,cnt,fs⟩ (tk a.bath.toNat) a=20:=by rw [layE,if_pos (by simpa using c1)]
   have e':layV r ⟨1,par,cut,area,thick,gr,ret,cnt,fs⟩ (tk a.bath.toNat) a=0:=by rw [layV,if_neg oM]
   refine sK fun K hK=>wR 7 ?_;refine aY hTT 2 [] ?_;refine nK hK ?_;clear hK K
   refine aw_ret ?_
   refine xt_r ?_
   rw [e,e']
   refine rP (V.tup [V.i 0,V.i 20])
  refine aw_skip ?_
  refine xt_n (hK _ ?_);clear hK K;refine sK fun K hK=>sK fun K hK=>wD 7 ?_;refine aY hTT 12 [(6,.c ((0:Int)≤Act.bath a∧Act.bath a< (↑m:Int)) oM),(3,.c ((1:Nat)≤(3:Nat)) oM)] ?_;refine aops_nil ⟨kR,(xt_n (hK _ ?_))⟩;clear hK K
  refine w_cond (t:=decide (Tk4.stock (tk (Int.toNat (Act.bath a)))< gMe (Tk4.yield (tk (Int.toNat (Act.bath a)))) a)) kR (fun c2=> ?_) (fun c2=> ?_)
  ·
   have e:layE r ⟨1,par,cut,area,thick,gr,ret,cnt,fs⟩ (tk a.bath.toNat) a=13:=by rw [layE,if_neg (by simpa using c1),if_pos (by simpa using c2)]
   have e':layV r ⟨1,par,cut,area,thick,gr,ret,cnt,fs⟩ (tk a.bath.toNat) a=0:=by rw [layV,if_neg oM]
   refine sK fun K hK=>wR 8 ?_;refine aY hTT 2 [] ?_;refine nK hK ?_;clear hK K
   refine aw_ret ?_
   refine xt_r ?_
   rw [e,e']
   refine rP (V.tup [V.i 0,V.i 13])
  ·
   have e:layE r ⟨1,par,cut,area,thick,gr,ret,cnt,fs⟩ (tk a.bath.toNat) a=0:=by rw [layE,if_neg (by simpa using c1),if_neg (by simpa using c2)]
   have e':layV r ⟨1,par,cut,area,thick,gr,ret,cnt,fs⟩ (tk a.bath.toNat) a=layT ⟨1,par,cut,area,thick,gr,ret,cnt,fs⟩ (tk a.bath.toNat) a:=by rw [layV,if_pos e]
   refine aw_skip ?_
   refine xt_n (hK _ ?_);clear hK K;refine sK fun K hK=>wR 8 ?_;refine aY hTT 3 [] ?_;refine nK hK ?_;clear hK K
   refine aw_ret ?_
   rw [e,e']
   refine rP (V.tup [V.i (Int.tdiv ((1000:Int)*gMe (Tk4.yield (tk (Int.toNat (Act.bath a)))) a) area),V.i 0])
 |2,_=>
  have eq:(⟨2,par,cut,area,thick,gr,ret,cnt,fs⟩:Pl).c=[.i 2,.i par,.i cut,.i area,.i thick,.i gr,.b ret]:=rfl
  refine acI hTT hMX Tryz.func106 Tryz.ntmps106 fun C hC hF=> ?_
  rw [eq]
  refine sK fun K hK=>wR 2 ?_;refine aY hTT 3 [] ?_;refine nK hK ?_;clear hK K;refine sK fun K hK=>wD 3 ?_;refine aY hTT 3 [] ?_
  refine eC (AC.conv (getF_ac r n x (.sl 4 m fun i=>(tk i).c) fl ac ([.i 2,.i par,.i cut,.i area,.i thick,.i gr,.b ret]++[pf]) (by simp [V.idfL,V.idf,hf]) k hkn hn) (args':=[V.ptr [V.b true,V.i (Rc.n0 r),V.i (Rc.n1 r),V.i (Rc.n2 r),V.i (Rc.n3 r),V.i (Rc.k0 r),V.i (Rc.k1 r),V.i (Rc.k2 r),V.i (Rc.k3 r),V.i (Rc.seed r),V.i (Rc.soft r),V.i (Rc.hard r),V.i (Rc.mo r),V.i (Rc.st r),V.sl 1 n (frow k (V.ptr [V.i 2,V.i par,V.i cut,V.i area,V.i thick,V.i gr,V.b ret,pf]) x),V.sl 4 m fun(i:Nat)=>Tk4.c (tk i),fl,ac],V.i (Act.plate a)]) ⟨RImp.refl _,?_,trivial⟩) ?_
  ·
   exact RImp.nat hk
  refine aY hTT 2 [] ?_
  refine eC (growth_ac r n (frow k (.ptr ([.i 2,.i par,.i cut,.i area,.i thick,.i gr,.b ret]++[pf])) x) m tk fl ac a ha ⟨hb1,hb2⟩ hm ht) ?_
  refine aY hTT 3 [(2,.c ((0:Nat)+(3:Nat)≤(3:Nat)) oM)] ?_;refine aops_nil ⟨kR,(xt_n (hK _ ?_))⟩;clear hK K;refine sK fun K hK=>wR 4 ?_;refine aY hTT 7 [(5,.d)] ?_;refine nK hK ?_;clear hK K;refine sK fun K hK=>wD 5 ?_;refine aY hTT 10 [(1,.c ((1:Nat)≤(3:Nat)) oM),(0,.c (iR ((1000:Int)*gMe (Tk4.yield (tk (Int.toNat (Act.bath a)))) a)) oM),(5,.c ((0:Int)< area∧(-9223372036854775808:Int)≤(1000:Int)*gMe (Tk4.yield (tk (Int.toNat (Act.bath a)))) a∧(1000:Int)*gMe (Tk4.yield (tk (Int.toNat (Act.bath a)))) a≤9223372036854775807) ⟨oM,oM⟩)] ?_;refine aops_nil ⟨kR,(xt_n (hK _ ?_))⟩;clear hK K;refine sK fun K hK=>sK fun K hK=>wD 6 ?_;refine aY hTT 31 [(1,.c ((0:Nat)≤(3:Nat)) oM),(0,.c (iR ((1000:Int)*gFi (Tk4.yield (tk (Int.toNat (Act.bath a)))) a)) oM),(5,.c ((0:Int)< area∧(-9223372036854775808:Int)≤(1000:Int)*gFi (Tk4.yield (tk (Int.toNat (Act.bath a)))) a∧(1000:Int)*gFi (Tk4.yield (tk (Int.toNat (Act.bath a)))) a≤9223372036854775807) ⟨oM,oM⟩),(13,.d),(6,.d)] ?_
  refine eG 3 (g:=decide (Int.tdiv ((1000:Int)*gFi (Tk4.yield (tk (Int.toNat (Act.bath a)))) a) area< Rc.seed r) == false) (fun h=>between7_ac (layT ⟨2,par,cut,area,thick,gr,ret,cnt,fs⟩ (tk a.bath.toNat) a) (r.thin (2+1)) (r.thick (2+1))) ?_
  refine aY hTT 2 [] ?_;refine aops_nil ⟨kR,(xt_n (hK _ ?_))⟩;clear hK K
  refine w_cond (t:=decide (Int.tdiv ((1000:Int)*gFi (Tk4.yield (tk (Int.toNat (Act.bath a)))) a) area< Rc.seed r) || !betB (layT (Pl.mk (2:Nat) par cut area thick gr ret cnt fs) (tk (Int.toNat (Act.bath a))) a) (Rc.thin r ((2:Nat)+(1:Nat))) (Rc.thick r ((2:Nat)+(1:Nat)))) kR (fun c1=> ?_) (fun c1=> ?_)
  ·
   have e:layE r ⟨2,par,cut,area,thick,gr,ret,cnt,fs⟩ (tk a.bath.toNat) a=20:=by rw [layE,if_pos (by simpa using c1)]
   have e':layV r ⟨2,par,cut,area,thick,gr,ret,cnt,fs⟩ (tk a.bath.toNat) a=0:=by rw [layV,if_neg oM]
   refine sK fun K hK=>wR 7 ?_;refine aY hTT 2 [] ?_;refine nK hK ?_;clear hK K
   refine aw_ret ?_
   refine xt_r ?_
   rw [e,e']
   refine rP (V.tup [V.i 0,V.i 20])
  refine aw_skip ?_
  refine xt_n (hK _ ?_);clear hK K;refine sK fun K hK=>sK fun K hK=>wD 7 ?_;refine aY hTT 12 [(6,.c ((0:Int)≤Act.bath a∧Act.bath a< (↑m:Int)) oM),(3,.c ((1:Nat)≤(3:Nat)) oM)] ?_;refine aops_nil ⟨kR,(xt_n (hK _ ?_))⟩;clear hK K
  refine w_cond (t:=decide (Tk4.stock (tk (Int.toNat (Act.bath a)))< gMe (Tk4.yield (tk (Int.toNat (Act.bath a)))) a)) kR (fun c2=> ?_) (fun c2=> ?_)
  ·
   have e:layE r ⟨2,par,cut,area,thick,gr,ret,cnt,fs⟩ (tk a.bath.toNat) a=13:=by rw [layE,if_neg (by simpa using c1),if_pos (by simpa using c2)]
   have e':layV r ⟨2,par,cut,area,thick,gr,ret,cnt,fs⟩ (tk a.bath.toNat) a=0:=by rw [layV,if_neg oM]
   refine sK fun K hK=>wR 8 ?_;refine aY hTT 2 [] ?_;refine nK hK ?_;clear hK K
   refine aw_ret ?_
   refine xt_r ?_
   rw [e,e']
   refine rP (V.tup [V.i 0,V.i 13])
  ·
   have e:layE r ⟨2,par,cut,area,thick,gr,ret,cnt,fs⟩ (tk a.bath.toNat) a=0:=by rw [layE,if_neg (by simpa using c1),if_neg (by simpa using c2)]
   have e':layV r ⟨2,par,cut,area,thick,gr,ret,cnt,fs⟩ (tk a.bath.toNat) a=layT ⟨2,par,cut,area,thick,gr,ret,cnt,fs⟩ (tk a.bath.toNat) a:=by rw [layV,if_pos e]
   refine aw_skip ?_
   refine xt_n (hK _ ?_);clear hK K;refine sK fun K hK=>wR 8 ?_;refine aY hTT 3 [] ?_;refine nK hK ?_;clear hK K
   refine aw_ret ?_
   rw [e,e']
   refine rP (V.tup [V.i (Int.tdiv ((1000:Int)*gMe (Tk4.yield (tk (Int.toNat (Act.bath a)))) a) area),V.i 0])
end Go.Proofs.YtjmbpjlojjgggaaGreatDoor

namespace Go.Proofs.YtjmbpjlojjgggaaGreatDoor
open Go.Ab Go.RowKit Go.Dw Go.Shelf
abbrev ins5(r:Rc)(n:Nat)(prow:Nat→List V)(m:Nat)(tk:Nat→Tk4)(q:Nat)(fl:Nat→List V)(l:Nat):List Ob:=
 [.box 123 (shC r (.own 501) (.own 502) (.own 503) (.own 504)),.row 131 1 n prow,.row 55 4 m (fun i=>(tk i).c),.row 149 2 q fl,.row 40 13 l (fun _=>List.replicate 13 .any)]
set_option maxRecDepth 100000 in
theorem add_am(r:Rc)(n:Nat)(x:Nat→Value)(m:Nat)(tk:Nat→Tk4)(q:Nat)(g:Nat→Int×Int)(l:Nat)(p:Pl)(hn:n≤1000) :
  AM Tryz.prog 104 [.ref 500 0,.agg p.c] (ins5 r n (rowC x) m tk q (fun i=>[.i (g i).1,.i (g i).2]) l) (.ref 1 0)
   [some (.box 123 (shC r (.own 0) (.own 502) (.own 503) (.own 504))),none,some (.row 55 4 m (fun i=>(tk i).c)),some (.row 149 2 q (fun i=>[.i (g i).1,.i (g i).2])),some (.row 40 13 l (fun _=>List.replicate 13 .any))]
   [.row 131 1 (n+1) (rowZ n 1 x),.box 134 (p.c++[.own 2]),.mp (false,0) (setF fun _=>false)]:=by
 refine am_intro hTT hMX (fn:=Tryz.f104) (N:=_) ⟨Tryz.func104,rfl,Tryz.ntmps104,kR⟩ (by simp) rfl (by simp) (by simp) fun C hF=> ?_
 refine sK fun K hK=>wR 2 ?_
 refine aops_x (M:=[9,16]) hTT 2 [] tI ?_
 refine nK hK ?_;clear hK K;refine sK fun K hK=>wR 3 ?_
 refine aops_x (M:=[9,16]) hTT 5 [(1,.r (pn 7 (V.own 200007) (200007:Nat) (Ob.mp (false,(0:Nat)) (MF.mk [] fun(x:MK)=>none)))),(3,.r (pn 9 (V.ref 200009 0) (200009:Nat) (Ob.box 134 [V.i (↑(Pl.kind p):Int),V.i (Pl.par p),V.i (Pl.cut p),V.i (Pl.area p),V.i (Pl.thick p),V.i (Pl.grown p),V.b (Pl.ret p),V.own 200007])))] tI ?_
 refine nK hK ?_;clear hK K;refine sK fun K hK=>wR 4 ?_
 refine aops_x (M:=[9,16]) hTT 11 [(4,.c ((14:Nat)≤(18:Nat))),(6,.r (pn 16 (V.own 300016) (300016:Nat) (Ob.row 131 1 1 fun(i:Nat)=>List.take (1:Nat) (List.drop (i*1) [V.ref 200009 0])))),(7,.r (PR.mk (some (17:Nat)) (some (n+1≤(1099511627776:Nat))) (V.own 300017) [((501:Nat),none),((300017:Nat),some (Ob.row 131 1 (n+1) (appRow n (rowC x) fun(i:Nat)=>List.take (1:Nat) (List.drop (i*1) [V.ref 200009 0]))))] false)),(10,.r (pw ((14:Nat)+(1:Nat)≤(18:Nat)) (500:Nat) (Ob.box 123 [V.b true,V.i (Rc.n0 r),V.i (Rc.n1 r),V.i (Rc.n2 r),V.i (Rc.n3 r),V.i (Rc.k0 r),V.i (Rc.k1 r),V.i (Rc.k2 r),V.i (Rc.k3 r),V.i (Rc.seed r),V.i (Rc.soft r),V.i (Rc.hard r),V.i (Rc.mo r),V.i (Rc.st r),V.own 300017,V.own 502,V.own 503,V.own 504])))] ⟨oM,oM,oM,tI⟩ ?_
 refine nK hK ?_;clear hK K;refine sK fun K hK=>wR 5 ?_
 refine aops_x (M:=[9,16]) hTT 2 [] tI ?_
 refine nK hK ?_;clear hK K
 refine aw_ret ?_
 refine retM_of_le (le_setF 200007 (n:=0) (f:=⟨[],fun _=>none⟩) (has:=fun _=>false) kR (fun _=>rfl) fun _ _ h=>by cases h) ?_
 refine retM_of_le (le_row1 300017 (e:=131) (n:=n+1) (r:=appRow n (rowC x) fun i=>([V.ref 200009 0].drop (i*1)).take 1) (r':=rowZ n 200009 x) kR fun i hi=> ?_) ?_
 ·
  exact rowApp _ (c:=fun i=> .c (x i)) (fun j hj=>by simp [appRow,hj,rowC]) (by simp [appRow]) hi
 refine retM (v':=V.ref 1 0) [(1,200009),(2,200007),(0,300017)] [(4,V.ref 1 0)] (.inr rfl) (.cons kR .nil) (.cons oS (.cons oS (.cons oS (.cons oS (.cons oS (.cons oS (.cons oS .nil))))))) kR kR kR kR kR kR kR
abbrev ins7(r:Rc)(n k:Nat)(x:Nat→Value)(m:Nat)(tk:Nat→Tk4)(q:Nat)(fl:Nat→List V)(l:Nat)(z:Pl):List Ob:=
 ins5 r n (rowX 505 k x) m tk q fl l++[.box 134 (z.c++[.own 506]),.mp (false,z.cnt) (setF z.fl)]
set_option maxRecDepth 100000 in
theorem addX_am(r:Rc)(n k:Nat)(x:Nat→Value)(m:Nat)(tk:Nat→Tk4)(q:Nat)(g:Nat→Int×Int)(l:Nat)(z p:Pl)(hn:n≤1000) :
  AM Tryz.prog 104 [.ref 500 0,.agg p.c] (ins7 r n k x m tk q (fun i=>[.i (g i).1,.i (g i).2]) l z) (.ref 1 0)
   [some (.box 123 (shC r (.own 0) (.own 502) (.own 503) (.own 504))),none,some (.row 55 4 m (fun i=>(tk i).c)),some (.row 149 2 q (fun i=>[.i (g i).1,.i (g i).2])),some (.row 40 13 l (fun _=>List.replicate 13 .any)),some (.box 134 (z.c++[.own 506])),some (.mp (false,z.cnt) (setF z.fl))]
   [.row 131 1 (n+1) (rowY 505 k n 1 x),.box 134 (p.c++[.own 2]),.mp (false,0) (setF fun _=>false)]:=by
 refine am_intro hTT hMX (fn:=Tryz.f104) (N:=_) ⟨Tryz.func104,rfl,Tryz.ntmps104,kR⟩ (by simp) rfl (by simp) (by simp) fun C hF=> ?_
 refine sK fun K hK=>wR 2 ?_
 refine aops_x (M:=[9,16]) hTT 2 [] tI ?_
 refine nK hK ?_;clear hK K;refine sK fun K hK=>wR 3 ?_
 refine aops_x (M:=[9,16]) hTT 5 [(1,.r (pn 7 (V.own 200007) (200007:Nat) (Ob.mp (false,(0:Nat)) (MF.mk [] fun(x:MK)=>none)))),(3,.r (pn 9 (V.ref 200009 0) (200009:Nat) (Ob.box 134 [V.i (↑(Pl.kind p):Int),V.i (Pl.par p),V.i (Pl.cut p),V.i (Pl.area p),V.i (Pl.thick p),V.i (Pl.grown p),V.b (Pl.ret p),V.own 200007])))] tI ?_
 refine nK hK ?_;clear hK K;refine sK fun K hK=>wR 4 ?_
 refine aops_x (M:=[9,16]) hTT 11 [(4,.c ((14:Nat)≤(18:Nat))),(6,.r (pn 16 (V.own 300016) (300016:Nat) (Ob.row 131 1 1 fun(i:Nat)=>List.take (1:Nat) (List.drop (i*1) [V.ref 200009 0])))),(7,.r (PR.mk (some (17:Nat)) (some (n+1≤(1099511627776:Nat))) (V.own 300017) [((501:Nat),none),((300017:Nat),some (Ob.row 131 1 (n+1) (appRow n (rowX (505:Nat) k x) fun(i:Nat)=>List.take (1:Nat) (List.drop (i*1) [V.ref 200009 0]))))] false)),(10,.r (pw ((14:Nat)+(1:Nat)≤(18:Nat)) (500:Nat) (Ob.box 123 [V.b true,V.i (Rc.n0 r),V.i (Rc.n1 r),V.i (Rc.n2 r),V.i (Rc.n3 r),V.i (Rc.k0 r),V.i (Rc.k1 r),V.i (Rc.k2 r),V.i (Rc.k3 r),V.i (Rc.seed r),V.i (Rc.soft r),V.i (Rc.hard r),V.i (Rc.mo r),V.i (Rc.st r),V.own 300017,V.own 502,V.own 503,V.own 504])))] ⟨oM,oM,oM,tI⟩ ?_
 refine nK hK ?_;clear hK K;refine sK fun K hK=>wR 5 ?_
 refine aops_x (M:=[9,16]) hTT 2 [] tI ?_
 refine nK hK ?_;clear hK K
 refine aw_ret ?_
 refine retM_of_le (le_setF 200007 (n:=0) (f:=⟨[],fun _=>none⟩) (has:=fun _=>false) kR (fun _=>rfl) fun _ _ h=>by cases h) ?_
 refine retM_of_le (le_row1 300017 (e:=131) (n:=n+1) (r:=appRow n (rowX 505 k x) fun i=>([V.ref 200009 0].drop (i*1)).take 1) (r':=rowY 505 k n 200009 x) kR fun i hi=> ?_) ?_
 ·
  exact rowApp _ (c:=fun i=> .alt (decide (i=k)) (.ref 505 0) (.c (x i))) (fun j hj=>by simp [appRow,hj,rowX]) (by simp [appRow]) hi
 refine retM (v':=V.ref 1 0) [(1,200009),(2,200007),(0,300017)] [(4,V.ref 1 0)] (.inr rfl) (.cons kR .nil) (.cons oS (.cons oS (.cons oS (.cons oS (.cons oS (.cons oS (.cons oS (.cons oS (.cons oS .nil))))))))) kR kR kR kR kR kR kR
def lacP(a:Act):Pl:=⟨0, -1,a.cut,a.area,0,0,false,0,fun _=>false⟩
set_option maxRecDepth 100000 in
theorem lacquer_am(r:Rc)(n:Nat)(x:Nat→Value)(m:Nat)(tk:Nat→Tk4)(q:Nat)(g:Nat→Int×Int)(l:Nat)(a:Act)(hn:n≤200) :
  AM Tryz.prog 51 [.ref 500 0,a.v] (ins5 r n (rowC x) m tk q (fun i=>[.i (g i).1,.i (g i).2]) l) (.tup [.i n,.i 0])
   [some (.box 123 (shC r (.own 0) (.own 502) (.own 503) (.own 504))),none,some (.row 55 4 m (fun i=>(tk i).c)),some (.row 149 2 q (fun i=>[.i (g i).1,.i (g i).2])),some (.row 40 13 l (fun _=>List.replicate 13 .any))]
   [.row 131 1 (n+1) (rowZ n 1 x),.box 134 ((lacP a).c++[.own 2]),.mp (false,0) (setF fun _=>false)]:=by
 refine am_intro hTT hMX (fn:=Tryz.f51) (N:=_) ⟨Tryz.func51,rfl,Tryz.ntmps51,kR⟩ (by simp) rfl (by simp) (by simp) fun C hF=> ?_
 refine sK fun K hK=>wR 2 ?_;refine aY hTT 3 [] ?_;refine nK hK ?_;clear hK K;refine sK fun K hK=>sK fun K hK=>wR 3 ?_;refine aY hTT 6 [(3,.c ((14:Nat)≤(18:Nat)) oM)] ?_;refine nK hK ?_;clear hK K
 refine w_cond (t:=decide ((256:Int)≤(↑n:Int))) kR (fun c1=> ?_) (fun c1=> ?_)
 ·
  simp at c1;omega
 refine aw_skip ?_
 refine xt_n (hK _ ?_);clear hK K;refine sK fun K hK=>wR 4 ?_;refine aY hTT 6 [] ?_
 refine eM [500,501,502,503,504] (add_am r n x m tk q g l (lacP a) oM) (iB (iW (iW (iW (iW .nil))))) ?_
 refine nK hK ?_;clear hK K;refine sK fun K hK=>wR 5 ?_;refine aY hTT 8 [(3,.c ((14:Nat)≤(18:Nat)) oM),(1,.c (iR ((↑(n+1):Int)- 1)) oM)] ?_;refine nK hK ?_;clear hK K
 refine aw_ret ?_
 refine retM (v':=V.tup [V.i ((↑(n+1):Int)- 1),V.i 0]) [(0,300018),(1,301018),(2,302018)] [(4,V.i ((↑(n+1):Int)- 1)),(5,V.i 0)] (.inr rfl) (.cons kR (.cons kR .nil)) (.cons oS (.cons oS (.cons oS (.cons oS (.cons oS (.cons oS (.cons oS .nil))))))) kR kR kR kR ?_ kR kR
 ·
  rw [show((n+1:Nat):Int)- 1=n by omega]
def bathT(a:Act):Tk4:=⟨a.stock,a.yield,0,0⟩
def bathF(m:Nat)(tk:Nat→Tk4)(a:Act)(i:Nat):Tk4:=if i< m then tk i else bathT a
set_option maxRecDepth 100000 in
theorem bath_am(r:Rc)(n:Nat)(x:Nat→Value)(m:Nat)(tk:Nat→Tk4)(q:Nat)(g:Nat→Int×Int)(l:Nat)(a:Act)(hm:m< 8) :
  AM Tryz.prog 52 [.ref 500 0,a.v] (ins5 r n (rowC x) m tk q (fun i=>[.i (g i).1,.i (g i).2]) l) (.tup [.i m,.i 0])
   [some (.box 123 (shC r (.own 501) (.own 0) (.own 503) (.own 504))),some (.row 131 1 n (rowC x)),none,some (.row 149 2 q (fun i=>[.i (g i).1,.i (g i).2])),some (.row 40 13 l (fun _=>List.replicate 13 .any))]
   [.row 55 4 (m+1) (fun i=>(bathF m tk a i).c)]:=by
 refine am_intro hTT hMX (fn:=Tryz.f52) (N:=_) ⟨Tryz.func52,rfl,Tryz.ntmps52,kR⟩ (by simp) rfl (by simp) (by simp) fun C hF=> ?_
 refine sK fun K hK=>wR 2 ?_;refine aY hTT 3 [] ?_;refine nK hK ?_;clear hK K;refine sK fun K hK=>sK fun K hK=>wR 3 ?_;refine aY hTT 6 [(3,.c ((15:Nat)≤(18:Nat)) oM)] ?_;refine nK hK ?_;clear hK K
 refine w_cond (t:=decide ((8:Int)≤(↑m:Int))) kR (fun c1=> ?_) (fun c1=> ?_)
 ·
  simp at c1;omega
 refine aw_skip ?_
 refine xt_n (hK _ ?_);clear hK K;refine sK fun K hK=>wD 4 (aX hTT 15 [(4,.c ((15:Nat)≤(18:Nat))),(11,.r (PR.mk (some (23:Nat)) (some (m+1≤(1099511627776:Nat))) (V.own 300023) [((502:Nat),none),((300023:Nat),some (Ob.row 55 4 (m+1) (appRow m (fun(i:Nat)=>Tk4.c (tk i)) fun(i:Nat)=>List.take (4:Nat) (List.drop (i*4) [V.i (Act.stock a),V.i (Act.yield a),V.i 0,V.i 0]))))] false)),(14,.r (pw ((15:Nat)+(1:Nat)≤(18:Nat)) (500:Nat) (Ob.box 123 [V.b true,V.i (Rc.n0 r),V.i (Rc.n1 r),V.i (Rc.n2 r),V.i (Rc.n3 r),V.i (Rc.k0 r),V.i (Rc.k1 r),V.i (Rc.k2 r),V.i (Rc.k3 r),V.i (Rc.seed r),V.i (Rc.soft r),V.i (Rc.hard r),V.i (Rc.mo r),V.i (Rc.st r),V.own 501,V.own 300023,V.own 503,V.own 504])))] ⟨oM,oM,oM,tI⟩ (aops_nil ⟨kR,(xt_n (hK _ ?_))⟩));clear hK K;refine sK fun K hK=>wR 5 ?_;refine aY hTT 8 [(3,.c ((15:Nat)≤(18:Nat)) oM),(1,.c (iR ((↑(m+1):Int)- 1)) oM)] ?_;refine nK hK ?_;clear hK K
 refine aw_ret ?_
 refine retM (v':=V.tup [V.i ((↑(m+1):Int)- 1),V.i 0]) [(0,300023)] [(4,V.i ((↑(m+1):Int)- 1)),(5,V.i 0)] (.inr rfl) (.cons kR (.cons kR .nil)) (.cons ⟨Ob.row 55 4 (m+1) (appRow m (fun(i:Nat)=>Tk4.c (tk i)) fun(i:Nat)=>List.take (4:Nat) (List.drop (i*4) [V.i (Act.stock a),V.i (Act.yield a),V.i 0,V.i 0])),kR,.row kR ?_⟩ (.cons oS (.cons oS (.cons oS (.cons oS .nil))))) kR kR kR kR ?_ kR kR
 ·
  intro i hi
  by_cases h:i< m
  ·
   simp only [appRow,bathF,if_pos h];rfl
  ·
   simp only [appRow,bathF,if_neg h]
   rw [show i- m=0 by omega];rfl
 ·
  rw [show((m+1:Nat):Int)- 1=m by omega]
set_option maxRecDepth 100000 in
theorem bathN_am(r:Rc)(n:Nat)(x:Nat→Value)(m:Nat)(tk:Nat→Tk4)(q:Nat)(g:Nat→Int×Int)(l:Nat)(a:Act)(hm:¬m< 8) :
  AM Tryz.prog 52 [.ref 500 0,a.v] (ins5 r n (rowC x) m tk q (fun i=>[.i (g i).1,.i (g i).2]) l) (.tup [.i 0,.i 11])
   ((ins5 r n (rowC x) m tk q (fun i=>[.i (g i).1,.i (g i).2]) l).map some) []:=by
 refine am_intro hTT hMX (fn:=Tryz.f52) (N:=_) ⟨Tryz.func52,rfl,Tryz.ntmps52,kR⟩ (by simp) rfl (by simp) (by simp) fun C hF=> ?_
 refine sK fun K hK=>wR 2 ?_;refine aY hTT 3 [] ?_;refine nK hK ?_;clear hK K;refine sK fun K hK=>sK fun K hK=>wR 3 ?_;refine aY hTT 6 [(3,.c ((15:Nat)≤(18:Nat)) oM)] ?_;refine nK hK ?_;clear hK K
 refine w_cond (t:=decide ((8:Int)≤(↑m:Int))) kR (fun c1=> ?_) (fun c1=> ?_)
 ·
  refine sK fun K hK=> ?_
  refine wR 4 ?_;refine aY hTT 2 [] ?_;refine nK hK ?_;clear hK K
  refine aw_ret ?_
  refine xt_r ?_
  refine retM (v':=V.tup [V.i 0,V.i 11]) [] [(4,V.i 0),(5,V.i 11)] (.inr rfl) (.cons kR (.cons kR .nil)) (.cons oS (.cons oS (.cons oS (.cons oS (.cons oS .nil))))) kR kR kR kR kR kR kR
 ·
  simp at c1;omega
end Go.Proofs.YtjmbpjlojjgggaaGreatDoor
