/-
  Several texts in one: The iterators and the fold by which package play reads a wall: near, the closure of walk, fold. Conditions: lengths of at most 65536, heights and elements of at most 16777216. .. Bends, the least and the greatest of numbers, the best arm; whether two grooves are equal. No condition but the sizes of slices.
-/
import Derived.Test.YtjmbpjlojjgggaaGreatDoorProg
import Derived.Deep.RegionWith
import Derived.Deep.DeepMust
import Derived.Deep.RegionLaw
import Derived.Deep.RegionHeld3
import Derived.Deep.DeepCutAuto
import Derived.Test.YtjmbpjlojjgggaaGreatDoorX04
set_option maxRecDepth 100000
set_option maxHeartbeats 2000000
namespace Go.Proofs.YtjmbpjlojjgggaaGreatDoor
open Go.RowKit Go.Dw Go.Shelf
attribute [local go_sem] Oper.semAt_some
def gv(u i:Nat):Nat:=max (u- i) (i- u)
def aM(i r:Nat):Nat:=i+1- r
def gz(i n r:Nat):Nat:=min n (i+r)- aM i r
def xV(i r k:Nat):Array Value:= #[.int .i64 ((aM i r:Int)+(k:Int)),.int .i64 (gv (aM i r+k) i:Nat)]
def i6(i n r:Nat):List (Array Value):=(List.range (gz i n r)).map (xV i r)
theorem D9(bi br bn i n r:Nat)(hi:i<=65536)(hn:n<=65536)(hr:r<=65536)(w:World)(R:Nat->Prop)
  (h1:cM w bi 3 #[.int .i64 i]) (h2:cM w br 3 #[.int .i64 r]) (h3:cM w bn 3 #[.int .i64 n]) (r1:¬R bi) (r2:¬R br) (r3:¬R bn) :
  Iter Tryz.prog 182 #[.pointer (some ⟨bi,0,none⟩),.pointer (some ⟨br,0,none⟩),.pointer (some ⟨bn,0,none⟩)] (i6 i n r) R w:=by
 intro l J Jx W hT hl hlW hJ hJx hY h0
 have hb:∀wr,aZ (fun k=>R k\/k=l) W wr->wr.cell? ⟨bi,0,none⟩=some (.int .i64 i)/\wr.cell? ⟨br,0,none⟩=some (.int .i64 r)/\wr.cell? ⟨bn,0,none⟩=some (.int .i64 n):=fun wr ht=>
  ⟨(ht.box (hT.box h1 r1) (by rintro(e |e);exact r1 e;have:=h1.lt;omega)).cell 0,(ht.box (hT.box h2 r2) (by rintro(e |e);exact r2 e;have:=h2.lt;omega)).cell 0,
   (ht.box (hT.box h3 r3) (by rintro(e |e);exact r3 e;have:=h3.lt;omega)).cell 0⟩
 obtain⟨c1,c2,c3⟩:=hb W (aZ.refl _ _)
 have e1:max (0:Int) ((i:Int)- (r:Int)+1)=((aM i r:Nat):Int):=by unfold aM;omega
 refine callsIn_of_wp Tryz.func182 rfl trivial ?_ rfl
 simp only [Tryz.ntmps182,List.size_toArray,List.length_cons,List.length_nil,Nat.reduceAdd,Nat.reduceSub,Array.replicate_succ,Array.replicate_zero,List.push_toArray,List.append_toArray,List.nil_append,List.cons_append]
 gi_wp2
 gi_loopw [5] (fun u wr=>∃k:Nat,k<=gz i n r/\u= .int .i64 ((aM i r:Int)+(k:Int))/\J k wr/\aZ (fun k=>R k\/k=l) W wr) (fun u wr=>n- (intOf u).toNat)
 case atStart=>exact⟨0,Nat.zero_le _,rfl,h0,aZ.refl _ _⟩
 case round=>
  obtain⟨k,hk,rfl,hJk,hTk⟩:=hrel
  obtain⟨d1,d2,d3⟩:=hb wr hTk
  have e2:min (n:Int) ((i:Int)+(r:Int))=((min n (i+r):Nat):Int):=by omega
  by_cases hlt:k< gz i n r
  ·
   obtain⟨fn,tmps,assign,body,hy,hR⟩:=hY k (xV i r k) wr (by simp [i6,hlt]) hTk.size hJk
   have e3:max ((aM i r:Int)+(k:Int)- (i:Int)) ((i:Int)- ((aM i r:Int)+(k:Int)))=((gv (aM i r+k) i:Nat):Int):=by unfold gv;omega
   have hlt':aM i r+k< min n (i+r):=by unfold gz at hlt;omega
   unfold xV at hy
   gi_wp2
   refine hR.mono ?_
   rintro e W2 ⟨bb,rfl,hT2,hJ2,hJ3⟩
   cases bb
   rotate_left
   ·
    gi_wp2
    go_roundw
    case rel=>exact⟨k+1,by omega,by go_num,hJ2 (by simp),hTk.trans hT2⟩
    case measure=>simp [intOf];omega
   ·
    gi_wp2
    refine bodyPost_ret (results_none rfl _ _ _) rfl ?_
    exact⟨⟨_,rfl⟩,.inr ⟨k,by simpa [i6]using hlt,hJ3 (by simp)⟩⟩
  ·
   have hge:min n (i+r)<=aM i r+k:=by unfold gz at hlt;omega
   have hk2:k=gz i n r:=by omega
   subst hk2
   gi_wp2
   go_end0
   exact⟨⟨_,rfl⟩,.inl (by simpa [i6]using hJk)⟩
theorem Ad(i n r:Int)(w:World):Calls Tryz.prog 159 #[.int .i64 i,.int .i64 n,.int .i64 r] w fun e w'=> e= .returned (.func (.func 182) #[] #[.pointer (some ⟨w.heap.size,0,none⟩),.pointer (some ⟨w.heap.size+2,0,none⟩),.pointer (some ⟨w.heap.size+1,0,none⟩)])/\ cM w' w.heap.size 3 #[.int .i64 i]/\cM w' (w.heap.size+2) 3 #[.int .i64 r]/\cM w' (w.heap.size+1) 3 #[.int .i64 n]/\Below w.heap.size w w'/\w'.heap.size=w.heap.size+3:=by
 go_enter Tryz.func159,Tryz.ntmps159
 go_wp2
 go_ret
 have b1:=cM.new w 3 #[.int .i64 i];have b2:=cM.new (w.alloc (.cells #[.int .i64 i] 3)) 3 #[.int .i64 n];have b3:=cM.new ((w.alloc (.cells #[.int .i64 i] 3)).alloc (.cells #[.int .i64 n] 3)) 3 #[.int .i64 r];simp only [World.size_alloc]at b2 b3;exact⟨rfl,(b1.alloc _).alloc _,b3,b2.alloc _,(((Below.refl _ _).alloc (Nat.le_refl _) _).alloc (by simp) _).alloc (by simp;omega) _,by simp⟩
def Kb(h t:List Int)(down:Bool)(i k:Nat):Array Value:= #[.int .i64 (gi h (aM i t.length+k)+(if down then- gi t (gv (aM i t.length+k) i)else gi t (gv (aM i t.length+k) i)))]
def pM(h t:List Int)(down:Bool)(i:Nat):List (Array Value):=(List.range (gz i h.length t.length)).map (Kb h t down i)
theorem nH(bi bh bt bd i:Nat)(Ah At:Option Addr)(n ch r ct:Nat)(h t:List Int)(down:Bool)(w:World)(R:Nat->Prop)
  (hi:i< n) (hn:n<=65536) (hr:r<=65536)
  (h1:cM w bi 3 #[.int .i64 i]) (h2:cM w bh 41 #[.slice Ah n ch]) (h3:cM w bt 59 #[.slice At r ct]) (h4:cM w bd 4 #[.bool down])
  (hh:eT w Ah n h) (ht:eT w At r t) (hhb:∀x∈h, -16777216<=x/\x<=16777216) (htb:∀x∈t,0<=x/\x<=16777216)
  (r1:¬R bi) (r2:¬R bh) (r3:¬R bt) (r4:¬R bd) (r5:∀b,Ah.map (·.block)=some b->¬R b) (r6:0< r->∀b,At.map (·.block)=some b->¬R b) (hR:∀k,R k->k< w.heap.size) :
  Iter Tryz.prog 158 #[.pointer (some ⟨bi,0,none⟩),.pointer (some ⟨bh,0,none⟩),.pointer (some ⟨bt,0,none⟩),.pointer (some ⟨bd,0,none⟩)] (pM h t down i) R w:=by
 intro l J Jx W hT hl hlW hJ hJx hY h0
 have nl:∀b,b< w.heap.size->b≠l:=fun b hb=>by omega
 have tb:∀ {wr:World}{b ty}{cs},aZ (fun k=>R k\/k=l) W wr->cM w b ty cs->¬R b->cM wr b ty cs:=fun ht hb hr=>ht.box (hT.box hb hr) (by rintro(e |e);exact hr e;exact nl _ hb.lt e)
 have c1:W.cell? ⟨bi,0,none⟩=some (.int .i64 i):=(hT.box h1 r1).cell 0
 have c2:W.cell? ⟨bh,0,none⟩=some (.slice Ah n ch):=(hT.box h2 r2).cell 0
 have c3:W.cell? ⟨bt,0,none⟩=some (.slice At r ct):=(hT.box h3 r3).cell 0
 have hbW:=cM.new W 161 #[.func (.yield l) #[] #[]]
 have hb0:=bC W (.cells #[.func (.yield l) #[] #[]] 161)
 have d1:=(World.cell?_alloc_lt W (.cells #[.func (.yield l) #[] #[]] 161) ⟨bi,0,none⟩ (by have:=(hT.box h1 r1).lt;exact this)).trans c1
 have d2:=(World.cell?_alloc_lt W (.cells #[.func (.yield l) #[] #[]] 161) ⟨bh,0,none⟩ (by have:=(hT.box h2 r2).lt;exact this)).trans c2
 have d3:=(World.cell?_alloc_lt W (.cells #[.func (.yield l) #[] #[]] 161) ⟨bt,0,none⟩ (by have:=(hT.box h3 r3).lt;exact this)).trans c3
 refine callsIn_of_wp_marks Tryz.func158 rfl trivial ?_ rfl
 simp only [Tryz.ntmps158,List.size_toArray,List.length_cons,List.length_nil,Nat.reduceAdd,Nat.reduceSub,Array.replicate_succ,Array.replicate_zero,List.push_toArray,List.append_toArray,List.nil_append,List.cons_append]
 gi_wp2_with (gi_at_call 159;refine(callsIn_wide.2 (Ad _ _ _ _)).mono ?_;rintro e w' ⟨rfl,e1,e2,e3,e4,e5⟩)
 have hT':aZ (fun k=>R k\/k=l) W w':=aZ.ja (qS hb0 e4 (by simp))
 have hBW:cM w' W.heap.size 161 #[.func (.yield l) #[] #[]]:=hbW.bD e4
 rw [World.size_alloc]at*
 refine yO (gf:=182) rfl (enters_of Tryz.func182 kR rfl)
  (D9 _ _ _ i n r oM oM oM w' (fun k=>R k\/k=l) e1 e2 e3
   (by rintro(e |e);have:=hR _ e;have:=hT.size;omega;omega) (by rintro(e |e);have:=hR _ e;have:=hT.size;omega;omega) (by rintro(e |e);have:=hR _ e;have:=hT.size;omega;omega))
  (by rintro k (e |e);have:=hR _ e;have:=hT.size;omega;omega) (by intro x hx;simp [i6]at hx;obtain⟨k,_,rfl⟩:=hx;rfl)
  (fun k W'=>J k W'/\aZ (fun k=>R k\/k=l) W W'/\cM W' W.heap.size 161 #[.func (.yield l) #[] #[]]) (fun k c W'=>c= .ret/\Jx k W')
  (fun k W1 W2 h hb=>⟨hJ k W1 W2 h.1 (hb.mono oM),h.2.1.later hb oM,h.2.2.below hb oM⟩)
  (fun k c W1 W2 h hb=>⟨h.1,hJx k W1 W2 h.2 (hb.mono oM)⟩) ⟨hJ 0 W w' h0 (qS hb0 (by rw [World.size_alloc];exact e4) (by simp)),hT',hBW⟩ ?hround ?hdone ?hstop
 case hround=>
  rintro l2 k x W2 hl2 hl2' hx ⟨hJ2,hT2,hB2⟩
  obtain⟨hk,rfl⟩:k< gz i n r/\xV i r k=x:=by
   unfold i6 at hx
   rw [List.getElem?_map]at hx
   by_cases hk:k< gz i n r
   ·
    rw [List.getElem?_range hk]at hx;exact⟨hk,by simpa using hx⟩
   ·
    rw [List.getElem?_eq_none (by simpa using hk)]at hx;cases hx
  unfold xV
  gi_wp2
  refine⟨aZ.refl _ _,fun W3 hT3=> ?_⟩
  have hb3:Below w'.heap.size W2 W3:=hT3.below (by have:=hT2.size;omega) (fun q hq=>by omega)
  have hT3':aZ (fun q=>R q\/q=l) W W3:=hT2.later hb3 oM
  have hB3:=hB2.below hb3 oM
  have hJ3:=hJ k W2 W3.drew hJ2 (hb3.mono oM).drew
  have nl':∀ {A:Option Addr}{b},A.map (·.block)=some b->(∃b o,A=some (⟨b,o,none⟩:Addr)/\b< w.heap.size)->b≠l:=by
   rintro A b hA ⟨b',o,rfl,hb⟩;simp at hA;omega
  have hdk:gv (aM i r+k) i< r:=by unfold gv aM gz aM at *;omega
  have hlk:aM i r+k< n:=by unfold gz aM at *;omega
  obtain⟨bH,oH,rfl,hbH,hcH⟩:=ints_at hh hlk
  obtain⟨bT,oT,rfl,hbT,hcT⟩:=ints_at ht hdk
  have f1:W3.cell? ⟨bh,0,none⟩=some (.slice (some ⟨bH,oH,none⟩) n ch):=(tb hT3' h2 r2).cell 0
  have f2:W3.cell? ⟨bt,0,none⟩=some (.slice (some ⟨bT,oT,none⟩) r ct):=(tb hT3' h3 r3).cell 0
  have f3:W3.cell? ⟨bd,0,none⟩=some (.bool down):=(tb hT3' h4 r4).cell 0
  have f4:W3.cell? ⟨W.heap.size,0,none⟩=some (.func (.yield l) #[] #[]):=hB3.cell 0
  have f5:W3.cell? ⟨bH,oH+(aM i r+k),none⟩=some (.int .i64 (gi h (aM i r+k))):=
   ((hT3'.cell (p:=⟨bH,oH+(aM i r+k),none⟩) (by have:=hT.size;exact Nat.lt_of_lt_of_le hbH this) (by rintro(e |e);exact r5 _ rfl e;exact nl _ hbH e)).trans (hT.cell (p:=⟨bH,oH+(aM i r+k),none⟩) hbH (r5 _ rfl))).trans hcH
  have f6:W3.cell? ⟨bT,oT+gv (aM i r+k) i,none⟩=some (.int .i64 (gi t (gv (aM i r+k) i))):=
   ((hT3'.cell (p:=⟨bT,oT+gv (aM i r+k) i,none⟩) (by have:=hT.size;exact Nat.lt_of_lt_of_le hbT this) (by rintro(e |e);exact r6 oM _ rfl e;exact nl _ hbT e)).trans (hT.cell (p:=⟨bT,oT+gv (aM i r+k) i,none⟩) hbT (r6 oM _ rfl))).trans hcT
  have hl1:=hh.1
  have hl2:=ht.1
  have g1:=(eZ.1 hhb) (aM i r+k) oM
  have g2:=(eZ.1 htb) (gv (aM i r+k) i) oM
  obtain⟨fn,tmps,assign,body,hy,hRd⟩:=hY k (Kb h t down i k) W3.drew (by subst hl2;subst hl1;simp [pM,hk]) hT3'.size hJ3
  unfold Kb at hy
  rw [hl2]at hy
  have hw1:IntKind.i64.wrap (gi h (aM i r+k)+gi t (gv (aM i r+k) i))=gi h (aM i r+k)+gi t (gv (aM i r+k) i):=IntWalk.i64_in _ oM
  have hw2:IntKind.i64.wrap (gi h (aM i r+k)+ -gi t (gv (aM i r+k) i))=gi h (aM i r+k)+ -gi t (gv (aM i r+k) i):=IntWalk.i64_in _ oM
  have x1:(0:Int)<=(aM i r:Int)+(k:Int):=by omega
  have x2:(aM i r:Int)+(k:Int)< (n:Int):=by omega
  have x3:((aM i r:Int)+(k:Int)).toNat=aM i r+k:=by omega
  have HL1:=Lib.hid hl1
  have HL2:=Lib.hid hl2
  clear hl1 hl2 hcH hcT c1 c2 c3 d1 d2 d3
  cases down
  all_goals
   simp only [Bool.false_eq_true,if_false,if_true]at hy
   gi_wp2
   refine ko 7 kR kR ?_
   simp only [List.take_succ_cons,List.take_zero,List.drop_succ_cons,List.drop_zero]
   repeat still_step
   refine wpStill_nil ?_
   gi_wp2
   refine(tB l2 hRd).mono ?_
   rintro e W4 ⟨bb,rfl,hT4,hJ4,hJ5⟩
   have hT4':aZ (fun k=>R k\/k=l) W3 W4:=⟨hT4.os,hT4.tape,hT4.output,hT4.size,hT4.block⟩
   cases bb
   ·
    gi_wp2
    exact⟨hT4',rfl,hJ5 (by simp)⟩
   ·
    gi_wp2
    exact⟨hT4',hJ4 (by simp),hT3'.trans hT4',hT4'.box hB3 (by rintro(e |e);have:=hR _ e;have:=hT.size;omega;omega)⟩
 case hdone=>
  rintro D W2 ⟨hJ2,hT2,hB2⟩ hD hDd
  gi_wp2
  refine om [D] (.inl rfl) rfl (by simp) (by simpa using hDd) (fun w=>results_none rfl _ _ _) (fun w4 ht4=>⟨⟨_,rfl⟩,.inl ?_⟩)
  have e:(pM h t down i).length=(i6 i n r).length:=by simp [pM,i6,hh.1,ht.1]
  rw [e]
  exact hJ _ _ _ hJ2 (ht4.below (by have:=hT2.size;omega) (fun q hq=>by simp;omega))
 case hstop=>
  rintro D k c W2 hk ⟨rfl,hJ2⟩ hD hDd
  gi_wp2
  have hDl:D< W2.heap.size:=(Array.getElem?_eq_some_iff.1 hDd).1
  refine om [D] (.inr rfl) rfl (by simp) (by simpa using hDd) (fun w=>results_none rfl _ _ _) (fun w4 ht4=>⟨⟨_,rfl⟩,.inr ⟨k,?_,?_⟩⟩)
  ·
   have e:(pM h t down i).length=(i6 i n r).length:=by simp [pM,i6,hh.1,ht.1]
   rw [e];exact hk
  ·
   exact hJx _ _ _ hJ2 (ht4.below oM (fun q hq=>by simp;omega))
theorem rQ(a b:Int)(w:World):Calls Tryz.prog 162 #[.int .i64 a,.int .i64 b] w fun e w'=>e= .returned (.bool (decide (a< b)))/\w=w':=by
 go_enter Tryz.func162,Tryz.ntmps162
 go_wp2
 go_ret
 exact⟨rfl,rfl⟩
theorem rT(a b:Int)(w:World):Calls Tryz.prog 161 #[.int .i64 a,.int .i64 b] w fun e w'=>e= .returned (.bool (decide (b< a)))/\w=w':=by
 go_enter Tryz.func161,Tryz.ntmps161
 go_wp2
 go_ret
 exact⟨rfl,rfl⟩
def jm(down:Bool)(x acc:Int):Int:=if down then max acc x else min acc x
def l9(down:Bool)(f:Int)(l:List Int):Int:=l.foldl (fun acc x=>jm down x acc) f
theorem rC(down:Bool)(bf:Nat)(hbf:bf=161/\down=true\/bf=162/\down=false)(f:Int)(vs:List Int)(gf:Nat)(lb:Array Value)(w:World)(eg:∀args w,(callFunc gf args).run Tryz.prog w= .ok (.enter gf args) w) (hit:∀R w',Below w.heap.size w w'->(∀k,R k->w.heap.size<=k/\k< w'.heap.size)->Iter Tryz.prog gf lb (vs.map fun v=> #[.int .i64 v]) R w') : Calls Tryz.prog 160 #[.int .i64 f,.func (.func gf) #[] lb,.func (.func bf) #[] #[]] w fun e w'=>e= .returned (.int .i64 (l9 down f vs))/\Below w.heap.size w w':=by
 refine(callsIn_wide (n:=0)).1 ?_;refine callsIn_of_wp_marks Tryz.func160 rfl trivial ?_ rfl;simp only [Tryz.ntmps160,List.size_toArray,List.length_cons,List.length_nil,Nat.reduceAdd,Nat.reduceSub,Array.replicate_succ,Array.replicate_zero,List.push_toArray,List.append_toArray,List.nil_append,List.cons_append];gi_wp2
 have hb1:=cM.new w 2 #[.int .i64 f];have hb2:=cM.new (w.alloc (.cells #[.int .i64 f] 2)) 296 #[.func (.func bf) #[] #[]];have hb1':=hb1.alloc (.cells #[.func (.func bf) #[] #[]] 296);have hbl:=(bC w (.cells #[.int .i64 f] 2)).alloc (by simp) (.cells #[.func (.func bf) #[] #[]] 296);have hsz:((w.alloc (.cells #[.int .i64 f] 2)).alloc (.cells #[.func (.func bf) #[] #[]] 296)).heap.size=w.heap.size+2:=by simp
 rw [World.size_alloc]at hb2;generalize (w.alloc (.cells #[.int .i64 f] 2)).alloc (.cells #[.func (.func bf) #[] #[]] 296)=w0 at*;refine yO (gf:=gf) rfl eg (hit (· =w.heap.size) w0 hbl (by intro k e;omega)) (by intro k e;omega) (by intro x hx;simp at hx;obtain⟨v,_,rfl⟩:=hx;rfl)
  (fun k W=>cM W w.heap.size 2 #[.int .i64 (l9 down f (vs.take k))]/\cM W (w.heap.size+1) 296 #[.func (.func bf) #[] #[]]/\Below w.heap.size w W) (fun _ _ _=>False)
  (fun k W1 W2 h hb=>⟨h.1.below hb oM,h.2.1.below hb oM,h.2.2.trans (hb.mono oM)⟩) (fun _ _ _ _ h _=>h) ⟨by simpa [l9]using hb1',hb2,hbl⟩ ?hround ?hdone (fun _ _ _ _ _ h=>h.elim)
 case hround=>
  rintro l k x W hl hl' hx ⟨h1,h2,h3⟩
  obtain⟨hk,rfl⟩:∃hk:k< vs.length,#[.int .i64 vs[k]]=x:=by
   rw [List.getElem?_map]at hx;by_cases hk:k< vs.length;·rw [List.getElem?_eq_getElem hk]at hx;exact⟨hk,by simpa using hx⟩
   ·rw [List.getElem?_eq_none oM]at hx;cases hx
  gi_wp2
  refine⟨aZ.refl _ _,fun W3 hT3=> ?_⟩
  have h1':=hT3.box h1 oM
  have h2':=hT3.box h2 oM
  have h3':Below w.heap.size w W3:=h3.trans (hT3.below (by have:=h3.size;omega) (fun q hq=>by omega))
  have c1:=h1'.cell 0
  have c2:=h2'.cell 0
  have c3:=h1'.frozen 0
  have hs:l9 down f (vs.take (k+1))=jm down vs[k] (l9 down f (vs.take k)):=by rw [List.take_succ_eq_append_getElem hk,l9,List.foldl_append];rfl
  have HS:=Lib.hid hs
  clear hs hx
  simp only [List.getElem?_toArray,List.getElem?_cons_zero]at c1 c2
  generalize hacc:l9 down f (vs.take k)=acc at*
  generalize vs[k]=x at*
  have Hacc:=Lib.hid hacc
  clear hacc
  rcases hbf with⟨rfl,rfl⟩ | ⟨rfl,rfl⟩
  ·by_cases hlt:acc< x
   ·have hd:decide (acc< x)=true:=by simpa using hlt
    gi_wp2_with (gi_at_call 161;refine(callsIn_wide.2 (rT _ _ _)).mono ?_;rintro e w' ⟨rfl,rfl⟩)
    refine⟨aZ.setCell (R:=(· =w.heap.size)) (p:=⟨w.heap.size,0,none⟩) (aZ.refl _ _) (fun _=>rfl) _,?_,h2'.Rn (by simp) _,h3'.setCell (Nat.le_refl _) _⟩;have hb:=h1'.set 0 (.int .i64 x);simp only [List.setIfInBounds_toArray,List.set_cons_zero]at hb;rw [HS.out,show jm true x acc=x by simp [jm];omega];exact hb
   ·have hd:decide (acc< x)=false:=by simpa using hlt
    gi_wp2_with (gi_at_call 161;refine(callsIn_wide.2 (rT _ _ _)).mono ?_;rintro e w' ⟨rfl,rfl⟩)
    refine⟨aZ.refl _ _,?_,h2',h3'⟩;rw [HS.out,show jm true x acc=acc by simp [jm];omega];exact h1'
  ·by_cases hlt:x< acc
   ·have hd:decide (x< acc)=true:=by simpa using hlt
    gi_wp2_with (gi_at_call 162;refine(callsIn_wide.2 (rQ _ _ _)).mono ?_;rintro e w' ⟨rfl,rfl⟩)
    refine⟨aZ.setCell (R:=(· =w.heap.size)) (p:=⟨w.heap.size,0,none⟩) (aZ.refl _ _) (fun _=>rfl) _,?_,h2'.Rn (by simp) _,h3'.setCell (Nat.le_refl _) _⟩;have hb:=h1'.set 0 (.int .i64 x);simp only [List.setIfInBounds_toArray,List.set_cons_zero]at hb;rw [HS.out,show jm false x acc=x by simp [jm];omega];exact hb
   ·have hd:decide (x< acc)=false:=by simpa using hlt
    gi_wp2_with (gi_at_call 162;refine(callsIn_wide.2 (rQ _ _ _)).mono ?_;rintro e w' ⟨rfl,rfl⟩)
    refine⟨aZ.refl _ _,?_,h2',h3'⟩;rw [HS.out,show jm false x acc=acc by simp [jm];omega];exact h1'
 case hdone=>
  rintro D W ⟨h1,h2,h3⟩ hD hDd
  have c1:=h1.cell 0
  simp only [List.getElem?_toArray,List.getElem?_cons_zero,List.length_map,List.take_length]at c1
  gi_wp2
  refine om [D] (.inr rfl) rfl (by simp) (by simpa using hDd) (fun w=>results_tmp rfl _ _ _) (fun w4 ht4=>⟨rfl,?_⟩)
  exact h3.trans (ht4.below (by have:=h3.size;omega) (fun q hq=>by simp;omega))
theorem F1:∃i,tL Tryz.prog 41 2 i (.int .i64 0) 1 8:=Lg Tryz.underlying41 kR rfl (by decide)
def jS(t h:List Int)(down:Bool)(i:Nat):Int:= l9 down (gi h i) ((List.range (gz i h.length t.length)).map fun k=>gi h (aM i t.length+k)+(if down then- gi t (gv (aM i t.length+k) i)else gi t (gv (aM i t.length+k) i)))
def pT(t h:List Int)(down:Bool):List Int:=(List.range h.length).map (jS t h down)
def fF(t h:List Int)(down:Bool)(k:Nat):List Int:=(List.range h.length).map fun i=>if i< k then jS t h down i else 0
theorem yI(t h:List Int)(down:Bool):fF t h down 0=List.replicate h.length 0:=by apply List.ext_getElem <;> simp [fF]
theorem A5(t h:List Int)(down:Bool):fF t h down h.length=pT t h down:=by
 apply List.ext_getElem;·simp [fF,pT]
 ·intro i h1 h2;simp [fF,pT]at h1 ⊢;omega
theorem sG(t h:List Int)(down:Bool)(k:Nat):(fF t h down k).set k (jS t h down k)=fF t h down (k+1):=by
 apply List.ext_getElem;·simp [fF]
 ·intro i h1 h2;simp [fF]at h1 h2 ⊢;rw [List.getElem_set];by_cases e:k=i;·subst e;simp
  ·simp [e];by_cases h3:i< k;·simp [h3];intro h4;omega
   ·simp [h3];intro h4;omega
theorem mq(t h:List Int)(down:Bool)(k:Nat):(fF t h down k).length=h.length:=by simp [fF]
theorem xZ(h t:List Int)(down:Bool)(i:Nat) : pM h t down i=((List.range (gz i h.length t.length)).map fun k=>gi h (aM i t.length+k)+(if down then- gi t (gv (aM i t.length+k) i)else gi t (gv (aM i t.length+k) i))).map fun v=> #[.int .i64 v]:=by simp [pM,Kb]
theorem A6(At Ah:Option Addr)(r ct n ch:Nat)(t h:List Int)(down:Bool)(w:World)(hn:n<=65536)(hr:r<=65536)(ht:eT w At r t)(hh:eT w Ah n h) (hhb:∀x∈h, -16777216<=x/\x<=16777216) (htb:∀x∈t,0<=x/\x<=16777216) : Calls Tryz.prog 118 #[.agg #[.slice At r ct],.slice Ah n ch,.bool down] w fun e w'=>∃g,w.heap.size<=g/\e= .returned (.slice (some ⟨g,0,none⟩) n n)/\ cM w' g 2 (bI (pT t h down))/\Below w.heap.size w w':=by
 obtain⟨i0,hel⟩:=F1;have hmk:=fun W=>D5 hel n oM oM W;go_enter Tryz.func118,Tryz.ntmps118
 go_wp2
 have b1:=((cM.new w 59 #[.slice At r ct]).alloc (.cells #[.slice Ah n ch] 41)).alloc (.cells #[.bool down] 4) |>.alloc (.cells (bI (List.replicate n 0)) 2)
 have b2:=((cM.new (w.alloc (.cells #[.slice At r ct] 59)) 41 #[.slice Ah n ch]).alloc (.cells #[.bool down] 4)).alloc (.cells (bI (List.replicate n 0)) 2);have b3:=(cM.new ((w.alloc (.cells #[.slice At r ct] 59)).alloc (.cells #[.slice Ah n ch] 41)) 4 #[.bool down]).alloc (.cells (bI (List.replicate n 0)) 2);have b4:=cM.new (((w.alloc (.cells #[.slice At r ct] 59)).alloc (.cells #[.slice Ah n ch] 41)).alloc (.cells #[.bool down] 4)) 2 (bI (List.replicate n 0));have hb0:=(((bC w (.cells #[.slice At r ct] 59)).alloc (by simp) (.cells #[.slice Ah n ch] 41)).alloc (by simp;omega) (.cells #[.bool down] 4)).alloc (by simp;omega) (.cells (bI (List.replicate n 0)) 2);have hs0:((((w.alloc (.cells #[.slice At r ct] 59)).alloc (.cells #[.slice Ah n ch] 41)).alloc (.cells #[.bool down] 4)).alloc (.cells (bI (List.replicate n 0)) 2)).heap.size=w.heap.size+1+1+1+1:=by simp
 simp only [World.size_alloc]at b1 b2 b3 b4;generalize (((w.alloc (.cells #[.slice At r ct] 59)).alloc (.cells #[.slice Ah n ch] 41)).alloc (.cells #[.bool down] 4)).alloc (.cells (bI (List.replicate n 0)) 2)=w0 at*;have hl1:h.length=n:=hh.1;rw [<-hl1,<-yI t h down]at b4;have Hl1:=Lib.hid hl1;clear hl1 hmk;have hh0:=hh.bD hb0;have ht0:=ht.bD hb0;have nA:∀b,Ah.map (·.block)=some b->0< n->b< w.heap.size:=fun b hb hn0=>by obtain⟨b',o,rfl,hb',_⟩:=hh.2.2 hn0;simp at hb;omega
 go_loopw [16] (fun kv wr=>∃k:Nat,k<=n/\kv= .int .i64 k/\cM wr (w.heap.size+1+1+1) 2 (bI (fF t h down k))/\aZ (· =w.heap.size+1+1+1) w0 wr) (fun kv wr=>n- (intOf kv).toNat)
 case atStart=>exact⟨0,Nat.zero_le _,rfl,b4,aZ.refl _ _⟩
 case round=>
  obtain⟨k,hk,rfl,hbo,hT⟩:=hrel
  have c1:=hT.box b1 oM
  have c2:=hT.box b2 oM
  have c3:=hT.box b3 oM
  have hbw:Below w.heap.size w wr:=hb0.trans (hT.below oM (fun q hq=>by omega))
  by_cases hlt:k< n
  ·have hhw:=hh.bD hbw;have htw:=ht.bD hbw;obtain⟨bH,oH,rfl,hbH,hcH⟩:=ints_at hhw hlt;have d3:wr.cell? ⟨w.heap.size+1+1,0,none⟩=some (.bool down):=c3.cell 0;have d2:wr.cell? ⟨w.heap.size+1,0,none⟩=some (.slice (some ⟨bH,oH,none⟩) n ch):=c2.cell 0;have l1:=c1.lt;have l2:=c2.lt;have l3:=c3.lt;have l4:=hbo.lt;have hx1:cM (wr.alloc (.cells #[.int .i64 k] 3)) wr.heap.size 3 #[.int .i64 k]:=cM.new _ _ _;have hx2:=bC wr (.cells #[.int .i64 k] 3);have hx3:=H8 wr (.cells #[.int .i64 k] 3);cases down
   ·go_wp2
    generalize wr.alloc (.cells #[.int .i64 k] 3)=wx at*;have e1:=c1.below hx2 l1;have e2:=c2.below hx2 l2;have e3:=c3.below hx2 l3;have e4:=hbo.below hx2 l4;have hi:wx.cell? ⟨wr.heap.size,0,none⟩=some (.int .i64 k):=hx1.cell 0;have hbx:Below w.heap.size w wx:=hbw.trans (hx2.mono oM);have hit:∀(R:Nat->Prop) (w':World),Below wx.drew.heap.size wx.drew w'->(∀k,R k->wx.drew.heap.size<=k/\k< w'.heap.size)->
     Iter Tryz.prog 158 #[.pointer (some ⟨wr.heap.size,0,none⟩),.pointer (some ⟨w.heap.size+1,0,none⟩),.pointer (some ⟨w.heap.size,0,none⟩),.pointer (some ⟨w.heap.size+1+1,0,none⟩)] (((List.range (gz k h.length t.length)).map fun q=>gi h (aM k t.length+q)+(if false then- gi t (gv (aM k t.length+q) k)else gi t (gv (aM k t.length+q) k))).map fun v=> #[.int .i64 v]) R w':=fun R w' hb hR=>by
     have hb':Below wx.heap.size wx w':=fq hb
     have hsx:∀q,q< wx.heap.size->¬R q:=fun q hq e=>by have:=(hR q e).1;have:wx.heap.size<=q:=this;omega
     have:=hx1.lt
     rw [<-xZ]
     refine nH _ _ _ _ k (some ⟨bH,oH,none⟩) At n ch r ct h t false w' R hlt hn hr (hx1.below hb' oM) (e2.below hb' oM) (e1.below hb' oM) (e3.below hb' oM) ((hh.bD hbx).below hb' (Nat.le_refl _)) ((ht.bD hbx).below hb' (Nat.le_refl _)) hhb htb (hsx _ oM) (hsx _ oM) (hsx _ oM) (hsx _ oM) ?_ ?_ (fun q e=>(hR q e).2)
     ·intro b hb2;simp at hb2;exact hsx _ oM
     ·intro hr0 b hb2;obtain⟨b',o,rfl,hb3,_⟩:=ht.2.2 hr0;simp at hb2;exact hsx _ (by have:=hbx.size;omega)
    have Hit:=Lib.hid hit;clear hit;go_region_with (go_at_call 160;refine(rC false 162 (.inr ⟨rfl,rfl⟩) _ _ 158 _ wx.drew (enters_of Tryz.func158 kR rfl) Hit.out).mono ?_;rintro e w' ⟨rfl,hbw'⟩;have q1:w'.cell? ⟨wr.heap.size,0,none⟩=some (.int .i64 k):=(hx1.below (w:=wx.drew) hbw' hx1.lt).cell 0;have q2:w'.cell? ⟨w.heap.size+1+1+1,k,none⟩=some (.int .i64 (gi (fF t h false k) k)):=((e4.below (w:=wx.drew) hbw' e4.lt).cell k).trans (eI _ _ (by rw [mq,Hl1.out];exact hlt));have q3:w'.frozen? ⟨w.heap.size+1+1+1,k,none⟩=false:=(e4.below (w:=wx.drew) hbw' e4.lt).frozen k)
    all_goals
     have hbw2:Below wx.heap.size wx w':=fq hbw'
     go_wp2
     go_roundw
     case rel=>
      refine⟨k+1,by omega,by go_num,?_,?_⟩
      ·have hs:=(e4.below hbw2 e4.lt).set k (.int .i64 (jS t h false k));rw [gU,sG]at hs;simpa [jS]using hs
      ·exact((hT.trans (aZ.ja hx2)).trans (aZ.ja hbw2)).setCell (fun _=>rfl) _
     case measure=>simp [intOf];omega
   ·go_wp2
    generalize wr.alloc (.cells #[.int .i64 k] 3)=wx at*;have e1:=c1.below hx2 l1;have e2:=c2.below hx2 l2;have e3:=c3.below hx2 l3;have e4:=hbo.below hx2 l4;have hi:wx.cell? ⟨wr.heap.size,0,none⟩=some (.int .i64 k):=hx1.cell 0;have hbx:Below w.heap.size w wx:=hbw.trans (hx2.mono oM);have hit:∀(R:Nat->Prop) (w':World),Below wx.drew.heap.size wx.drew w'->(∀k,R k->wx.drew.heap.size<=k/\k< w'.heap.size)->
     Iter Tryz.prog 158 #[.pointer (some ⟨wr.heap.size,0,none⟩),.pointer (some ⟨w.heap.size+1,0,none⟩),.pointer (some ⟨w.heap.size,0,none⟩),.pointer (some ⟨w.heap.size+1+1,0,none⟩)] (((List.range (gz k h.length t.length)).map fun q=>gi h (aM k t.length+q)+(if true then- gi t (gv (aM k t.length+q) k)else gi t (gv (aM k t.length+q) k))).map fun v=> #[.int .i64 v]) R w':=fun R w' hb hR=>by
     have hb':Below wx.heap.size wx w':=fq hb
     have hsx:∀q,q< wx.heap.size->¬R q:=fun q hq e=>by have:=(hR q e).1;have:wx.heap.size<=q:=this;omega
     have:=hx1.lt
     rw [<-xZ]
     refine nH _ _ _ _ k (some ⟨bH,oH,none⟩) At n ch r ct h t true w' R hlt hn hr (hx1.below hb' oM) (e2.below hb' oM) (e1.below hb' oM) (e3.below hb' oM) ((hh.bD hbx).below hb' (Nat.le_refl _)) ((ht.bD hbx).below hb' (Nat.le_refl _)) hhb htb (hsx _ oM) (hsx _ oM) (hsx _ oM) (hsx _ oM) ?_ ?_ (fun q e=>(hR q e).2)
     ·intro b hb2;simp at hb2;exact hsx _ oM
     ·intro hr0 b hb2;obtain⟨b',o,rfl,hb3,_⟩:=ht.2.2 hr0;simp at hb2;exact hsx _ (by have:=hbx.size;omega)
    have Hit:=Lib.hid hit;clear hit;go_region_with (go_at_call 160;refine(rC true 161 (.inl ⟨rfl,rfl⟩) _ _ 158 _ wx.drew (enters_of Tryz.func158 kR rfl) Hit.out).mono ?_;rintro e w' ⟨rfl,hbw'⟩;have q1:w'.cell? ⟨wr.heap.size,0,none⟩=some (.int .i64 k):=(hx1.below (w:=wx.drew) hbw' hx1.lt).cell 0;have q2:w'.cell? ⟨w.heap.size+1+1+1,k,none⟩=some (.int .i64 (gi (fF t h true k) k)):=((e4.below (w:=wx.drew) hbw' e4.lt).cell k).trans (eI _ _ (by rw [mq,Hl1.out];exact hlt));have q3:w'.frozen? ⟨w.heap.size+1+1+1,k,none⟩=false:=(e4.below (w:=wx.drew) hbw' e4.lt).frozen k)
    all_goals
     have hbw2:Below wx.heap.size wx w':=fq hbw'
     go_wp2
     go_roundw
     case rel=>
      refine⟨k+1,by omega,by go_num,?_,?_⟩
      ·have hs:=(e4.below hbw2 e4.lt).set k (.int .i64 (jS t h true k));rw [gU,sG]at hs;simpa [jS]using hs
      ·exact((hT.trans (aZ.ja hx2)).trans (aZ.ja hbw2)).setCell (fun _=>rfl) _
     case measure=>simp [intOf];omega
  ·obtain rfl:k=n:=by omega
   go_wp2
   go_ret
   refine⟨_,?_,rfl,?_,hbw⟩;·omega
   ·rw [<-Hl1.out,A5]at hbo;exact hbo
def oF(inn:Bool)(p:Pt):Int:=if inn then- p.1 else p.2
def jW(inn:Bool)(n:Int):Int:=if inn then- n else n
theorem Hz(a b:Int)(w:World):Calls Tryz.prog 248 #[.agg #[],.agg #[.int .i64 a,.int .i64 b]] w fun e w'=>e= .returned (.int .i64 (oF false (a,b)))/\Below w.heap.size w w':=by
 go_enter Tryz.func248,Tryz.ntmps248
 go_wp2
 go_ret
 exact⟨rfl,(bC _ _).alloc (by simp) _⟩
theorem An(n:Int)(w:World):Calls Tryz.prog 247 #[.agg #[],.int .i64 n] w fun e w'=>e= .returned (.int .i64 (jW false n))/\Below w.heap.size w w':=by
 go_enter Tryz.func247,Tryz.ntmps247
 go_wp2
 go_ret
 exact⟨rfl,bC _ _⟩
theorem GC(a b:Int)(w:World)(h: -1099511627776<=a/\a<=1099511627776):Calls Tryz.prog 250 #[.agg #[],.agg #[.int .i64 a,.int .i64 b]] w fun e w'=>e= .returned (.int .i64 (oF true (a,b)))/\Below w.heap.size w w':=by
 go_enter Tryz.func250,Tryz.ntmps250
 go_wp2
 go_ret
 exact⟨rfl,(bC _ _).alloc (by simp) _⟩
theorem z4(n:Int)(w:World)(h: -1099511627776<=n/\n<=1099511627776):Calls Tryz.prog 249 #[.agg #[],.int .i64 n] w fun e w'=>e= .returned (.int .i64 (jW true n))/\Below w.heap.size w w':=by
 go_enter Tryz.func249,Tryz.ntmps249
 go_wp2
 go_ret
 exact⟨rfl,bC _ _⟩
theorem tj(w:World):(method 494 289 (.agg #[]) "deadwax/play.of").run Tryz.prog w= .ok (248,.agg #[]) w:=by kernel_rfl
theorem qb(w:World):(method 494 289 (.agg #[]) "deadwax/play.back").run Tryz.prog w= .ok (247,.agg #[]) w:=by kernel_rfl
theorem tg(w:World):(method 494 290 (.agg #[]) "deadwax/play.of").run Tryz.prog w= .ok (250,.agg #[]) w:=by kernel_rfl
theorem qa(w:World):(method 494 290 (.agg #[]) "deadwax/play.back").run Tryz.prog w= .ok (249,.agg #[]) w:=by kernel_rfl
def N4(tf:Nat)(lb:Array Value)(thr:List Int->List Int)(n:Nat)(h:List Int)(w:World):Prop:= ∀(A:Option Addr) (c:Nat) (W:World),Below w.heap.size w W->eT W A n h-> Calls Tryz.prog tf (#[.slice A n c]++lb) W fun e W'=>∃g,W.heap.size<=g/\e= .returned (.slice (some ⟨g,0,none⟩) n n)/\cM W' g 2 (bI (thr h))/\Below W.heap.size W W'
def eL(inn:Bool)(l:List Int)(k:Nat):List Int:=(List.range l.length).map fun i=>if i< k then jW inn (gi l i)else gi l i
theorem o6(inn:Bool)(l:List Int):eL inn l 0=l:=by
 apply List.ext_getElem;·simp [eL]
 ·intro i h1 h2;simp [eL,rG h2]
theorem qQ(inn:Bool)(l:List Int):eL inn l l.length=l.map (jW inn):=by
 apply List.ext_getElem;·simp [eL]
 ·intro i h1 h2;simp at h2;simp [eL,rG h2,h2]
theorem iU(inn:Bool)(l:List Int)(k:Nat):(eL inn l k).length=l.length:=by simp [eL]
theorem tS(inn:Bool)(l:List Int)(k:Nat)(h:k< l.length):gi (eL inn l k) k=gi l k:=by rw [rG (by rw [iU];exact h)];simp [eL]
theorem qR(inn:Bool)(l:List Int)(k:Nat):(eL inn l k).set k (jW inn (gi l k))=eL inn l (k+1):=by
 apply List.ext_getElem;·simp [eL]
 ·intro i h1 h2;simp [eL]at h1 h2 ⊢;rw [List.getElem_set];by_cases e:k=i;·subst e;simp
  ·simp [e];by_cases h3:i< k;·simp [h3];intro h4;omega
   ·simp [h3];intro h4;omega
theorem qT(inn:Bool)(it:Nat)(hit:it=290/\inn=true\/it=289/\inn=false)(a b:Nat)(A:Option Addr)(n c:Nat)(l:List Pt)(tf:Nat)(lb:Array Value)(thr:List Int->List Int)(w:World) (hl:lY w A n l) (hn:n<=4096) (hlb:∀p∈l, -4194304<=p.1/\p.1<=4194304/\ -4194304<=p.2/\p.2<=4194304) (ba:cM w a 42 #[.slice A n c]) (bb:cM w b 164 #[.func (.func tf) #[] lb]) (eg:∀args w,(callFunc tf args).run Tryz.prog w= .ok (.enter tf args) w) (ht:N4 tf lb thr n (l.map (oF inn)) w) (hth:(thr (l.map (oF inn))).length=n) (htb:∀x∈thr (l.map (oF inn)), -1099511627776<=x/\x<=1099511627776) : Calls Tryz.prog 157 #[.iface it (.agg #[]),.pointer (some ⟨a,0,none⟩),.pointer (some ⟨b,0,none⟩)] w fun e w'=>∃g,w.heap.size<=g/\e= .returned (.slice (some ⟨g,0,none⟩) n n)/\ cM w' g 2 (bI ((thr (l.map (oF inn))).map (jW inn)))/\Below w.heap.size w w':=by
 obtain⟨i0,hel⟩:=F1;have la:=ba.lt;have lb':=bb.lt;have c1:w.cell? ⟨a,0,none⟩=some (.slice A n c):=ba.cell 0;have hl1:=hl.1;have Hl1:=Lib.hid hl1;clear hl1;go_enter Tryz.func157,Tryz.ntmps157
 go_wp2
 have Hit:=Lib.hid hit;clear hit;rcases Hit.out with⟨rfl,rfl⟩ | ⟨rfl,rfl⟩
 ·go_region
  go_wp2
  have hd0:Below w.heap.size w w.drew:=(Below.refl _ _).drew;generalize w.drew=w0 at*;go_loopw [7,19] (fun v kv wr=>∃k:Nat,k<=n/\kv= .int .i64 k/\wr.ownsRow w.heap.size 2 1 v k (((l.map (oF true)).take k).flatMap zQ)/\Below w.heap.size w wr) (fun v kv wr=>n- (intOf kv).toNat)
  case atStart=>exact⟨0,Nat.zero_le _,rfl,World.ownsRow_nil _ _ _ _,hd0⟩
  case round=>
   obtain⟨k,hk,rfl,hown,hbl⟩:=hrel
   by_cases hlt:k< n
   ·obtain⟨bP,oP,rfl,hbP,hc1,hc2⟩:=Au (hl.bD hbl) hlt;have hpb:=(tZ.1 hlb) k (by rw [Hl1.out];exact hlt);have hx1:cM (wr.alloc (.cells #[.int .i64 (gp l k).1,.int .i64 (gp l k).2] 47)) wr.heap.size 47 #[.int .i64 (gp l k).1,.int .i64 (gp l k).2]:=cM.new _ _ _;have hx2:=bC wr (.cells #[.int .i64 (gp l k).1,.int .i64 (gp l k).2] 47);have m1:=fun w=>tg w;go_wp2_with (first
     | (go_at_call 250;refine(GC _ _ _ oM).mono ?_;rintro e w1 ⟨rfl,hw1⟩;have hown1:=jL (jL hown hx2) hw1;have hbl1:=(hbl.trans (hx2.mono hbl.size)).trans (hw1.mono (by have:=hbl.size;simp;omega)))
     | (at_builtin;go_loud (refine pU hel rfl _ _ rfl rfl (hown1.alloc _) rfl (cM.new w1 2 _) rfl (by intro u hu;simp at hu;subst hu;rfl) oM (by decide) (by have:=hbl1.size;simp;omega) ?_);intro v' w2 hown2 hg2))
    go_roundw
    case rel=>
     refine⟨k+1,by omega,by go_num,?_,?_⟩
     ·have e:(l.map (oF true)).take (k+1)=(l.map (oF true)).take k++[oF true (gp l k)]:=by rw [List.take_succ_eq_append_getElem (by simp [Hl1.out,hlt])];simp [mc (l:=l) (k:=k) (by rw [Hl1.out];exact hlt)]
      rw [e,List.flatMap_append];simpa [zQ]using hown2
     ·exact(hbl1.alloc hbl1.size _).grown hg2 (by have:=hbl1.size;simp;omega) (fun g e=>by have:=hown1.lt g e;omega)
    case measure=>simp [intOf];omega
   ·obtain rfl:k=n:=by omega
    obtain⟨A',c',rfl⟩:=r8 hown;rw [List.take_of_length_le (by simp [Hl1.out])]at hown;have hin:eT wr A' k (l.map (oF true)):=gj.Aj xp Nat.one_pos hown;have d2:wr.cell? ⟨b,0,none⟩=some (.func (.func tf) #[] lb):=(bb.bD hbl).cell 0;go_wp2_with fail
    refine(ht A' c' wr hbl hin).mono ?_;rintro e w1 ⟨g,hg,rfl,hbg,hb1⟩;have hb2:Below w.heap.size w w1:=hbl.trans (hb1.mono hbl.size);generalize hL:thr (l.map (oF true))=L at*;have HL:=Lib.hid hL;have Hth:=Lib.hid hth;clear hL hth ht;go_wp2
    go_loopw [35] (fun kv wr2=>∃q:Nat,q<=k/\kv= .int .i64 q/\cM wr2 g 2 (bI (eL true L q))/\Below w.heap.size w wr2) (fun kv wr2=>k- (intOf kv).toNat)
    case atStart=>exact⟨0,Nat.zero_le _,rfl,by rw [o6];exact hbg,hb2⟩
    case round=>
     obtain⟨q,hq,rfl,hbq,hbw⟩:=hrel
     by_cases hqk:q< k
     ·have f1:wr.cell? ⟨g,q,none⟩=some (.int .i64 (gi L q)):=by rw [hbq.cell,eI _ _ (by rw [iU,Hth.out];exact hqk),tS _ _ _ (by rw [Hth.out];exact hqk)]
      have hqb:=(eZ.1 htb) q (by rw [Hth.out];exact hqk);have m2:=fun w=>qa w;have hbq2:∀w',Below wr.heap.size wr w'->w'.cell? ⟨g,q,none⟩=some (.int .i64 (gi L q))/\w'.frozen? ⟨g,q,none⟩=false:=fun w' hb=>⟨(hb.cell (p:=⟨g,q,none⟩) hbq.lt).trans f1,(hbq.bD hb).frozen q⟩;go_wp2_with (go_at_call 249;refine(z4 _ _ oM).mono ?_;rintro e w2 ⟨rfl,hw2⟩;obtain⟨f2,f3⟩:=hbq2 w2 hw2)
      go_roundw
      case rel=>
       refine⟨q+1,by omega,by go_num,?_,?_⟩
       ·have hs:=(hbq.bD hw2).set q (.int .i64 (jW true (gi L q)));rw [gU,qR]at hs;exact hs
       ·exact(hbw.trans (hw2.mono hbw.size)).setCell (p:=⟨g,q,none⟩) (by have:=hbl.size;simp;omega) _
      case measure=>simp [intOf];omega
     ·obtain rfl:q=k:=by omega
      go_wp2
      go_ret
      refine⟨g,by have:=hbl.size;omega,rfl,?_,hbw⟩;have:=Hth.out;rw [<-this,qQ]at hbq;rw [HL.out];exact hbq
 ·go_region
  go_wp2
  have hd0:Below w.heap.size w w.drew:=(Below.refl _ _).drew;generalize w.drew=w0 at*;go_loopw [7,19] (fun v kv wr=>∃k:Nat,k<=n/\kv= .int .i64 k/\wr.ownsRow w.heap.size 2 1 v k (((l.map (oF false)).take k).flatMap zQ)/\Below w.heap.size w wr) (fun v kv wr=>n- (intOf kv).toNat)
  case atStart=>exact⟨0,Nat.zero_le _,rfl,World.ownsRow_nil _ _ _ _,hd0⟩
  case round=>
   obtain⟨k,hk,rfl,hown,hbl⟩:=hrel
   by_cases hlt:k< n
   ·obtain⟨bP,oP,rfl,hbP,hc1,hc2⟩:=Au (hl.bD hbl) hlt;have hpb:=(tZ.1 hlb) k (by rw [Hl1.out];exact hlt);have hx1:cM (wr.alloc (.cells #[.int .i64 (gp l k).1,.int .i64 (gp l k).2] 47)) wr.heap.size 47 #[.int .i64 (gp l k).1,.int .i64 (gp l k).2]:=cM.new _ _ _;have hx2:=bC wr (.cells #[.int .i64 (gp l k).1,.int .i64 (gp l k).2] 47);have m1:=fun w=>tj w;go_wp2_with (first
     | (go_at_call 248;refine(Hz _ _ _).mono ?_;rintro e w1 ⟨rfl,hw1⟩;have hown1:=jL (jL hown hx2) hw1;have hbl1:=(hbl.trans (hx2.mono hbl.size)).trans (hw1.mono (by have:=hbl.size;simp;omega)))
     | (at_builtin;go_loud (refine pU hel rfl _ _ rfl rfl (hown1.alloc _) rfl (cM.new w1 2 _) rfl (by intro u hu;simp at hu;subst hu;rfl) oM (by decide) (by have:=hbl1.size;simp;omega) ?_);intro v' w2 hown2 hg2))
    go_roundw
    case rel=>
     refine⟨k+1,by omega,by go_num,?_,?_⟩
     ·have e:(l.map (oF false)).take (k+1)=(l.map (oF false)).take k++[oF false (gp l k)]:=by rw [List.take_succ_eq_append_getElem (by simp [Hl1.out,hlt])];simp [mc (l:=l) (k:=k) (by rw [Hl1.out];exact hlt)]
      rw [e,List.flatMap_append];simpa [zQ]using hown2
     ·exact(hbl1.alloc hbl1.size _).grown hg2 (by have:=hbl1.size;simp;omega) (fun g e=>by have:=hown1.lt g e;omega)
    case measure=>simp [intOf];omega
   ·obtain rfl:k=n:=by omega
    obtain⟨A',c',rfl⟩:=r8 hown;rw [List.take_of_length_le (by simp [Hl1.out])]at hown;have hin:eT wr A' k (l.map (oF false)):=gj.Aj xp Nat.one_pos hown;have d2:wr.cell? ⟨b,0,none⟩=some (.func (.func tf) #[] lb):=(bb.bD hbl).cell 0;go_wp2_with fail
    refine(ht A' c' wr hbl hin).mono ?_;rintro e w1 ⟨g,hg,rfl,hbg,hb1⟩;have hb2:Below w.heap.size w w1:=hbl.trans (hb1.mono hbl.size);generalize hL:thr (l.map (oF false))=L at*;have HL:=Lib.hid hL;have Hth:=Lib.hid hth;clear hL hth ht;go_wp2
    go_loopw [35] (fun kv wr2=>∃q:Nat,q<=k/\kv= .int .i64 q/\cM wr2 g 2 (bI (eL false L q))/\Below w.heap.size w wr2) (fun kv wr2=>k- (intOf kv).toNat)
    case atStart=>exact⟨0,Nat.zero_le _,rfl,by rw [o6];exact hbg,hb2⟩
    case round=>
     obtain⟨q,hq,rfl,hbq,hbw⟩:=hrel
     by_cases hqk:q< k
     ·have f1:wr.cell? ⟨g,q,none⟩=some (.int .i64 (gi L q)):=by rw [hbq.cell,eI _ _ (by rw [iU,Hth.out];exact hqk),tS _ _ _ (by rw [Hth.out];exact hqk)]
      have hqb:=(eZ.1 htb) q (by rw [Hth.out];exact hqk);have m2:=fun w=>qb w;have hbq2:∀w',Below wr.heap.size wr w'->w'.cell? ⟨g,q,none⟩=some (.int .i64 (gi L q))/\w'.frozen? ⟨g,q,none⟩=false:=fun w' hb=>⟨(hb.cell (p:=⟨g,q,none⟩) hbq.lt).trans f1,(hbq.bD hb).frozen q⟩;go_wp2_with (go_at_call 247;refine(An _ _).mono ?_;rintro e w2 ⟨rfl,hw2⟩;obtain⟨f2,f3⟩:=hbq2 w2 hw2)
      go_roundw
      case rel=>
       refine⟨q+1,by omega,by go_num,?_,?_⟩
       ·have hs:=(hbq.bD hw2).set q (.int .i64 (jW false (gi L q)));rw [gU,qR]at hs;exact hs
       ·exact(hbw.trans (hw2.mono hbw.size)).setCell (p:=⟨g,q,none⟩) (by have:=hbl.size;simp;omega) _
      case measure=>simp [intOf];omega
     ·obtain rfl:q=k:=by omega
      go_wp2
      go_ret
      refine⟨g,by have:=hbl.size;omega,rfl,?_,hbw⟩;have:=Hth.out;rw [<-this,qQ]at hbq;rw [HL.out];exact hbq
theorem OB:∃i,tL Tryz.prog 42 47 i (.agg #[.int .i64 0,.int .i64 0]) 2 16:=Lg Tryz.underlying42 kR rfl (by decide)
theorem N4.later{tf:Nat}{lb:Array Value}{thr:List Int->List Int}{n:Nat}{h:List Int}{w w':World}(ht:N4 tf lb thr n h w)(hb:Below w.heap.size w w'):N4 tf lb thr n h w':= fun A c W hW hi=>ht A c W (hb.trans (hW.mono hb.size)) hi
def lD(n:Nat)(li lo:List Int):List Pt:=(List.range n).map fun i=>(gi li i,gi lo i)
theorem yK(n:Nat)(li lo:List Int):lD (n+1) li lo=lD n li lo++[(gi li n,gi lo n)]:=by simp [lD,List.range_succ]
def sH(thr:List Int->List Int)(l:List Pt):List Pt:= lD l.length ((thr (l.map (oF true))).map (jW true)) ((thr (l.map (oF false))).map (jW false))
theorem yM(A:Option Addr)(n c:Nat)(l:List Pt)(tf:Nat)(lb:Array Value)(thr:List Int->List Int)(w:World) (hl:lY w A n l) (hn:n<=4096) (hlb:∀p∈l, -4194304<=p.1/\p.1<=4194304/\ -4194304<=p.2/\p.2<=4194304) (eg:∀args w,(callFunc tf args).run Tryz.prog w= .ok (.enter tf args) w) (ht:∀inn,N4 tf lb thr n (l.map (oF inn)) w) (hth:∀inn,(thr (l.map (oF inn))).length=n) (htb:∀inn,∀x∈thr (l.map (oF inn)), -1099511627776<=x/\x<=1099511627776) : Calls Tryz.prog 116 #[.slice A n c,.func (.func tf) #[] lb] w fun e w'=>∃v,e= .returned v/\w'.ownsRow w.heap.size 47 2 v n ((sH thr l).flatMap oh)/\Below w.heap.size w w':=by
 obtain⟨i0,hel⟩:=OB;have b1:=(cM.new w 42 #[.slice A n c]).alloc (.cells #[.func (.func tf) #[] lb] 164);have b2:=cM.new (w.alloc (.cells #[.slice A n c] 42)) 164 #[.func (.func tf) #[] lb];have hb:=(bC w (.cells #[.slice A n c] 42)).alloc (by simp) (.cells #[.func (.func tf) #[] lb] 164);have hs:((w.alloc (.cells #[.slice A n c] 42)).alloc (.cells #[.func (.func tf) #[] lb] 164)).heap.size=w.heap.size+1+1:=by simp
 simp only [World.size_alloc]at b2;have Heg:=Lib.hid eg;clear eg;go_enter Tryz.func116,Tryz.ntmps116
 go_wp2_with fail
 generalize (w.alloc (.cells #[.slice A n c] 42)).alloc (.cells #[.func (.func tf) #[] lb] 164)=w0 at*;refine(qT false _ (.inr ⟨rfl,rfl⟩) _ _ A n c l tf lb thr w0 (hl.bD hb) hn hlb b1 b2 Heg.out ((ht false).later hb) (hth false) (htb false)).mono ?_;rintro e w1 ⟨go,hgo,rfl,hbo,hb1⟩;have b1':=b1.bD hb1;have b2':=b2.bD hb1;have hb':Below w.heap.size w w1:=hb.trans (hb1.mono oM);go_wp2_with fail
 refine(qT true _ (.inl ⟨rfl,rfl⟩) _ _ A n c l tf lb thr w1 (hl.bD hb') hn hlb b1' b2' Heg.out ((ht true).later hb') (hth true) (htb true)).mono ?_;rintro e w2 ⟨gn,hgn,rfl,hbn,hb2⟩;have hbo2:=hbo.bD hb2;have hb'':Below w.heap.size w w2:=hb'.trans (hb2.mono hb'.size);generalize hLo:(thr (l.map (oF false))).map (jW false)=Lo at*;generalize hLi:(thr (l.map (oF true))).map (jW true)=Li at*;have HLo:=Lib.hid hLo;have HLi:=Lib.hid hLi;have hlo:Lo.length=n:=by rw [<-hLo];simp [hth]
 have hli:Li.length=n:=by rw [<-hLi];simp [hth]
 have Hlo:=Lib.hid hlo;have Hli:=Lib.hid hli;have Hht:=Lib.hid ht;have Hhth:=Lib.hid hth;have b1'':w2.cell? ⟨w.heap.size,0,none⟩=some (.slice A n c):=(b1'.bD hb2).cell 0;clear hLo hLi hlo hli ht hth;go_wp2
 have hg1:w.heap.size<=go:=by omega
 have hg2:w.heap.size<=gn:=by have:=hb1.size;omega
 go_loopw [8,21] (fun v kv wr=>∃k:Nat,k<=n/\kv= .int .i64 k/\wr.ownsRow w.heap.size 47 2 v k ((lD k Li Lo).flatMap oh)/\cM wr go 2 (bI Lo)/\cM wr gn 2 (bI Li)/\Below w.heap.size w wr) (fun v kv wr=>n- (intOf kv).toNat)
 case atStart=>exact⟨0,Nat.zero_le _,rfl,World.ownsRow_nil _ _ _ _,hbo2,hbn,hb''⟩
 case round=>
  obtain⟨k,hk,rfl,hown,hbo,hbn,hbl⟩:=hrel
  by_cases hlt:k< n
  ·have f1:wr.cell? ⟨go,k,none⟩=some (.int .i64 (gi Lo k)):=(hbo.cell k).trans (eI _ _ (by rw [Hlo.out];exact hlt));have f2:wr.cell? ⟨gn,k,none⟩=some (.int .i64 (gi Li k)):=(hbn.cell k).trans (eI _ _ (by rw [Hli.out];exact hlt));go_wp2
   have hown1:wr.drew.ownsRow w.heap.size 47 2 u8 k ((lD k Li Lo).flatMap oh):=hown;have hbo1:cM wr.drew go 2 (bI Lo):=hbo;have hbn1:cM wr.drew gn 2 (bI Li):=hbn;have hbl1:Below w.heap.size w wr.drew:=hbl.drew;go_region_law (refine EB hel rfl _ _ rfl rfl (hown1.alloc _) rfl (cM.new wr.drew 47 _) rfl (by intro u hu;simp at hu;rcases hu with rfl |rfl <;> rfl) oM (by decide) (Nat.le_trans hbl1.size (by simp)) ?_;intro v' w2 hown2 hg2)
   all_goals
    go_wp2
    go_roundw
    case rel=>
     refine⟨k+1,by omega,by go_num,?_,?_,?_,?_⟩
     ·rw [yK,List.flatMap_append];exact hown2
     ·exact(hbo1.alloc _).grown hg2 (fun e=>HA hown1 hbo1 (by decide) _ e.symm rfl)
     ·exact(hbn1.alloc _).grown hg2 (fun e=>HA hown1 hbn1 (by decide) _ e.symm rfl)
     ·exact(hbl1.alloc hbl1.size _).grown hg2 (Nat.le_trans hbl1.size (by simp)) (fun g e=>by have:=hown1.lt g e;omega)
    case measure=>simp [intOf];omega
  ·obtain rfl:k=n:=by omega
   go_wp2
   go_ret
   refine⟨_,rfl,?_,hbl⟩;have e:sH thr l=lD k Li Lo:=by rw [sH,HLo.out,HLi.out,hl.1]
   rw [e];exact hown
def lT(x lo hi:Int):Bool:=decide (lo<=x) && decide (x<=hi)
def jY(p:Pt):Bool:=lT p.1 (-4194304) 4194304 && lT p.2 (-4194304) 4194304
theorem DM(p:Pt):jY p=true<-> -4194304<=p.1/\p.1<=4194304/\ -4194304<=p.2/\p.2<=4194304:=by simp [jY,lT];omega
def dV(l:List Pt):Int:=if 4096< l.length then 6 else if l.all jY then 0 else 2
theorem w9{l:List Pt}(h:dV l=0):l.length<=4096/\∀p∈l, -4194304<=p.1/\p.1<=4194304/\ -4194304<=p.2/\p.2<=4194304:=by
 unfold dV at h;split at h;·omega
 ·split at h;·rename_i h2;exact⟨by omega,fun p hp=>(DM p).1 (List.all_eq_true.1 h2 p hp)⟩
  ·omega
theorem sZ(x lo hi:Int)(w:World):Calls Tryz.prog 108 #[.int .i64 x,.int .i64 lo,.int .i64 hi] w fun e w'=>e= .returned (.bool (lT x lo hi))/\w=w':=by
 go_enter Tryz.func108,Tryz.ntmps108
 go_wp2
 all_goals
  go_ret
  refine⟨?_,rfl⟩
  simp [lT, *]
 omega
theorem xo(a b:Int)(w:World):Calls Tryz.prog 127 #[.agg #[.int .i64 a,.int .i64 b]] w fun e w'=>e= .returned (.bool (jY (a,b)))/\Below w.heap.size w w':=by
 have hb:=bC w (.cells #[.int .i64 a,.int .i64 b] 47);cases h:lT a (-4194304) 4194304;all_goals
  go_enter Tryz.func127,Tryz.ntmps127
  go_wp2_with ((with_reducible refine(sZ _ _ _ _).mono ?_);rintro e w' ⟨rfl,rfl⟩)
  go_ret
  exact⟨by simp [jY,h],hb⟩
theorem sY{l:List Pt}{k:Nat}(h:k< l.length):(l.take (k+1)).all jY=((l.take k).all jY && jY (gp l k)):=by rw [vS h,List.all_append];simp
theorem u9{l:List Pt}{k:Nat}(h4:¬4096< l.length)(hk:k< l.length)(h:jY (gp l k)=false):dV l=2:=by unfold dV;rw [if_neg h4,if_neg];intro ha;have:=List.all_eq_true.1 ha (gp l k) (Gr hk);rw [h]at this;cases this
theorem s6{l:List Pt}(h4:¬4096< l.length)(h:l.all jY=true):dV l=0:=by unfold dV;rw [if_neg h4,if_pos h]
theorem qX(A:Option Addr)(n c:Nat)(l:List Pt)(w:World)(hl:lY w A n l)(hn:n<=4611686018427387904) : Calls Tryz.prog 76 #[.slice A n c] w fun e w'=>e= .returned (.int .i64 (dV l))/\Below w.heap.size w w':=by
 have hl1:=hl.1;by_cases h4:4096< n
 ·go_enter Tryz.func76,Tryz.ntmps76
  go_wp2
  go_ret
  exact⟨ga (by rw [dV,if_pos oM]),Below.refl _ _⟩
 ·have Hl:=Lib.hid hl1;clear hl1;go_enter Tryz.func76,Tryz.ntmps76
  go_wp2
  go_loopw [10] (fun i wr=>∃k:Nat,k<=n/\i= .int .i64 k/\(l.take k).all jY=true/\Below w.heap.size w wr) (fun i _=>n- (intOf i).toNat)
  case atStart=>exact⟨0,Nat.zero_le _,rfl,rfl,Below.refl _ _⟩
  case round=>
   obtain⟨k,hk,rfl,hall,hbl⟩:=hrel
   have Hall:=Lib.hid hall
   clear hall
   by_cases hlt:k< n
   ·obtain⟨b,o,rfl,hb,hc1,hc2⟩:=Au (hl.bD hbl) hlt;have hx:=hbl.trans ((bC wr (.cells #[.int .i64 (gp l k).1,.int .i64 (gp l k).2] 47)).mono hbl.size);cases he:jY ((gp l k).1,(gp l k).2);all_goals
     have He:=Lib.hid he
     clear he
     go_wp2_with ((with_reducible refine(xo _ _ _).mono ?_);rintro e w' ⟨rfl,hw'⟩;rw [He.out])
    ·go_ret
     exact⟨ga (by rw [u9 (by rw [Hl.out];exact h4) (by rw [Hl.out];exact hlt) He.out]),hx.trans (hw'.mono hx.size)⟩
    ·go_roundw
     case rel=>exact⟨k+1,by omega,by go_num,by rw [sY (by rw [Hl.out];exact hlt),Hall.out];exact He.out,hx.trans (hw'.mono hx.size)⟩
     case measure=>simp [intOf];omega
   ·obtain rfl:k=n:=by omega
    go_wp2
    go_ret
    have h:=Hall.out;rw [List.take_of_length_le (by rw [Hl.out];exact Nat.le_refl _)]at h;exact⟨ga (by rw [s6 (by rw [Hl.out];exact h4) h]),hbl⟩
def eY(t:List Int)(k:Nat):Bool:=if k=0 then gi t 0 !=0 else decide (gi t k< gi t (k- 1)) || decide (4194304< gi t k)
def cg(t:List Int):Int:=if t.length=0\/64< t.length then 6 else if(List.range t.length).any (eY t)then 2 else 0
theorem l6{t:List Int}(h:t.length=0\/64< t.length):cg t=6:=by rw [cg,if_pos h]
theorem vb{t:List Int}{k:Nat}(h:¬(t.length=0\/64< t.length))(hk:k< t.length)(hb:eY t k=true):cg t=2:=by rw [cg,if_neg h,if_pos];rw [List.any_eq_true];exact⟨k,List.mem_range.2 hk,hb⟩
theorem s7{t:List Int}(h:¬(t.length=0\/64< t.length))(hb:∀k,k< t.length->eY t k=false):cg t=0:=by rw [cg,if_neg h,if_neg];rw [List.any_eq_true];rintro⟨k,hk,e⟩;rw [hb k (List.mem_range.1 hk)]at e;cases e
theorem xb{t:List Int}(h:cg t=0):0< t.length/\t.length<=64/\gi t 0=0/\(∀k,k+1< t.length->gi t k<=gi t (k+1))/\∀x∈t,0<=x/\x<=4194304:=by
 unfold cg at h;split at h;·omega
 ·split at h;·omega
  ·rename_i h1 h2;have hb:∀k,k< t.length->eY t k=false:=fun k hk=>by
    cases e:eY t k with
    |false=>rfl
    |true=>exact absurd (List.any_eq_true.2 ⟨k,List.mem_range.2 hk,e⟩) h2
   have h0:gi t 0=0:=by have:=hb 0 oM;simpa [eY]using this
   have hs:∀k,k+1< t.length->gi t k<=gi t (k+1)/\gi t (k+1)<=4194304:=fun k hk=>by have:=hb (k+1) hk;simp [eY]at this;omega
   refine⟨by omega,by omega,h0,fun k hk=>(hs k hk).1,?_⟩;rw [eZ (p:=fun x=>0<=x/\x<=4194304)];intro k;induction k with
   |zero=>intro _;rw [h0];omega
   |succ k ih=>intro hk;have:=ih oM;have:=hs k hk;omega
theorem qZ(A:Option Addr)(n c:Nat)(t:List Int)(w:World)(hl:eT w A n t)(hn:n<=4611686018427387904) :
    Calls Tryz.prog 115 #[.agg #[.slice A n c]] w fun e w'=>e= .returned (.int .i64 (cg t))/\Below w.heap.size w w':=by
  have hb0:=bC w (.cells #[.slice A n c] 59)
  have hbx:=cM.new w 59 #[.slice A n c]
  have Hl:=Lib.hid hl.1
  by_cases h0:n=0
  · subst h0
    have d0:((0:Int) == 0)=true:=rfl
    go_enter Tryz.func115,Tryz.ntmps115
    go_wp2
    all_goals go_ret
    all_goals exact⟨ga (by rw [l6 (by rw [Hl.out];omega)]),hb0⟩
  · have d0:((n:Int) == 0)=false:=beq_eq_false_iff_ne.2 oM
    by_cases h64:64< n
    · have d1:decide ((64:Int)< (n:Int))=true:=by simp;omega
      go_enter Tryz.func115,Tryz.ntmps115
      go_wp2
      all_goals go_ret
      all_goals exact⟨ga (by rw [l6 (by rw [Hl.out];omega)]),hb0⟩
    · have d1:decide ((64:Int)< (n:Int))=false:=by simp;omega
      go_enter Tryz.func115,Tryz.ntmps115
      go_wp2
      generalize w.alloc (.cells #[.slice A n c] 59)=w0 at*
      have hl0:=hl.bD hb0
      go_loop [3,19] (fun last i=>∃k:Nat,k<=n/\i= .int .i64 k/\last= .int .i64 (if k=0 then 0 else gi t (k- 1))/\∀j,j< k->eY t j=false) (fun _ i=>n- (intOf i).toNat)
      case atStart=>exact⟨0,Nat.zero_le _,rfl,rfl,fun j hj=>absurd hj oM⟩
      case round=>
        obtain⟨k,hk,rfl,rfl,hall⟩:=hrel
        have Hall:=Lib.hid hall
        clear hall
        by_cases hlt:k< n
        · obtain⟨b,o,rfl,hb,hc1⟩:=ints_at hl0 hlt
          have key:(eY t k=true->cg t=2):=fun h=>vb (by rw [Hl.out];omega) (by rw [Hl.out];exact hlt) h
          have Key:=Lib.hid key
          clear key
          have next:eY t k=false->∀j,j< k+1->eY t j=false:=fun h j hj=>by
            by_cases e:j=k
            · subst e;exact h
            · exact Hall.out j oM
          have Next:=Lib.hid next
          clear next
          by_cases hk0:k=0
          · subst hk0
            rw [Nat.add_zero]at hc1
            simp only [if_true]
            go_wp2
            all_goals first
              | (go_ret;exact⟨ga (by rw [Key.out (by simp [eY];simp at *;omega)]),hb0⟩)
              | (go_round
                 case rel=>exact⟨1,by omega,by go_num,by simp,Next.out (by simp [eY];simp at *;omega)⟩
                 case measure=>simp [intOf];omega)
          · have dk:((k:Int) == 0)=false:=beq_eq_false_iff_ne.2 oM
            simp only [hk0,if_false]
            go_wp2
            all_goals first
              | (go_ret;exact⟨ga (by rw [Key.out (by simp [eY,hk0];simp at *;omega)]),hb0⟩)
              | (go_round
                 case rel=>exact⟨k+1,by omega,by go_num,by simp,Next.out (by simp [eY,hk0];simp at *;omega)⟩
                 case measure=>simp [intOf];omega)
        · obtain rfl:k=n:=by omega
          go_wp2
          go_ret
          exact⟨ga (by rw [s7 (by rw [Hl.out];omega) (by rw [Hl.out];exact Hall.out)]),hb0⟩
def cm(t:List Int)(l:List Pt):Int:=if cg t=0 then dV l else cg t
theorem o8(A:Option Addr)(n c:Nat)(t:List Int)(B:Option Addr)(m d:Nat)(l:List Pt)(w:World)(ht:eT w A n t)(hn:n<=4611686018427387904)(hl:lY w B m l)(hm:m<=4611686018427387904) : Calls Tryz.prog 69 #[.agg #[.slice A n c],.slice B m d] w fun e w'=>e= .returned (.int .i64 (cm t l))/\Below w.heap.size w w':=by
 have hb0:=bC w (.cells #[.slice A n c] 59);go_enter Tryz.func69,Tryz.ntmps69
 go_wp2_with fail
 generalize w.alloc (.cells #[.slice A n c] 59)=w0 at*;refine(qZ A n c t w0 (ht.bD hb0) hn).mono ?_;rintro e w1 ⟨rfl,hw1⟩;have hb1:=hb0.trans (hw1.mono hb0.size);by_cases h0:cg t=0
 ·have e0:cm t l=dV l:=by simp [cm,h0]
  have E0:=Lib.hid e0;clear e0;rw [h0];go_wp2_with fail
  refine(qX B m d l w1 (hl.bD hb1) hm).mono ?_;rintro e w2 ⟨rfl,hw2⟩;go_wp2
  go_ret
  exact⟨ga (by rw [E0.out]),hb1.trans (hw2.mono hb1.size)⟩
 ·have e0:cm t l=cg t:=by simp [cm,h0]
  have E0:=Lib.hid e0;clear e0;have d0:(cg t !=0)=true:=by simpa using h0
  go_wp2
  go_ret
  exact⟨ga (by rw [E0.out]),hb1⟩
theorem pF(down:Bool)(lo hi:Int):∀(vs:List Int) (f:Int),lo<=f->f<=hi->(∀v∈vs,if down then v<=hi else lo<=v)->lo<=l9 down f vs/\l9 down f vs<=hi
 | [],f,h1,h2,_=>⟨h1,h2⟩
 |v::vs,f,h1,h2,h3=>by
  have hv:=h3 v (by simp);refine pF down lo hi vs (jm down v f) ?_ ?_ (fun x hx=>h3 x (by simp [hx]));·cases down <;> simp [jm]at hv ⊢ <;> omega
  ·cases down <;> simp [jm]at hv ⊢ <;> omega
theorem J8{i n r k:Nat}(hk:k< gz i n r):aM i r+k< n/\gv (aM i r+k) i< r:=by unfold gz aM gv at *;omega
theorem vV(t h:List Int)(down:Bool)(i:Nat)(lo hi:Int)(hi':i< h.length)(hh:∀x∈h,lo<=x/\x<=hi)(ht:∀x∈t,0<=x):lo<=jS t h down i/\jS t h down i<=hi:=by have h0:=(eZ.1 hh) i hi';refine pF down lo hi _ _ h0.1 h0.2 ?_;intro v hv;simp only [List.mem_map,List.mem_range]at hv;obtain⟨k,hk,rfl⟩:=hv;obtain⟨k1,k2⟩:=J8 hk;have h1:=(eZ.1 hh) _ k1;have h2:=(eZ (p:=fun x=>0<=x) |>.1 ht) _ k2;cases down <;> simp <;> omega
theorem yH(t h:List Int)(down:Bool)(lo hi:Int)(hh:∀x∈h,lo<=x/\x<=hi)(ht:∀x∈t,0<=x):∀x∈pT t h down,lo<=x/\x<=hi:=by intro x hx;simp only [pT,List.mem_map,List.mem_range]at hx;obtain⟨i,hi',rfl⟩:=hx;exact vV t h down i lo hi hi' hh ht
theorem uo{l:List Pt}(hl:∀p∈l, -4194304<=p.1/\p.1<=4194304/\ -4194304<=p.2/\p.2<=4194304)(inn:Bool):∀x∈l.map (oF inn), -4194304<=x/\x<=4194304:=by intro x hx;obtain⟨p,hp,rfl⟩:=List.mem_map.1 hx;have:=hl p hp;cases inn <;> simp [oF] <;> omega
def Cq(t h:List Int):List Int:=pT t h false
def uv(t:List Int)(l:List Pt):List Pt:=sH (Cq t) l
theorem Ik(g:Nat)(At:Option Addr)(r ct n:Nat)(t h:List Int)(w:World)(hb:cM w g 59 #[.slice At r ct])(ht:eT w At r t)(hn:n<=65536)(hr:r<=65536) (hhb:∀x∈h, -4194304<=x/\x<=4194304) (htb:∀x∈t,0<=x/\x<=4194304):N4 117 #[.pointer (some ⟨g,0,none⟩)] (Cq t) n h w:=by
 intro A c W hW hh;have d1:W.cell? ⟨g,0,none⟩=some (.slice At r ct):=(hb.bD hW).cell 0;show Calls Tryz.prog 117 #[.slice A n c,.pointer (some ⟨g,0,none⟩)] W _;go_enter Tryz.func117,Tryz.ntmps117
 go_wp2_with fail
 refine(A6 At A r ct n c t h false W hn hr (ht.bD hW) hh (fun x hx=>by have:=hhb x hx;omega) (fun x hx=>by have:=htb x hx;omega)).mono ?_;rintro e w' ⟨g',hg,rfl,hbg,hbw⟩;go_wp2
 go_ret
 exact⟨g',hg,rfl,hbg,hbw⟩
def jT(t:List Int)(l:List Pt):List Pt:=if cm t l=0 then uv t l else []
theorem u7{t:List Int}{l:List Pt}(h:cm t l=0):cg t=0/\dV l=0:=by
 unfold cm at h;by_cases h0:cg t=0;·rw [if_pos h0]at h;exact⟨h0,h⟩
 ·rw [if_neg h0]at h;exact absurd h h0
theorem Aw(A:Option Addr)(r c:Nat)(t:List Int)(B:Option Addr)(n d:Nat)(l:List Pt)(w:World)(ht:eT w A r t)(hl:lY w B n l)(h0:cm t l=0) : Calls Tryz.prog 70 #[.agg #[.slice A r c],.slice B n d] w fun e w'=>∃v,e= .returned v/\w'.ownsRow w.heap.size 47 2 v (uv t l).length ((uv t l).flatMap oh)/\Below w.heap.size w w':=by
 obtain⟨k1,k2⟩:=u7 h0;obtain⟨m1,m2,_,_,m3⟩:=xb k1;obtain⟨m4,m5⟩:=w9 k2;have hb0:=bC w (.cells #[.slice A r c] 59);have hbx:=cM.new w 59 #[.slice A r c];have q1:=hl.1;have q2:=ht.1;have e1:(uv t l).length=n:=by simp [uv,sH,lD,q1]
 have Q1:=Lib.hid q1;have Q2:=Lib.hid q2;have E1:=Lib.hid e1;clear h0 k1 k2 e1;go_enter Tryz.func70,Tryz.ntmps70
 go_wp2_with fail
 generalize w.alloc (.cells #[.slice A r c] 59)=w0 at*;refine(yM B n d l 117 _ (Cq t) w0 (hl.bD hb0) oM m5 (fun args w=>enters_of Tryz.func117 kR rfl args w)
  (fun inn=>Ik _ A r c n t _ w0 hbx (ht.bD hb0) oM oM (uo m5 inn) m3) (fun inn=>by simp [Cq,pT,Q1.out])
  (fun inn x hx=>by have:=yH t _ false _ _ (uo m5 inn) (fun y hy=>(m3 y hy).1) x hx;omega)).mono ?_
 rintro e w1 ⟨v,rfl,hown,hb1⟩;go_wp2
 go_ret
 exact⟨v,rfl,by rw [E1.out];exact⟨hown.1,by
  rcases hown.2 with h | ⟨g,cap,cur,hv,hg,rest⟩;·exact .inl h
  ·exact .inr ⟨g,cap,cur,hv,by have:=hb0.size;omega,rest⟩⟩,hb0.trans (hb1.mono hb0.size)⟩
theorem zc(A:Option Addr)(r c:Nat)(t:List Int)(B:Option Addr)(n d:Nat)(l:List Pt)(w:World)(ht:eT w A r t)(hl:lY w B n l)(hr:r<=4611686018427387904)(hn:n<=4611686018427387904) : Calls Tryz.prog 22 #[.agg #[.slice A r c],.slice B n d] w fun e w'=>∃v,e= .returned (.tuple #[v,.int .i64 (cm t l)])/\w'.ownsRow w.heap.size 47 2 v (jT t l).length ((jT t l).flatMap oh)/\Below w.heap.size w w':=by
 have hb0:=bC w (.cells #[.slice A r c] 59);have hbx:=cM.new w 59 #[.slice A r c];by_cases h0:cm t l=0
 ·have e1:jT t l=uv t l:=by simp [jT,h0]
  have E1:=Lib.hid e1;have H0:=Lib.hid h0;clear e1 h0;go_enter Tryz.func22,Tryz.ntmps22
  go_wp2_with fail
  generalize w.alloc (.cells #[.slice A r c] 59)=w0 at*;refine(o8 A r c t B n d l w0 (ht.bD hb0) hr (hl.bD hb0) hn).mono ?_;rintro e w1 ⟨rfl,hw1⟩;have hb1:=hb0.trans (hw1.mono hb0.size);have d1:w1.cell? ⟨w.heap.size,0,none⟩=some (.slice A r c):=(hbx.bD hw1).cell 0;rw [H0.out];go_wp2_with fail
  refine(Aw A r c t B n d l w1 (ht.bD hb1) (hl.bD hb1) H0.out).mono ?_;rintro e w2 ⟨v,rfl,hown,hw2⟩;go_wp2
  go_ret2
  refine⟨v,by rw [H0.out];rfl,?_,hb1.trans (hw2.mono hb1.size)⟩;rw [E1.out];refine⟨hown.1,?_⟩;rcases hown.2 with h | ⟨g,cap,cur,hv,hg,rest⟩;·exact .inl h
  ·exact .inr ⟨g,cap,cur,hv,by have:=hb1.size;omega,rest⟩
 ·have d0:(cm t l !=0)=true:=by simpa using h0
  have e1:jT t l=[]:=by simp [jT,h0]
  have E1:=Lib.hid e1;clear e1;go_enter Tryz.func22,Tryz.ntmps22
  go_wp2_with fail
  generalize w.alloc (.cells #[.slice A r c] 59)=w0 at*;refine(o8 A r c t B n d l w0 (ht.bD hb0) hr (hl.bD hb0) hn).mono ?_;rintro e w1 ⟨rfl,hw1⟩;go_wp2
  go_ret2
  exact⟨_,rfl,by rw [E1.out];exact World.ownsRow_nil _ _ _ _,hb0.trans (hw1.mono hb0.size)⟩
end Go.Proofs.YtjmbpjlojjgggaaGreatDoor
