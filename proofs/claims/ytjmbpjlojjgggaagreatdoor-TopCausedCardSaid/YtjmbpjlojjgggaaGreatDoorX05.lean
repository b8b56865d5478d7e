/-
  Several texts in one: The iterators and the fold by which package play reads a wall: near, the closure of walk, fold. Conditions: lengths of at most 65536, heights and elements of at most 16777216. .. Bends, the least and the greatest of numbers, the best arm; whether two grooves are equal. No condition but the sizes of slices.
-/
import Derived.Test.YtjmbpjlojjgggaaGreatDoorProg
import Derived.Deep.RegionWith
import Derived.Deep.DeepMust
import Derived.Deep.RegionLaw
import Derived.Deep.RegionHeld3
import Derived.Deep.DeepCutAuto
import Derived.Test.YtjmbpjlojjgggaaGreatDoorX04
set_option maxRecDepth 100000
set_option maxHeartbeats 2000000
namespace Go.Proofs.YtjmbpjlojjgggaaGreatDoor
open Go.RowKit Go.Dw Go.Shelf
attribute [local go_sem] Oper.semAt_some
def fT(u i:Nat):Nat:=max (u- i) (i- u)
def aM(i r:Nat):Nat:=i+1- r
def fW(i n r:Nat):Nat:=min n (i+r)- aM i r
def xG(i r k:Nat):Array Value:= #[.int .i64 ((aM i r:Int)+(k:Int)),.int .i64 (fT (aM i r+k) i:Nat)]
def iT(i n r:Nat):List (Array Value):=(List.range (fW i n r)).map (xG i r)
theorem Dv(bi br bn i n r:Nat)(hi:i<=65536)(hn:n<=65536)(hr:r<=65536)(w:World)(R:Nat->Prop)
  (h1:cK w bi 3 #[.int .i64 i]) (h2:cK w br 3 #[.int .i64 r]) (h3:cK w bn 3 #[.int .i64 n]) (r1:¬R bi) (r2:¬R br) (r3:¬R bn) :
  Iter Tryz.prog 182 #[.pointer (some ⟨bi,0,none⟩),.pointer (some ⟨br,0,none⟩),.pointer (some ⟨bn,0,none⟩)] (iT i n r) R w:=by
 intro l J Jx W hT hl hlW hJ hJx hY h0
 have hb:∀wr,aW (fun k=>R k\/k=l) W wr->wr.cell? ⟨bi,0,none⟩=some (.int .i64 i)/\wr.cell? ⟨br,0,none⟩=some (.int .i64 r)/\wr.cell? ⟨bn,0,none⟩=some (.int .i64 n):=fun wr ht=>
  ⟨(ht.box (hT.box h1 r1) (by rintro(e |e);exact r1 e;have:=h1.lt;omega)).cell 0,(ht.box (hT.box h2 r2) (by rintro(e |e);exact r2 e;have:=h2.lt;omega)).cell 0,
   (ht.box (hT.box h3 r3) (by rintro(e |e);exact r3 e;have:=h3.lt;omega)).cell 0⟩
 obtain⟨c1,c2,c3⟩:=hb W (aW.refl _ _)
 have e1:max (0:Int) ((i:Int)- (r:Int)+1)=((aM i r:Nat):Int):=by unfold aM;omega
 refine callsIn_of_wp Tryz.func182 rfl trivial ?_ rfl
 simp only [Tryz.ntmps182,List.size_toArray,List.length_cons,List.length_nil,Nat.reduceAdd,Nat.reduceSub,Array.replicate_succ,Array.replicate_zero,List.push_toArray,List.append_toArray,List.nil_append,List.cons_append]
 gi_wp2
 gi_loopw [5] (fun u wr=>∃k:Nat,k<=fW i n r/\u= .int .i64 ((aM i r:Int)+(k:Int))/\J k wr/\aW (fun k=>R k\/k=l) W wr) (fun u wr=>n- (intOf u).toNat)
 case atStart=>exact⟨0,Nat.zero_le _,rfl,h0,aW.refl _ _⟩
 case round=>
  obtain⟨k,hk,rfl,hJk,hTk⟩:=hrel
  obtain⟨d1,d2,d3⟩:=hb wr hTk
  have e2:min (n:Int) ((i:Int)+(r:Int))=((min n (i+r):Nat):Int):=by omega
  by_cases hlt:k< fW i n r
  ·
   obtain⟨fn,tmps,assign,body,hy,hR⟩:=hY k (xG i r k) wr (by simp [iT,hlt]) hTk.size hJk
   have e3:max ((aM i r:Int)+(k:Int)- (i:Int)) ((i:Int)- ((aM i r:Int)+(k:Int)))=((fT (aM i r+k) i:Nat):Int):=by unfold fT;omega
   have hlt':aM i r+k< min n (i+r):=by unfold fW at hlt;omega
   unfold xG at hy
   gi_wp2
   refine hR.mono ?_
   rintro e W2 ⟨bb,rfl,hT2,hJ2,hJ3⟩
   cases bb
   rotate_left
   ·
    gi_wp2
    go_roundw
    case rel=>exact⟨k+1,by omega,by go_num,hJ2 (by simp),hTk.trans hT2⟩
    case measure=>simp [intOf];omega
   ·
    gi_wp2
    refine bodyPost_ret (results_none rfl _ _ _) rfl ?_
    exact⟨⟨_,rfl⟩,.inr ⟨k,by simpa [iT]using hlt,hJ3 (by simp)⟩⟩
  ·
   have hge:min n (i+r)<=aM i r+k:=by unfold fW at hlt;omega
   have hk2:k=fW i n r:=by omega
   subst hk2
   gi_wp2
   go_end0
   exact⟨⟨_,rfl⟩,.inl (by simpa [iT]using hJk)⟩
theorem zO(i n r:Int)(w:World):Calls Tryz.prog 159 #[.int .i64 i,.int .i64 n,.int .i64 r] w fun e w'=> e= .returned (.func (.func 182) #[] #[.pointer (some ⟨w.heap.size,0,none⟩),.pointer (some ⟨w.heap.size+2,0,none⟩),.pointer (some ⟨w.heap.size+1,0,none⟩)])/\ cK w' w.heap.size 3 #[.int .i64 i]/\cK w' (w.heap.size+2) 3 #[.int .i64 r]/\cK w' (w.heap.size+1) 3 #[.int .i64 n]/\Below w.heap.size w w'/\w'.heap.size=w.heap.size+3:=by
 go_enter Tryz.func159,Tryz.ntmps159
 go_wp2
 go_ret
 have b1:=cK.new w 3 #[.int .i64 i];have b2:=cK.new (w.alloc (.cells #[.int .i64 i] 3)) 3 #[.int .i64 n];have b3:=cK.new ((w.alloc (.cells #[.int .i64 i] 3)).alloc (.cells #[.int .i64 n] 3)) 3 #[.int .i64 r];simp only [World.size_alloc]at b2 b3;exact⟨rfl,(b1.alloc _).alloc _,b3,b2.alloc _,(((Below.refl _ _).alloc (Nat.le_refl _) _).alloc (by simp) _).alloc (by simp;omega) _,by simp⟩
def Jj(h t:List Int)(down:Bool)(i k:Nat):Array Value:= #[.int .i64 (gi h (aM i t.length+k)+(if down then- gi t (fT (aM i t.length+k) i)else gi t (fT (aM i t.length+k) i)))]
def o9(h t:List Int)(down:Bool)(i:Nat):List (Array Value):=(List.range (fW i h.length t.length)).map (Jj h t down i)
theorem nr(bi bh bt bd i:Nat)(Ah At:Option Addr)(n ch r ct:Nat)(h t:List Int)(down:Bool)(w:World)(R:Nat->Prop)
  (hi:i< n) (hn:n<=65536) (hr:r<=65536)
  (h1:cK w bi 3 #[.int .i64 i]) (h2:cK w bh 41 #[.slice Ah n ch]) (h3:cK w bt 59 #[.slice At r ct]) (h4:cK w bd 4 #[.bool down])
  (hh:eL w Ah n h) (ht:eL w At r t) (hhb:∀x∈h, -16777216<=x/\x<=16777216) (htb:∀x∈t,0<=x/\x<=16777216)
  (r1:¬R bi) (r2:¬R bh) (r3:¬R bt) (r4:¬R bd) (r5:∀b,Ah.map (·.block)=some b->¬R b) (r6:0< r->∀b,At.map (·.block)=some b->¬R b) (hR:∀k,R k->k< w.heap.size) :
  Iter Tryz.prog 158 #[.pointer (some ⟨bi,0,none⟩),.pointer (some ⟨bh,0,none⟩),.pointer (some ⟨bt,0,none⟩),.pointer (some ⟨bd,0,none⟩)] (o9 h t down i) R w:=by
 intro l J Jx W hT hl hlW hJ hJx hY h0
 have nl:∀b,b< w.heap.size->b≠l:=fun b hb=>by omega
 have tb:∀ {wr:World}{b ty}{cs},aW (fun k=>R k\/k=l) W wr->cK w b ty cs->¬R b->cK wr b ty cs:=fun ht hb hr=>ht.box (hT.box hb hr) (by rintro(e |e);exact hr e;exact nl _ hb.lt e)
 have c1:W.cell? ⟨bi,0,none⟩=some (.int .i64 i):=(hT.box h1 r1).cell 0
 have c2:W.cell? ⟨bh,0,none⟩=some (.slice Ah n ch):=(hT.box h2 r2).cell 0
 have c3:W.cell? ⟨bt,0,none⟩=some (.slice At r ct):=(hT.box h3 r3).cell 0
 have hbW:=cK.new W 161 #[.func (.yield l) #[] #[]]
 have hb0:=bB W (.cells #[.func (.yield l) #[] #[]] 161)
 have d1:=(World.cell?_alloc_lt W (.cells #[.func (.yield l) #[] #[]] 161) ⟨bi,0,none⟩ (by have:=(hT.box h1 r1).lt;exact this)).trans c1
 have d2:=(World.cell?_alloc_lt W (.cells #[.func (.yield l) #[] #[]] 161) ⟨bh,0,none⟩ (by have:=(hT.box h2 r2).lt;exact this)).trans c2
 have d3:=(World.cell?_alloc_lt W (.cells #[.func (.yield l) #[] #[]] 161) ⟨bt,0,none⟩ (by have:=(hT.box h3 r3).lt;exact this)).trans c3
 refine callsIn_of_wp_marks Tryz.func158 rfl trivial ?_ rfl
 simp only [Tryz.ntmps158,List.size_toArray,List.length_cons,List.length_nil,Nat.reduceAdd,Nat.reduceSub,Array.replicate_succ,Array.replicate_zero,List.push_toArray,List.append_toArray,List.nil_append,List.cons_append]
 gi_wp2_with (gi_at_call 159;refine(callsIn_wide.2 (zO _ _ _ _)).mono ?_;rintro e w' ⟨rfl,e1,e2,e3,e4,e5⟩)
 have hT':aW (fun k=>R k\/k=l) W w':=aW.iV (qG hb0 e4 (by simp))
 have hBW:cK w' W.heap.size 161 #[.func (.yield l) #[] #[]]:=hbW.bC e4
 rw [World.size_alloc]at*
 refine yt (gf:=182) rfl (enters_of Tryz.func182 kR rfl)
  (Dv _ _ _ i n r oM oM oM w' (fun k=>R k\/k=l) e1 e2 e3
   (by rintro(e |e);have:=hR _ e;have:=hT.size;omega;omega) (by rintro(e |e);have:=hR _ e;have:=hT.size;omega;omega) (by rintro(e |e);have:=hR _ e;have:=hT.size;omega;omega))
  (by rintro k (e |e);have:=hR _ e;have:=hT.size;omega;omega) (by intro x hx;simp [iT]at hx;obtain⟨k,_,rfl⟩:=hx;rfl)
  (fun k W'=>J k W'/\aW (fun k=>R k\/k=l) W W'/\cK W' W.heap.size 161 #[.func (.yield l) #[] #[]]) (fun k c W'=>c= .ret/\Jx k W')
  (fun k W1 W2 h hb=>⟨hJ k W1 W2 h.1 (hb.mono oM),h.2.1.later hb oM,h.2.2.below hb oM⟩)
  (fun k c W1 W2 h hb=>⟨h.1,hJx k W1 W2 h.2 (hb.mono oM)⟩) ⟨hJ 0 W w' h0 (qG hb0 (by rw [World.size_alloc];exact e4) (by simp)),hT',hBW⟩ ?hround ?hdone ?hstop
 case hround=>
  rintro l2 k x W2 hl2 hl2' hx ⟨hJ2,hT2,hB2⟩
  obtain⟨hk,rfl⟩:k< fW i n r/\xG i r k=x:=by
   unfold iT at hx
   rw [List.getElem?_map]at hx
   by_cases hk:k< fW i n r
   ·
    rw [List.getElem?_range hk]at hx;exact⟨hk,by simpa using hx⟩
   ·
    rw [List.getElem?_eq_none (by simpa using hk)]at hx;cases hx
  unfold xG
  gi_wp2
  refine⟨aW.refl _ _,fun W3 hT3=> ?_⟩
  have hb3:Below w'.heap.size W2 W3:=hT3.below (by have:=hT2.size;omega) (fun q hq=>by omega)
  have hT3':aW (fun q=>R q\/q=l) W W3:=hT2.later hb3 oM
  have hB3:=hB2.below hb3 oM
  have hJ3:=hJ k W2 W3.drew hJ2 (hb3.mono oM).drew
  have nl':∀ {A:Option Addr}{b},A.map (·.block)=some b->(∃b o,A=some (⟨b,o,none⟩:Addr)/\b< w.heap.size)->b≠l:=by
   rintro A b hA ⟨b',o,rfl,hb⟩;simp at hA;omega
  have hdk:fT (aM i r+k) i< r:=by unfold fT aM fW aM at *;omega
  have hlk:aM i r+k< n:=by unfold fW aM at *;omega
  obtain⟨bH,oH,rfl,hbH,hcH⟩:=ints_at hh hlk
  obtain⟨bT,oT,rfl,hbT,hcT⟩:=ints_at ht hdk
  have f1:W3.cell? ⟨bh,0,none⟩=some (.slice (some ⟨bH,oH,none⟩) n ch):=(tb hT3' h2 r2).cell 0
  have f2:W3.cell? ⟨bt,0,none⟩=some (.slice (some ⟨bT,oT,none⟩) r ct):=(tb hT3' h3 r3).cell 0
  have f3:W3.cell? ⟨bd,0,none⟩=some (.bool down):=(tb hT3' h4 r4).cell 0
  have f4:W3.cell? ⟨W.heap.size,0,none⟩=some (.func (.yield l) #[] #[]):=hB3.cell 0
  have f5:W3.cell? ⟨bH,oH+(aM i r+k),none⟩=some (.int .i64 (gi h (aM i r+k))):=
   ((hT3'.cell (p:=⟨bH,oH+(aM i r+k),none⟩) (by have:=hT.size;exact Nat.lt_of_lt_of_le hbH this) (by rintro(e |e);exact r5 _ rfl e;exact nl _ hbH e)).trans (hT.cell (p:=⟨bH,oH+(aM i r+k),none⟩) hbH (r5 _ rfl))).trans hcH
  have f6:W3.cell? ⟨bT,oT+fT (aM i r+k) i,none⟩=some (.int .i64 (gi t (fT (aM i r+k) i))):=
   ((hT3'.cell (p:=⟨bT,oT+fT (aM i r+k) i,none⟩) (by have:=hT.size;exact Nat.lt_of_lt_of_le hbT this) (by rintro(e |e);exact r6 oM _ rfl e;exact nl _ hbT e)).trans (hT.cell (p:=⟨bT,oT+fT (aM i r+k) i,none⟩) hbT (r6 oM _ rfl))).trans hcT
  have hl1:=hh.1
  have hl2:=ht.1
  have g1:=(eS.1 hhb) (aM i r+k) oM
  have g2:=(eS.1 htb) (fT (aM i r+k) i) oM
  obtain⟨fn,tmps,assign,body,hy,hRd⟩:=hY k (Jj h t down i k) W3.drew (by subst hl2;subst hl1;simp [o9,hk]) hT3'.size hJ3
  unfold Jj at hy
  rw [hl2]at hy
  have hw1:IntKind.i64.wrap (gi h (aM i r+k)+gi t (fT (aM i r+k) i))=gi h (aM i r+k)+gi t (fT (aM i r+k) i):=IntWalk.i64_in _ oM
  have hw2:IntKind.i64.wrap (gi h (aM i r+k)+ -gi t (fT (aM i r+k) i))=gi h (aM i r+k)+ -gi t (fT (aM i r+k) i):=IntWalk.i64_in _ oM
  have x1:(0:Int)<=(aM i r:Int)+(k:Int):=by omega
  have x2:(aM i r:Int)+(k:Int)< (n:Int):=by omega
  have x3:((aM i r:Int)+(k:Int)).toNat=aM i r+k:=by omega
  have HL1:=Lib.hid hl1
  have HL2:=Lib.hid hl2
  clear hl1 hl2 hcH hcT c1 c2 c3 d1 d2 d3
  cases down
  all_goals
   simp only [Bool.false_eq_true,if_false,if_true]at hy
   gi_wp2
   refine j9 7 kR kR ?_
   simp only [List.take_succ_cons,List.take_zero,List.drop_succ_cons,List.drop_zero]
   repeat still_step
   refine wpStill_nil ?_
   gi_wp2
   refine(s8 l2 hRd).mono ?_
   rintro e W4 ⟨bb,rfl,hT4,hJ4,hJ5⟩
   have hT4':aW (fun k=>R k\/k=l) W3 W4:=⟨hT4.os,hT4.tape,hT4.output,hT4.size,hT4.block⟩
   cases bb
   ·
    gi_wp2
    exact⟨hT4',rfl,hJ5 (by simp)⟩
   ·
    gi_wp2
    exact⟨hT4',hJ4 (by simp),hT3'.trans hT4',hT4'.box hB3 (by rintro(e |e);have:=hR _ e;have:=hT.size;omega;omega)⟩
 case hdone=>
  rintro D W2 ⟨hJ2,hT2,hB2⟩ hD hDd
  gi_wp2
  refine n8 [D] (.inl rfl) rfl (by simp) (by simpa using hDd) (fun w=>results_none rfl _ _ _) (fun w4 ht4=>⟨⟨_,rfl⟩,.inl ?_⟩)
  have e:(o9 h t down i).length=(iT i n r).length:=by simp [o9,iT,hh.1,ht.1]
  rw [e]
  exact hJ _ _ _ hJ2 (ht4.below (by have:=hT2.size;omega) (fun q hq=>by simp;omega))
 case hstop=>
  rintro D k c W2 hk ⟨rfl,hJ2⟩ hD hDd
  gi_wp2
  have hDl:D< W2.heap.size:=(Array.getElem?_eq_some_iff.1 hDd).1
  refine n8 [D] (.inr rfl) rfl (by simp) (by simpa using hDd) (fun w=>results_none rfl _ _ _) (fun w4 ht4=>⟨⟨_,rfl⟩,.inr ⟨k,?_,?_⟩⟩)
  ·
   have e:(o9 h t down i).length=(iT i n r).length:=by simp [o9,iT,hh.1,ht.1]
   rw [e];exact hk
  ·
   exact hJx _ _ _ hJ2 (ht4.below oM (fun q hq=>by simp;omega))
theorem rz(a b:Int)(w:World):Calls Tryz.prog 162 #[.int .i64 a,.int .i64 b] w fun e w'=>e= .returned (.bool (decide (a< b)))/\w=w':=by
 go_enter Tryz.func162,Tryz.ntmps162
 go_wp2
 go_ret
 exact⟨rfl,rfl⟩
theorem rC(a b:Int)(w:World):Calls Tryz.prog 161 #[.int .i64 a,.int .i64 b] w fun e w'=>e= .returned (.bool (decide (b< a)))/\w=w':=by
 go_enter Tryz.func161,Tryz.ntmps161
 go_wp2
 go_ret
 exact⟨rfl,rfl⟩
def jg(down:Bool)(x acc:Int):Int:=if down then max acc x else min acc x
def lU(down:Bool)(f:Int)(l:List Int):Int:=l.foldl (fun acc x=>jg down x acc) f
theorem qU(down:Bool)(bf:Nat)(hbf:bf=161/\down=true\/bf=162/\down=false)(f:Int)(vs:List Int)(gf:Nat)(lb:Array Value)(w:World)(eg:∀args w,(callFunc gf args).run Tryz.prog w= .ok (.enter gf args) w) (hit:∀R w',Below w.heap.size w w'->(∀k,R k->w.heap.size<=k/\k< w'.heap.size)->Iter Tryz.prog gf lb (vs.map fun v=> #[.int .i64 v]) R w') : Calls Tryz.prog 160 #[.int .i64 f,.func (.func gf) #[] lb,.func (.func bf) #[] #[]] w fun e w'=>e= .returned (.int .i64 (lU down f vs))/\Below w.heap.size w w':=by
 refine(callsIn_wide (n:=0)).1 ?_;refine callsIn_of_wp_marks Tryz.func160 rfl trivial ?_ rfl;simp only [Tryz.ntmps160,List.size_toArray,List.length_cons,List.length_nil,Nat.reduceAdd,Nat.reduceSub,Array.replicate_succ,Array.replicate_zero,List.push_toArray,List.append_toArray,List.nil_append,List.cons_append];gi_wp2
 have hb1:=cK.new w 2 #[.int .i64 f];have hb2:=cK.new (w.alloc (.cells #[.int .i64 f] 2)) 296 #[.func (.func bf) #[] #[]];have hb1':=hb1.alloc (.cells #[.func (.func bf) #[] #[]] 296);have hbl:=(bB w (.cells #[.int .i64 f] 2)).alloc (by simp) (.cells #[.func (.func bf) #[] #[]] 296);have hsz:((w.alloc (.cells #[.int .i64 f] 2)).alloc (.cells #[.func (.func bf) #[] #[]] 296)).heap.size=w.heap.size+2:=by simp
 rw [World.size_alloc]at hb2;generalize (w.alloc (.cells #[.int .i64 f] 2)).alloc (.cells #[.func (.func bf) #[] #[]] 296)=w0 at*;refine yt (gf:=gf) rfl eg (hit (· =w.heap.size) w0 hbl (by intro k e;omega)) (by intro k e;omega) (by intro x hx;simp at hx;obtain⟨v,_,rfl⟩:=hx;rfl)
  (fun k W=>cK W w.heap.size 2 #[.int .i64 (lU down f (vs.take k))]/\cK W (w.heap.size+1) 296 #[.func (.func bf) #[] #[]]/\Below w.heap.size w W) (fun _ _ _=>False)
  (fun k W1 W2 h hb=>⟨h.1.below hb oM,h.2.1.below hb oM,h.2.2.trans (hb.mono oM)⟩) (fun _ _ _ _ h _=>h) ⟨by simpa [lU]using hb1',hb2,hbl⟩ ?hround ?hdone (fun _ _ _ _ _ h=>h.elim)
 case hround=>
  rintro l k x W hl hl' hx ⟨h1,h2,h3⟩
  obtain⟨hk,rfl⟩:∃hk:k< vs.length,#[.int .i64 vs[k]]=x:=by
   rw [List.getElem?_map]at hx;by_cases hk:k< vs.length;·rw [List.getElem?_eq_getElem hk]at hx;exact⟨hk,by simpa using hx⟩
   ·rw [List.getElem?_eq_none oM]at hx;cases hx
  gi_wp2
  refine⟨aW.refl _ _,fun W3 hT3=> ?_⟩
  have h1':=hT3.box h1 oM
  have h2':=hT3.box h2 oM
  have h3':Below w.heap.size w W3:=h3.trans (hT3.below (by have:=h3.size;omega) (fun q hq=>by omega))
  have c1:=h1'.cell 0
  have c2:=h2'.cell 0
  have c3:=h1'.frozen 0
  have hs:lU down f (vs.take (k+1))=jg down vs[k] (lU down f (vs.take k)):=by rw [List.take_succ_eq_append_getElem hk,lU,List.foldl_append];rfl
  have HS:=Lib.hid hs
  clear hs hx
  simp only [List.getElem?_toArray,List.getElem?_cons_zero]at c1 c2
  generalize hacc:lU down f (vs.take k)=acc at*
  generalize vs[k]=x at*
  have Hacc:=Lib.hid hacc
  clear hacc
  rcases hbf with⟨rfl,rfl⟩ | ⟨rfl,rfl⟩
  ·by_cases hlt:acc< x
   ·have hd:decide (acc< x)=true:=by simpa using hlt
    gi_wp2_with (gi_at_call 161;refine(callsIn_wide.2 (rC _ _ _)).mono ?_;rintro e w' ⟨rfl,rfl⟩)
    refine⟨aW.setCell (R:=(· =w.heap.size)) (p:=⟨w.heap.size,0,none⟩) (aW.refl _ _) (fun _=>rfl) _,?_,h2'.PV (by simp) _,h3'.setCell (Nat.le_refl _) _⟩;have hb:=h1'.set 0 (.int .i64 x);simp only [List.setIfInBounds_toArray,List.set_cons_zero]at hb;rw [HS.out,show jg true x acc=x by simp [jg];omega];exact hb
   ·have hd:decide (acc< x)=false:=by simpa using hlt
    gi_wp2_with (gi_at_call 161;refine(callsIn_wide.2 (rC _ _ _)).mono ?_;rintro e w' ⟨rfl,rfl⟩)
    refine⟨aW.refl _ _,?_,h2',h3'⟩;rw [HS.out,show jg true x acc=acc by simp [jg];omega];exact h1'
  ·by_cases hlt:x< acc
   ·have hd:decide (x< acc)=true:=by simpa using hlt
    gi_wp2_with (gi_at_call 162;refine(callsIn_wide.2 (rz _ _ _)).mono ?_;rintro e w' ⟨rfl,rfl⟩)
    refine⟨aW.setCell (R:=(· =w.heap.size)) (p:=⟨w.heap.size,0,none⟩) (aW.refl _ _) (fun _=>rfl) _,?_,h2'.PV (by simp) _,h3'.setCell (Nat.le_refl _) _⟩;have hb:=h1'.set 0 (.int .i64 x);simp only [List.setIfInBounds_toArray,List.set_cons_zero]at hb;rw [HS.out,show jg false x acc=x by simp [jg];omega];exact hb
   ·have hd:decide (x< acc)=false:=by simpa using hlt
    gi_wp2_with (gi_at_call 162;refine(callsIn_wide.2 (rz _ _ _)).mono ?_;rintro e w' ⟨rfl,rfl⟩)
    refine⟨aW.refl _ _,?_,h2',h3'⟩;rw [HS.out,show jg false x acc=acc by simp [jg];omega];exact h1'
 case hdone=>
  rintro D W ⟨h1,h2,h3⟩ hD hDd
  have c1:=h1.cell 0
  simp only [List.getElem?_toArray,List.getElem?_cons_zero,List.length_map,List.take_length]at c1
  gi_wp2
  refine n8 [D] (.inr rfl) rfl (by simp) (by simpa using hDd) (fun w=>results_tmp rfl _ _ _) (fun w4 ht4=>⟨rfl,?_⟩)
  exact h3.trans (ht4.below (by have:=h3.size;omega) (fun q hq=>by simp;omega))
theorem Fg:∃i,tu Tryz.prog 41 2 i (.int .i64 0) 1 8:=Ka Tryz.underlying41 kR rfl (by decide)
def jM(t h:List Int)(down:Bool)(i:Nat):Int:= lU down (gi h i) ((List.range (fW i h.length t.length)).map fun k=>gi h (aM i t.length+k)+(if down then- gi t (fT (aM i t.length+k) i)else gi t (fT (aM i t.length+k) i)))
def pH(t h:List Int)(down:Bool):List Int:=(List.range h.length).map (jM t h down)
def fk(t h:List Int)(down:Bool)(k:Nat):List Int:=(List.range h.length).map fun i=>if i< k then jM t h down i else 0
theorem yo(t h:List Int)(down:Bool):fk t h down 0=List.replicate h.length 0:=by apply List.ext_getElem <;> simp [fk]
theorem As(t h:List Int)(down:Bool):fk t h down h.length=pH t h down:=by
 apply List.ext_getElem;·simp [fk,pH]
 ·intro i h1 h2;simp [fk,pH]at h1 ⊢;omega
theorem sk(t h:List Int)(down:Bool)(k:Nat):(fk t h down k).set k (jM t h down k)=fk t h down (k+1):=by
 apply List.ext_getElem;·simp [fk]
 ·intro i h1 h2;simp [fk]at h1 h2 ⊢;rw [List.getElem_set];by_cases e:k=i;·subst e;simp
  ·simp [e];by_cases h3:i< k;·simp [h3];intro h4;omega
   ·simp [h3];intro h4;omega
theorem l9(t h:List Int)(down:Bool)(k:Nat):(fk t h down k).length=h.length:=by simp [fk]
theorem xK(h t:List Int)(down:Bool)(i:Nat) : o9 h t down i=((List.range (fW i h.length t.length)).map fun k=>gi h (aM i t.length+k)+(if down then- gi t (fT (aM i t.length+k) i)else gi t (fT (aM i t.length+k) i))).map fun v=> #[.int .i64 v]:=by simp [o9,Jj]
theorem Au(At Ah:Option Addr)(r ct n ch:Nat)(t h:List Int)(down:Bool)(w:World)(hn:n<=65536)(hr:r<=65536)(ht:eL w At r t)(hh:eL w Ah n h) (hhb:∀x∈h, -16777216<=x/\x<=16777216) (htb:∀x∈t,0<=x/\x<=16777216) : Calls Tryz.prog 118 #[.agg #[.slice At r ct],.slice Ah n ch,.bool down] w fun e w'=>∃g,w.heap.size<=g/\e= .returned (.slice (some ⟨g,0,none⟩) n n)/\ cK w' g 2 (bE (pH t h down))/\Below w.heap.size w w':=by
 obtain⟨i0,hel⟩:=Fg;have hmk:=fun W=>Dr hel n oM oM W;go_enter Tryz.func118,Tryz.ntmps118
 go_wp2
 have b1:=((cK.new w 59 #[.slice At r ct]).alloc (.cells #[.slice Ah n ch] 41)).alloc (.cells #[.bool down] 4) |>.alloc (.cells (bE (List.replicate n 0)) 2)
 have b2:=((cK.new (w.alloc (.cells #[.slice At r ct] 59)) 41 #[.slice Ah n ch]).alloc (.cells #[.bool down] 4)).alloc (.cells (bE (List.replicate n 0)) 2);have b3:=(cK.new ((w.alloc (.cells #[.slice At r ct] 59)).alloc (.cells #[.slice Ah n ch] 41)) 4 #[.bool down]).alloc (.cells (bE (List.replicate n 0)) 2);have b4:=cK.new (((w.alloc (.cells #[.slice At r ct] 59)).alloc (.cells #[.slice Ah n ch] 41)).alloc (.cells #[.bool down] 4)) 2 (bE (List.replicate n 0));have hb0:=(((bB w (.cells #[.slice At r ct] 59)).alloc (by simp) (.cells #[.slice Ah n ch] 41)).alloc (by simp;omega) (.cells #[.bool down] 4)).alloc (by simp;omega) (.cells (bE (List.replicate n 0)) 2);have hs0:((((w.alloc (.cells #[.slice At r ct] 59)).alloc (.cells #[.slice Ah n ch] 41)).alloc (.cells #[.bool down] 4)).alloc (.cells (bE (List.replicate n 0)) 2)).heap.size=w.heap.size+1+1+1+1:=by simp
 simp only [World.size_alloc]at b1 b2 b3 b4;generalize (((w.alloc (.cells #[.slice At r ct] 59)).alloc (.cells #[.slice Ah n ch] 41)).alloc (.cells #[.bool down] 4)).alloc (.cells (bE (List.replicate n 0)) 2)=w0 at*;have hl1:h.length=n:=hh.1;rw [<-hl1,<-yo t h down]at b4;have Hl1:=Lib.hid hl1;clear hl1 hmk;have hh0:=hh.bC hb0;have ht0:=ht.bC hb0;have nA:∀b,Ah.map (·.block)=some b->0< n->b< w.heap.size:=fun b hb hn0=>by obtain⟨b',o,rfl,hb',_⟩:=hh.2.2 hn0;simp at hb;omega
 go_loopw [16] (fun kv wr=>∃k:Nat,k<=n/\kv= .int .i64 k/\cK wr (w.heap.size+1+1+1) 2 (bE (fk t h down k))/\aW (· =w.heap.size+1+1+1) w0 wr) (fun kv wr=>n- (intOf kv).toNat)
 case atStart=>exact⟨0,Nat.zero_le _,rfl,b4,aW.refl _ _⟩
 case round=>
  obtain⟨k,hk,rfl,hbo,hT⟩:=hrel
  have c1:=hT.box b1 oM
  have c2:=hT.box b2 oM
  have c3:=hT.box b3 oM
  have hbw:Below w.heap.size w wr:=hb0.trans (hT.below oM (fun q hq=>by omega))
  by_cases hlt:k< n
  ·have hhw:=hh.bC hbw;have htw:=ht.bC hbw;obtain⟨bH,oH,rfl,hbH,hcH⟩:=ints_at hhw hlt;have d3:wr.cell? ⟨w.heap.size+1+1,0,none⟩=some (.bool down):=c3.cell 0;have d2:wr.cell? ⟨w.heap.size+1,0,none⟩=some (.slice (some ⟨bH,oH,none⟩) n ch):=c2.cell 0;have l1:=c1.lt;have l2:=c2.lt;have l3:=c3.lt;have l4:=hbo.lt;have hx1:cK (wr.alloc (.cells #[.int .i64 k] 3)) wr.heap.size 3 #[.int .i64 k]:=cK.new _ _ _;have hx2:=bB wr (.cells #[.int .i64 k] 3);have hx3:=G2 wr (.cells #[.int .i64 k] 3);cases down
   ·go_wp2
    generalize wr.alloc (.cells #[.int .i64 k] 3)=wx at*;have e1:=c1.below hx2 l1;have e2:=c2.below hx2 l2;have e3:=c3.below hx2 l3;have e4:=hbo.below hx2 l4;have hi:wx.cell? ⟨wr.heap.size,0,none⟩=some (.int .i64 k):=hx1.cell 0;have hbx:Below w.heap.size w wx:=hbw.trans (hx2.mono oM);have hit:∀(R:Nat->Prop) (w':World),Below wx.drew.heap.size wx.drew w'->(∀k,R k->wx.drew.heap.size<=k/\k< w'.heap.size)->
     Iter Tryz.prog 158 #[.pointer (some ⟨wr.heap.size,0,none⟩),.pointer (some ⟨w.heap.size+1,0,none⟩),.pointer (some ⟨w.heap.size,0,none⟩),.pointer (some ⟨w.heap.size+1+1,0,none⟩)] (((List.range (fW k h.length t.length)).map fun q=>gi h (aM k t.length+q)+(if false then- gi t (fT (aM k t.length+q) k)else gi t (fT (aM k t.length+q) k))).map fun v=> #[.int .i64 v]) R w':=fun R w' hb hR=>by
     have hb':Below wx.heap.size wx w':=e8 hb
     have hsx:∀q,q< wx.heap.size->¬R q:=fun q hq e=>by have:=(hR q e).1;have:wx.heap.size<=q:=this;omega
     have:=hx1.lt
     rw [<-xK]
     refine nr _ _ _ _ k (some ⟨bH,oH,none⟩) At n ch r ct h t false w' R hlt hn hr (hx1.below hb' oM) (e2.below hb' oM) (e1.below hb' oM) (e3.below hb' oM) ((hh.bC hbx).below hb' (Nat.le_refl _)) ((ht.bC hbx).below hb' (Nat.le_refl _)) hhb htb (hsx _ oM) (hsx _ oM) (hsx _ oM) (hsx _ oM) ?_ ?_ (fun q e=>(hR q e).2)
     ·intro b hb2;simp at hb2;exact hsx _ oM
     ·intro hr0 b hb2;obtain⟨b',o,rfl,hb3,_⟩:=ht.2.2 hr0;simp at hb2;exact hsx _ (by have:=hbx.size;omega)
    have Hit:=Lib.hid hit;clear hit;go_region_with (go_at_call 160;refine(qU false 162 (.inr ⟨rfl,rfl⟩) _ _ 158 _ wx.drew (enters_of Tryz.func158 kR rfl) Hit.out).mono ?_;rintro e w' ⟨rfl,hbw'⟩;have q1:w'.cell? ⟨wr.heap.size,0,none⟩=some (.int .i64 k):=(hx1.below (w:=wx.drew) hbw' hx1.lt).cell 0;have q2:w'.cell? ⟨w.heap.size+1+1+1,k,none⟩=some (.int .i64 (gi (fk t h false k) k)):=((e4.below (w:=wx.drew) hbw' e4.lt).cell k).trans (eE _ _ (by rw [l9,Hl1.out];exact hlt));have q3:w'.frozen? ⟨w.heap.size+1+1+1,k,none⟩=false:=(e4.below (w:=wx.drew) hbw' e4.lt).frozen k)
    all_goals
     have hbw2:Below wx.heap.size wx w':=e8 hbw'
     go_wp2
     go_roundw
     case rel=>
      refine⟨k+1,by omega,by go_num,?_,?_⟩
      ·have hs:=(e4.below hbw2 e4.lt).set k (.int .i64 (jM t h false k));rw [gK,sk]at hs;simpa [jM]using hs
      ·exact((hT.trans (aW.iV hx2)).trans (aW.iV hbw2)).setCell (fun _=>rfl) _
     case measure=>simp [intOf];omega
   ·go_wp2
    generalize wr.alloc (.cells #[.int .i64 k] 3)=wx at*;have e1:=c1.below hx2 l1;have e2:=c2.below hx2 l2;have e3:=c3.below hx2 l3;have e4:=hbo.below hx2 l4;have hi:wx.cell? ⟨wr.heap.size,0,none⟩=some (.int .i64 k):=hx1.cell 0;have hbx:Below w.heap.size w wx:=hbw.trans (hx2.mono oM);have hit:∀(R:Nat->Prop) (w':World),Below wx.drew.heap.size wx.drew w'->(∀k,R k->wx.drew.heap.size<=k/\k< w'.heap.size)->
     Iter Tryz.prog 158 #[.pointer (some ⟨wr.heap.size,0,none⟩),.pointer (some ⟨w.heap.size+1,0,none⟩),.pointer (some ⟨w.heap.size,0,none⟩),.pointer (some ⟨w.heap.size+1+1,0,none⟩)] (((List.range (fW k h.length t.length)).map fun q=>gi h (aM k t.length+q)+(if true then- gi t (fT (aM k t.length+q) k)else gi t (fT (aM k t.length+q) k))).map fun v=> #[.int .i64 v]) R w':=fun R w' hb hR=>by
     have hb':Below wx.heap.size wx w':=e8 hb
     have hsx:∀q,q< wx.heap.size->¬R q:=fun q hq e=>by have:=(hR q e).1;have:wx.heap.size<=q:=this;omega
     have:=hx1.lt
     rw [<-xK]
     refine nr _ _ _ _ k (some ⟨bH,oH,none⟩) At n ch r ct h t true w' R hlt hn hr (hx1.below hb' oM) (e2.below hb' oM) (e1.below hb' oM) (e3.below hb' oM) ((hh.bC hbx).below hb' (Nat.le_refl _)) ((ht.bC hbx).below hb' (Nat.le_refl _)) hhb htb (hsx _ oM) (hsx _ oM) (hsx _ oM) (hsx _ oM) ?_ ?_ (fun q e=>(hR q e).2)
     ·intro b hb2;simp at hb2;exact hsx _ oM
     ·intro hr0 b hb2;obtain⟨b',o,rfl,hb3,_⟩:=ht.2.2 hr0;simp at hb2;exact hsx _ (by have:=hbx.size;omega)
    have Hit:=Lib.hid hit;clear hit;go_region_with (go_at_call 160;refine(qU true 161 (.inl ⟨rfl,rfl⟩) _ _ 158 _ wx.drew (enters_of Tryz.func158 kR rfl) Hit.out).mono ?_;rintro e w' ⟨rfl,hbw'⟩;have q1:w'.cell? ⟨wr.heap.size,0,none⟩=some (.int .i64 k):=(hx1.below (w:=wx.drew) hbw' hx1.lt).cell 0;have q2:w'.cell? ⟨w.heap.size+1+1+1,k,none⟩=some (.int .i64 (gi (fk t h true k) k)):=((e4.below (w:=wx.drew) hbw' e4.lt).cell k).trans (eE _ _ (by rw [l9,Hl1.out];exact hlt));have q3:w'.frozen? ⟨w.heap.size+1+1+1,k,none⟩=false:=(e4.below (w:=wx.drew) hbw' e4.lt).frozen k)
    all_goals
     have hbw2:Below wx.heap.size wx w':=e8 hbw'
     go_wp2
     go_roundw
     case rel=>
      refine⟨k+1,by omega,by go_num,?_,?_⟩
      ·have hs:=(e4.below hbw2 e4.lt).set k (.int .i64 (jM t h true k));rw [gK,sk]at hs;simpa [jM]using hs
      ·exact((hT.trans (aW.iV hx2)).trans (aW.iV hbw2)).setCell (fun _=>rfl) _
     case measure=>simp [intOf];omega
  ·obtain rfl:k=n:=by omega
   go_wp2
   go_ret
   refine⟨_,?_,rfl,?_,hbw⟩;·omega
   ·rw [<-Hl1.out,As]at hbo;exact hbo
def ox(inn:Bool)(p:Pt):Int:=if inn then- p.1 else p.2
def jP(inn:Bool)(n:Int):Int:=if inn then- n else n
theorem Gy(a b:Int)(w:World):Calls Tryz.prog 248 #[.agg #[],.agg #[.int .i64 a,.int .i64 b]] w fun e w'=>e= .returned (.int .i64 (ox false (a,b)))/\Below w.heap.size w w':=by
 go_enter Tryz.func248,Tryz.ntmps248
 go_wp2
 go_ret
 exact⟨rfl,(bB _ _).alloc (by simp) _⟩
theorem zW(n:Int)(w:World):Calls Tryz.prog 247 #[.agg #[],.int .i64 n] w fun e w'=>e= .returned (.int .i64 (jP false n))/\Below w.heap.size w w':=by
 go_enter Tryz.func247,Tryz.ntmps247
 go_wp2
 go_ret
 exact⟨rfl,bB _ _⟩
theorem FO(a b:Int)(w:World)(h: -1099511627776<=a/\a<=1099511627776):Calls Tryz.prog 250 #[.agg #[],.agg #[.int .i64 a,.int .i64 b]] w fun e w'=>e= .returned (.int .i64 (ox true (a,b)))/\Below w.heap.size w w':=by
 go_enter Tryz.func250,Tryz.ntmps250
 go_wp2
 go_ret
 exact⟨rfl,(bB _ _).alloc (by simp) _⟩
theorem zF(n:Int)(w:World)(h: -1099511627776<=n/\n<=1099511627776):Calls Tryz.prog 249 #[.agg #[],.int .i64 n] w fun e w'=>e= .returned (.int .i64 (jP true n))/\Below w.heap.size w w':=by
 go_enter Tryz.func249,Tryz.ntmps249
 go_wp2
 go_ret
 exact⟨rfl,bB _ _⟩
theorem sY(w:World):(method 494 289 (.agg #[]) "deadwax/play.of").run Tryz.prog w= .ok (248,.agg #[]) w:=by kernel_rfl
theorem pR(w:World):(method 494 289 (.agg #[]) "deadwax/play.back").run Tryz.prog w= .ok (247,.agg #[]) w:=by kernel_rfl
theorem sW(w:World):(method 494 290 (.agg #[]) "deadwax/play.of").run Tryz.prog w= .ok (250,.agg #[]) w:=by kernel_rfl
theorem pQ(w:World):(method 494 290 (.agg #[]) "deadwax/play.back").run Tryz.prog w= .ok (249,.agg #[]) w:=by kernel_rfl
def MT(tf:Nat)(lb:Array Value)(thr:List Int->List Int)(n:Nat)(h:List Int)(w:World):Prop:= ∀(A:Option Addr) (c:Nat) (W:World),Below w.heap.size w W->eL W A n h-> Calls Tryz.prog tf (#[.slice A n c]++lb) W fun e W'=>∃g,W.heap.size<=g/\e= .returned (.slice (some ⟨g,0,none⟩) n n)/\cK W' g 2 (bE (thr h))/\Below W.heap.size W W'
def eF(inn:Bool)(l:List Int)(k:Nat):List Int:=(List.range l.length).map fun i=>if i< k then jP inn (gi l i)else gi l i
theorem oR(inn:Bool)(l:List Int):eF inn l 0=l:=by
 apply List.ext_getElem;·simp [eF]
 ·intro i h1 h2;simp [eF,qY h2]
theorem qE(inn:Bool)(l:List Int):eF inn l l.length=l.map (jP inn):=by
 apply List.ext_getElem;·simp [eF]
 ·intro i h1 h2;simp at h2;simp [eF,qY h2,h2]
theorem iL(inn:Bool)(l:List Int)(k:Nat):(eF inn l k).length=l.length:=by simp [eF]
theorem tG(inn:Bool)(l:List Int)(k:Nat)(h:k< l.length):gi (eF inn l k) k=gi l k:=by rw [qY (by rw [iL];exact h)];simp [eF]
theorem qF(inn:Bool)(l:List Int)(k:Nat):(eF inn l k).set k (jP inn (gi l k))=eF inn l (k+1):=by
 apply List.ext_getElem;·simp [eF]
 ·intro i h1 h2;simp [eF]at h1 h2 ⊢;rw [List.getElem_set];by_cases e:k=i;·subst e;simp
  ·simp [e];by_cases h3:i< k;·simp [h3];intro h4;omega
   ·simp [h3];intro h4;omega
theorem qH(inn:Bool)(it:Nat)(hit:it=290/\inn=true\/it=289/\inn=false)(a b:Nat)(A:Option Addr)(n c:Nat)(l:List Pt)(tf:Nat)(lb:Array Value)(thr:List Int->List Int)(w:World) (hl:lP w A n l) (hn:n<=4096) (hlb:∀p∈l, -4194304<=p.1/\p.1<=4194304/\ -4194304<=p.2/\p.2<=4194304) (ba:cK w a 42 #[.slice A n c]) (bb:cK w b 164 #[.func (.func tf) #[] lb]) (eg:∀args w,(callFunc tf args).run Tryz.prog w= .ok (.enter tf args) w) (ht:MT tf lb thr n (l.map (ox inn)) w) (hth:(thr (l.map (ox inn))).length=n) (htb:∀x∈thr (l.map (ox inn)), -1099511627776<=x/\x<=1099511627776) : Calls Tryz.prog 157 #[.iface it (.agg #[]),.pointer (some ⟨a,0,none⟩),.pointer (some ⟨b,0,none⟩)] w fun e w'=>∃g,w.heap.size<=g/\e= .returned (.slice (some ⟨g,0,none⟩) n n)/\ cK w' g 2 (bE ((thr (l.map (ox inn))).map (jP inn)))/\Below w.heap.size w w':=by
 obtain⟨i0,hel⟩:=Fg;have la:=ba.lt;have lb':=bb.lt;have c1:w.cell? ⟨a,0,none⟩=some (.slice A n c):=ba.cell 0;have hl1:=hl.1;have Hl1:=Lib.hid hl1;clear hl1;go_enter Tryz.func157,Tryz.ntmps157
 go_wp2
 have Hit:=Lib.hid hit;clear hit;rcases Hit.out with⟨rfl,rfl⟩ | ⟨rfl,rfl⟩
 ·go_region
  go_wp2
  have hd0:Below w.heap.size w w.drew:=(Below.refl _ _).drew;generalize w.drew=w0 at*;go_loopw [7,19] (fun v kv wr=>∃k:Nat,k<=n/\kv= .int .i64 k/\wr.ownsRow w.heap.size 2 1 v k (((l.map (ox true)).take k).flatMap zx)/\Below w.heap.size w wr) (fun v kv wr=>n- (intOf kv).toNat)
  case atStart=>exact⟨0,Nat.zero_le _,rfl,World.ownsRow_nil _ _ _ _,hd0⟩
  case round=>
   obtain⟨k,hk,rfl,hown,hbl⟩:=hrel
   by_cases hlt:k< n
   ·obtain⟨bP,oP,rfl,hbP,hc1,hc2⟩:=z5 (hl.bC hbl) hlt;have hpb:=(tN.1 hlb) k (by rw [Hl1.out];exact hlt);have hx1:cK (wr.alloc (.cells #[.int .i64 (gp l k).1,.int .i64 (gp l k).2] 47)) wr.heap.size 47 #[.int .i64 (gp l k).1,.int .i64 (gp l k).2]:=cK.new _ _ _;have hx2:=bB wr (.cells #[.int .i64 (gp l k).1,.int .i64 (gp l k).2] 47);have m1:=fun w=>sW w;go_wp2_with (first
     | (go_at_call 250;refine(FO _ _ _ oM).mono ?_;rintro e w1 ⟨rfl,hw1⟩;have hown1:=jF (jF hown hx2) hw1;have hbl1:=(hbl.trans (hx2.mono hbl.size)).trans (hw1.mono (by have:=hbl.size;simp;omega)))
     | (at_builtin;go_loud (refine pI hel rfl _ _ rfl rfl (hown1.alloc _) rfl (cK.new w1 2 _) rfl (by intro u hu;simp at hu;subst hu;rfl) oM (by decide) (by have:=hbl1.size;simp;omega) ?_);intro v' w2 hown2 hg2))
    go_roundw
    case rel=>
     refine⟨k+1,by omega,by go_num,?_,?_⟩
     ·have e:(l.map (ox true)).take (k+1)=(l.map (ox true)).take k++[ox true (gp l k)]:=by rw [List.take_succ_eq_append_getElem (by simp [Hl1.out,hlt])];simp [lW (l:=l) (k:=k) (by rw [Hl1.out];exact hlt)]
      rw [e,List.flatMap_append];simpa [zx]using hown2
     ·exact(hbl1.alloc hbl1.size _).grown hg2 (by have:=hbl1.size;simp;omega) (fun g e=>by have:=hown1.lt g e;omega)
    case measure=>simp [intOf];omega
   ·obtain rfl:k=n:=by omega
    obtain⟨A',c',rfl⟩:=rK hown;rw [List.take_of_length_le (by simp [Hl1.out])]at hown;have hin:eL wr A' k (l.map (ox true)):=fR.zT w5 Nat.one_pos hown;have d2:wr.cell? ⟨b,0,none⟩=some (.func (.func tf) #[] lb):=(bb.bC hbl).cell 0;go_wp2_with fail
    refine(ht A' c' wr hbl hin).mono ?_;rintro e w1 ⟨g,hg,rfl,hbg,hb1⟩;have hb2:Below w.heap.size w w1:=hbl.trans (hb1.mono hbl.size);generalize hL:thr (l.map (ox true))=L at*;have HL:=Lib.hid hL;have Hth:=Lib.hid hth;clear hL hth ht;go_wp2
    go_loopw [35] (fun kv wr2=>∃q:Nat,q<=k/\kv= .int .i64 q/\cK wr2 g 2 (bE (eF true L q))/\Below w.heap.size w wr2) (fun kv wr2=>k- (intOf kv).toNat)
    case atStart=>exact⟨0,Nat.zero_le _,rfl,by rw [oR];exact hbg,hb2⟩
    case round=>
     obtain⟨q,hq,rfl,hbq,hbw⟩:=hrel
     by_cases hqk:q< k
     ·have f1:wr.cell? ⟨g,q,none⟩=some (.int .i64 (gi L q)):=by rw [hbq.cell,eE _ _ (by rw [iL,Hth.out];exact hqk),tG _ _ _ (by rw [Hth.out];exact hqk)]
      have hqb:=(eS.1 htb) q (by rw [Hth.out];exact hqk);have m2:=fun w=>pQ w;have hbq2:∀w',Below wr.heap.size wr w'->w'.cell? ⟨g,q,none⟩=some (.int .i64 (gi L q))/\w'.frozen? ⟨g,q,none⟩=false:=fun w' hb=>⟨(hb.cell (p:=⟨g,q,none⟩) hbq.lt).trans f1,(hbq.bC hb).frozen q⟩;go_wp2_with (go_at_call 249;refine(zF _ _ oM).mono ?_;rintro e w2 ⟨rfl,hw2⟩;obtain⟨f2,f3⟩:=hbq2 w2 hw2)
      go_roundw
      case rel=>
       refine⟨q+1,by omega,by go_num,?_,?_⟩
       ·have hs:=(hbq.bC hw2).set q (.int .i64 (jP true (gi L q)));rw [gK,qF]at hs;exact hs
       ·exact(hbw.trans (hw2.mono hbw.size)).setCell (p:=⟨g,q,none⟩) (by have:=hbl.size;simp;omega) _
      case measure=>simp [intOf];omega
     ·obtain rfl:q=k:=by omega
      go_wp2
      go_ret
      refine⟨g,by have:=hbl.size;omega,rfl,?_,hbw⟩;have:=Hth.out;rw [<-this,qE]at hbq;rw [HL.out];exact hbq
 ·go_region
  go_wp2
  have hd0:Below w.heap.size w w.drew:=(Below.refl _ _).drew;generalize w.drew=w0 at*;go_loopw [7,19] (fun v kv wr=>∃k:Nat,k<=n/\kv= .int .i64 k/\wr.ownsRow w.heap.size 2 1 v k (((l.map (ox false)).take k).flatMap zx)/\Below w.heap.size w wr) (fun v kv wr=>n- (intOf kv).toNat)
  case atStart=>exact⟨0,Nat.zero_le _,rfl,World.ownsRow_nil _ _ _ _,hd0⟩
  case round=>
   obtain⟨k,hk,rfl,hown,hbl⟩:=hrel
   by_cases hlt:k< n
   ·obtain⟨bP,oP,rfl,hbP,hc1,hc2⟩:=z5 (hl.bC hbl) hlt;have hpb:=(tN.1 hlb) k (by rw [Hl1.out];exact hlt);have hx1:cK (wr.alloc (.cells #[.int .i64 (gp l k).1,.int .i64 (gp l k).2] 47)) wr.heap.size 47 #[.int .i64 (gp l k).1,.int .i64 (gp l k).2]:=cK.new _ _ _;have hx2:=bB wr (.cells #[.int .i64 (gp l k).1,.int .i64 (gp l k).2] 47);have m1:=fun w=>sY w;go_wp2_with (first
     | (go_at_call 248;refine(Gy _ _ _).mono ?_;rintro e w1 ⟨rfl,hw1⟩;have hown1:=jF (jF hown hx2) hw1;have hbl1:=(hbl.trans (hx2.mono hbl.size)).trans (hw1.mono (by have:=hbl.size;simp;omega)))
     | (at_builtin;go_loud (refine pI hel rfl _ _ rfl rfl (hown1.alloc _) rfl (cK.new w1 2 _) rfl (by intro u hu;simp at hu;subst hu;rfl) oM (by decide) (by have:=hbl1.size;simp;omega) ?_);intro v' w2 hown2 hg2))
    go_roundw
    case rel=>
     refine⟨k+1,by omega,by go_num,?_,?_⟩
     ·have e:(l.map (ox false)).take (k+1)=(l.map (ox false)).take k++[ox false (gp l k)]:=by rw [List.take_succ_eq_append_getElem (by simp [Hl1.out,hlt])];simp [lW (l:=l) (k:=k) (by rw [Hl1.out];exact hlt)]
      rw [e,List.flatMap_append];simpa [zx]using hown2
     ·exact(hbl1.alloc hbl1.size _).grown hg2 (by have:=hbl1.size;simp;omega) (fun g e=>by have:=hown1.lt g e;omega)
    case measure=>simp [intOf];omega
   ·obtain rfl:k=n:=by omega
    obtain⟨A',c',rfl⟩:=rK hown;rw [List.take_of_length_le (by simp [Hl1.out])]at hown;have hin:eL wr A' k (l.map (ox false)):=fR.zT w5 Nat.one_pos hown;have d2:wr.cell? ⟨b,0,none⟩=some (.func (.func tf) #[] lb):=(bb.bC hbl).cell 0;go_wp2_with fail
    refine(ht A' c' wr hbl hin).mono ?_;rintro e w1 ⟨g,hg,rfl,hbg,hb1⟩;have hb2:Below w.heap.size w w1:=hbl.trans (hb1.mono hbl.size);generalize hL:thr (l.map (ox false))=L at*;have HL:=Lib.hid hL;have Hth:=Lib.hid hth;clear hL hth ht;go_wp2
    go_loopw [35] (fun kv wr2=>∃q:Nat,q<=k/\kv= .int .i64 q/\cK wr2 g 2 (bE (eF false L q))/\Below w.heap.size w wr2) (fun kv wr2=>k- (intOf kv).toNat)
    case atStart=>exact⟨0,Nat.zero_le _,rfl,by rw [oR];exact hbg,hb2⟩
    case round=>
     obtain⟨q,hq,rfl,hbq,hbw⟩:=hrel
     by_cases hqk:q< k
     ·have f1:wr.cell? ⟨g,q,none⟩=some (.int .i64 (gi L q)):=by rw [hbq.cell,eE _ _ (by rw [iL,Hth.out];exact hqk),tG _ _ _ (by rw [Hth.out];exact hqk)]
      have hqb:=(eS.1 htb) q (by rw [Hth.out];exact hqk);have m2:=fun w=>pR w;have hbq2:∀w',Below wr.heap.size wr w'->w'.cell? ⟨g,q,none⟩=some (.int .i64 (gi L q))/\w'.frozen? ⟨g,q,none⟩=false:=fun w' hb=>⟨(hb.cell (p:=⟨g,q,none⟩) hbq.lt).trans f1,(hbq.bC hb).frozen q⟩;go_wp2_with (go_at_call 247;refine(zW _ _).mono ?_;rintro e w2 ⟨rfl,hw2⟩;obtain⟨f2,f3⟩:=hbq2 w2 hw2)
      go_roundw
      case rel=>
       refine⟨q+1,by omega,by go_num,?_,?_⟩
       ·have hs:=(hbq.bC hw2).set q (.int .i64 (jP false (gi L q)));rw [gK,qF]at hs;exact hs
       ·exact(hbw.trans (hw2.mono hbw.size)).setCell (p:=⟨g,q,none⟩) (by have:=hbl.size;simp;omega) _
      case measure=>simp [intOf];omega
     ·obtain rfl:q=k:=by omega
      go_wp2
      go_ret
      refine⟨g,by have:=hbl.size;omega,rfl,?_,hbw⟩;have:=Hth.out;rw [<-this,qE]at hbq;rw [HL.out];exact hbq
theorem Nh:∃i,tu Tryz.prog 42 47 i (.agg #[.int .i64 0,.int .i64 0]) 2 16:=Ka Tryz.underlying42 kR rfl (by decide)
theorem MT.later{tf:Nat}{lb:Array Value}{thr:List Int->List Int}{n:Nat}{h:List Int}{w w':World}(ht:MT tf lb thr n h w)(hb:Below w.heap.size w w'):MT tf lb thr n h w':= fun A c W hW hi=>ht A c W (hb.trans (hW.mono hb.size)) hi
def k9(n:Nat)(li lo:List Int):List Pt:=(List.range n).map fun i=>(gi li i,gi lo i)
theorem yp(n:Nat)(li lo:List Int):k9 (n+1) li lo=k9 n li lo++[(gi li n,gi lo n)]:=by simp [k9,List.range_succ]
def sn(thr:List Int->List Int)(l:List Pt):List Pt:= k9 l.length ((thr (l.map (ox true))).map (jP true)) ((thr (l.map (ox false))).map (jP false))
theorem yq(A:Option Addr)(n c:Nat)(l:List Pt)(tf:Nat)(lb:Array Value)(thr:List Int->List Int)(w:World) (hl:lP w A n l) (hn:n<=4096) (hlb:∀p∈l, -4194304<=p.1/\p.1<=4194304/\ -4194304<=p.2/\p.2<=4194304) (eg:∀args w,(callFunc tf args).run Tryz.prog w= .ok (.enter tf args) w) (ht:∀inn,MT tf lb thr n (l.map (ox inn)) w) (hth:∀inn,(thr (l.map (ox inn))).length=n) (htb:∀inn,∀x∈thr (l.map (ox inn)), -1099511627776<=x/\x<=1099511627776) : Calls Tryz.prog 116 #[.slice A n c,.func (.func tf) #[] lb] w fun e w'=>∃v,e= .returned v/\w'.ownsRow w.heap.size 47 2 v n ((sn thr l).flatMap n7)/\Below w.heap.size w w':=by
 obtain⟨i0,hel⟩:=Nh;have b1:=(cK.new w 42 #[.slice A n c]).alloc (.cells #[.func (.func tf) #[] lb] 164);have b2:=cK.new (w.alloc (.cells #[.slice A n c] 42)) 164 #[.func (.func tf) #[] lb];have hb:=(bB w (.cells #[.slice A n c] 42)).alloc (by simp) (.cells #[.func (.func tf) #[] lb] 164);have hs:((w.alloc (.cells #[.slice A n c] 42)).alloc (.cells #[.func (.func tf) #[] lb] 164)).heap.size=w.heap.size+1+1:=by simp
 simp only [World.size_alloc]at b2;have Heg:=Lib.hid eg;clear eg;go_enter Tryz.func116,Tryz.ntmps116
 go_wp2_with fail
 generalize (w.alloc (.cells #[.slice A n c] 42)).alloc (.cells #[.func (.func tf) #[] lb] 164)=w0 at*;refine(qH false _ (.inr ⟨rfl,rfl⟩) _ _ A n c l tf lb thr w0 (hl.bC hb) hn hlb b1 b2 Heg.out ((ht false).later hb) (hth false) (htb false)).mono ?_;rintro e w1 ⟨go,hgo,rfl,hbo,hb1⟩;have b1':=b1.bC hb1;have b2':=b2.bC hb1;have hb':Below w.heap.size w w1:=hb.trans (hb1.mono oM);go_wp2_with fail
 refine(qH true _ (.inl ⟨rfl,rfl⟩) _ _ A n c l tf lb thr w1 (hl.bC hb') hn hlb b1' b2' Heg.out ((ht true).later hb') (hth true) (htb true)).mono ?_;rintro e w2 ⟨gn,hgn,rfl,hbn,hb2⟩;have hbo2:=hbo.bC hb2;have hb'':Below w.heap.size w w2:=hb'.trans (hb2.mono hb'.size);generalize hLo:(thr (l.map (ox false))).map (jP false)=Lo at*;generalize hLi:(thr (l.map (ox true))).map (jP true)=Li at*;have HLo:=Lib.hid hLo;have HLi:=Lib.hid hLi;have hlo:Lo.length=n:=by rw [<-hLo];simp [hth]
 have hli:Li.length=n:=by rw [<-hLi];simp [hth]
 have Hlo:=Lib.hid hlo;have Hli:=Lib.hid hli;have Hht:=Lib.hid ht;have Hhth:=Lib.hid hth;have b1'':w2.cell? ⟨w.heap.size,0,none⟩=some (.slice A n c):=(b1'.bC hb2).cell 0;clear hLo hLi hlo hli ht hth;go_wp2
 have hg1:w.heap.size<=go:=by omega
 have hg2:w.heap.size<=gn:=by have:=hb1.size;omega
 go_loopw [8,21] (fun v kv wr=>∃k:Nat,k<=n/\kv= .int .i64 k/\wr.ownsRow w.heap.size 47 2 v k ((k9 k Li Lo).flatMap n7)/\cK wr go 2 (bE Lo)/\cK wr gn 2 (bE Li)/\Below w.heap.size w wr) (fun v kv wr=>n- (intOf kv).toNat)
 case atStart=>exact⟨0,Nat.zero_le _,rfl,World.ownsRow_nil _ _ _ _,hbo2,hbn,hb''⟩
 case round=>
  obtain⟨k,hk,rfl,hown,hbo,hbn,hbl⟩:=hrel
  by_cases hlt:k< n
  ·have f1:wr.cell? ⟨go,k,none⟩=some (.int .i64 (gi Lo k)):=(hbo.cell k).trans (eE _ _ (by rw [Hlo.out];exact hlt));have f2:wr.cell? ⟨gn,k,none⟩=some (.int .i64 (gi Li k)):=(hbn.cell k).trans (eE _ _ (by rw [Hli.out];exact hlt));go_wp2
   have hown1:wr.drew.ownsRow w.heap.size 47 2 u8 k ((k9 k Li Lo).flatMap n7):=hown;have hbo1:cK wr.drew go 2 (bE Lo):=hbo;have hbn1:cK wr.drew gn 2 (bE Li):=hbn;have hbl1:Below w.heap.size w wr.drew:=hbl.drew;go_region_law (refine DX hel rfl _ _ rfl rfl (hown1.alloc _) rfl (cK.new wr.drew 47 _) rfl (by intro u hu;simp at hu;rcases hu with rfl |rfl <;> rfl) oM (by decide) (Nat.le_trans hbl1.size (by simp)) ?_;intro v' w2 hown2 hg2)
   all_goals
    go_wp2
    go_roundw
    case rel=>
     refine⟨k+1,by omega,by go_num,?_,?_,?_,?_⟩
     ·rw [yp,List.flatMap_append];exact hown2
     ·exact(hbo1.alloc _).grown hg2 (fun e=>Gz hown1 hbo1 (by decide) _ e.symm rfl)
     ·exact(hbn1.alloc _).grown hg2 (fun e=>Gz hown1 hbn1 (by decide) _ e.symm rfl)
     ·exact(hbl1.alloc hbl1.size _).grown hg2 (Nat.le_trans hbl1.size (by simp)) (fun g e=>by have:=hown1.lt g e;omega)
    case measure=>simp [intOf];omega
  ·obtain rfl:k=n:=by omega
   go_wp2
   go_ret
   refine⟨_,rfl,?_,hbl⟩;have e:sn thr l=k9 k Li Lo:=by rw [sn,HLo.out,HLi.out,hl.1]
   rw [e];exact hown
def lJ(x lo hi:Int):Bool:=decide (lo<=x) && decide (x<=hi)
def jR(p:Pt):Bool:=lJ p.1 (-4194304) 4194304 && lJ p.2 (-4194304) 4194304
theorem Dc(p:Pt):jR p=true<-> -4194304<=p.1/\p.1<=4194304/\ -4194304<=p.2/\p.2<=4194304:=by simp [jR,lJ];omega
def dQ(l:List Pt):Int:=if 4096< l.length then 6 else if l.all jR then 0 else 2
theorem wQ{l:List Pt}(h:dQ l=0):l.length<=4096/\∀p∈l, -4194304<=p.1/\p.1<=4194304/\ -4194304<=p.2/\p.2<=4194304:=by
 unfold dQ at h;split at h;·omega
 ·split at h;·rename_i h2;exact⟨by omega,fun p hp=>(Dc p).1 (List.all_eq_true.1 h2 p hp)⟩
  ·omega
theorem sM(x lo hi:Int)(w:World):Calls Tryz.prog 108 #[.int .i64 x,.int .i64 lo,.int .i64 hi] w fun e w'=>e= .returned (.bool (lJ x lo hi))/\w=w':=by
 go_enter Tryz.func108,Tryz.ntmps108
 go_wp2
 all_goals
  go_ret
  refine⟨?_,rfl⟩
  simp [lJ, *]
 omega
theorem wZ(a b:Int)(w:World):Calls Tryz.prog 127 #[.agg #[.int .i64 a,.int .i64 b]] w fun e w'=>e= .returned (.bool (jR (a,b)))/\Below w.heap.size w w':=by
 have hb:=bB w (.cells #[.int .i64 a,.int .i64 b] 47);cases h:lJ a (-4194304) 4194304;all_goals
  go_enter Tryz.func127,Tryz.ntmps127
  go_wp2_with ((with_reducible refine(sM _ _ _ _).mono ?_);rintro e w' ⟨rfl,rfl⟩)
  go_ret
  exact⟨by simp [jR,h],hb⟩
theorem sL{l:List Pt}{k:Nat}(h:k< l.length):(l.take (k+1)).all jR=((l.take k).all jR && jR (gp l k)):=by rw [vF h,List.all_append];simp
theorem uT{l:List Pt}{k:Nat}(h4:¬4096< l.length)(hk:k< l.length)(h:jR (gp l k)=false):dQ l=2:=by unfold dQ;rw [if_neg h4,if_neg];intro ha;have:=List.all_eq_true.1 ha (gp l k) (FD hk);rw [h]at this;cases this
theorem sO{l:List Pt}(h4:¬4096< l.length)(h:l.all jR=true):dQ l=0:=by unfold dQ;rw [if_neg h4,if_pos h]
theorem qL(A:Option Addr)(n c:Nat)(l:List Pt)(w:World)(hl:lP w A n l)(hn:n<=4611686018427387904) : Calls Tryz.prog 76 #[.slice A n c] w fun e w'=>e= .returned (.int .i64 (dQ l))/\Below w.heap.size w w':=by
 have hl1:=hl.1;by_cases h4:4096< n
 ·go_enter Tryz.func76,Tryz.ntmps76
  go_wp2
  go_ret
  exact⟨fQ (by rw [dQ,if_pos oM]),Below.refl _ _⟩
 ·have Hl:=Lib.hid hl1;clear hl1;go_enter Tryz.func76,Tryz.ntmps76
  go_wp2
  go_loopw [10] (fun i wr=>∃k:Nat,k<=n/\i= .int .i64 k/\(l.take k).all jR=true/\Below w.heap.size w wr) (fun i _=>n- (intOf i).toNat)
  case atStart=>exact⟨0,Nat.zero_le _,rfl,rfl,Below.refl _ _⟩
  case round=>
   obtain⟨k,hk,rfl,hall,hbl⟩:=hrel
   have Hall:=Lib.hid hall
   clear hall
   by_cases hlt:k< n
   ·obtain⟨b,o,rfl,hb,hc1,hc2⟩:=z5 (hl.bC hbl) hlt;have hx:=hbl.trans ((bB wr (.cells #[.int .i64 (gp l k).1,.int .i64 (gp l k).2] 47)).mono hbl.size);cases he:jR ((gp l k).1,(gp l k).2);all_goals
     have He:=Lib.hid he
     clear he
     go_wp2_with ((with_reducible refine(wZ _ _ _).mono ?_);rintro e w' ⟨rfl,hw'⟩;rw [He.out])
    ·go_ret
     exact⟨fQ (by rw [uT (by rw [Hl.out];exact h4) (by rw [Hl.out];exact hlt) He.out]),hx.trans (hw'.mono hx.size)⟩
    ·go_roundw
     case rel=>exact⟨k+1,by omega,by go_num,by rw [sL (by rw [Hl.out];exact hlt),Hall.out];exact He.out,hx.trans (hw'.mono hx.size)⟩
     case measure=>simp [intOf];omega
   ·obtain rfl:k=n:=by omega
    go_wp2
    go_ret
    have h:=Hall.out;rw [List.take_of_length_le (by rw [Hl.out];exact Nat.le_refl _)]at h;exact⟨fQ (by rw [sO (by rw [Hl.out];exact h4) h]),hbl⟩
def eP(t:List Int)(k:Nat):Bool:=if k=0 then gi t 0 !=0 else decide (gi t k< gi t (k- 1)) || decide (4194304< gi t k)
def ck(t:List Int):Int:=if t.length=0\/64< t.length then 6 else if(List.range t.length).any (eP t)then 2 else 0
theorem lR{t:List Int}(h:t.length=0\/64< t.length):ck t=6:=by rw [ck,if_pos h]
theorem uU{t:List Int}{k:Nat}(h:¬(t.length=0\/64< t.length))(hk:k< t.length)(hb:eP t k=true):ck t=2:=by rw [ck,if_neg h,if_pos];rw [List.any_eq_true];exact⟨k,List.mem_range.2 hk,hb⟩
theorem sP{t:List Int}(h:¬(t.length=0\/64< t.length))(hb:∀k,k< t.length->eP t k=false):ck t=0:=by rw [ck,if_neg h,if_neg];rw [List.any_eq_true];rintro⟨k,hk,e⟩;rw [hb k (List.mem_range.1 hk)]at e;cases e
theorem wS{t:List Int}(h:ck t=0):0< t.length/\t.length<=64/\gi t 0=0/\(∀k,k+1< t.length->gi t k<=gi t (k+1))/\∀x∈t,0<=x/\x<=4194304:=by
 unfold ck at h;split at h;·omega
 ·split at h;·omega
  ·rename_i h1 h2;have hb:∀k,k< t.length->eP t k=false:=fun k hk=>by
    cases e:eP t k with
    |false=>rfl
    |true=>exact absurd (List.any_eq_true.2 ⟨k,List.mem_range.2 hk,e⟩) h2
   have h0:gi t 0=0:=by have:=hb 0 oM;simpa [eP]using this
   have hs:∀k,k+1< t.length->gi t k<=gi t (k+1)/\gi t (k+1)<=4194304:=fun k hk=>by have:=hb (k+1) hk;simp [eP]at this;omega
   refine⟨by omega,by omega,h0,fun k hk=>(hs k hk).1,?_⟩;rw [eS (p:=fun x=>0<=x/\x<=4194304)];intro k;induction k with
   |zero=>intro _;rw [h0];omega
   |succ k ih=>intro hk;have:=ih oM;have:=hs k hk;omega
theorem qN(A:Option Addr)(n c:Nat)(t:List Int)(w:World)(hl:eL w A n t)(hn:n<=4611686018427387904) :
    Calls Tryz.prog 115 #[.agg #[.slice A n c]] w fun e w'=>e= .returned (.int .i64 (ck t))/\Below w.heap.size w w':=by
  have hb0:=bB w (.cells #[.slice A n c] 59)
  have hbx:=cK.new w 59 #[.slice A n c]
  have Hl:=Lib.hid hl.1
  by_cases h0:n=0
  · subst h0
    have d0:((0:Int) == 0)=true:=rfl
    go_enter Tryz.func115,Tryz.ntmps115
    go_wp2
    all_goals go_ret
    all_goals exact⟨fQ (by rw [lR (by rw [Hl.out];omega)]),hb0⟩
  · have d0:((n:Int) == 0)=false:=beq_eq_false_iff_ne.2 oM
    by_cases h64:64< n
    · have d1:decide ((64:Int)< (n:Int))=true:=by simp;omega
      go_enter Tryz.func115,Tryz.ntmps115
      go_wp2
      all_goals go_ret
      all_goals exact⟨fQ (by rw [lR (by rw [Hl.out];omega)]),hb0⟩
    · have d1:decide ((64:Int)< (n:Int))=false:=by simp;omega
      go_enter Tryz.func115,Tryz.ntmps115
      go_wp2
      generalize w.alloc (.cells #[.slice A n c] 59)=w0 at*
      have hl0:=hl.bC hb0
      go_loop [3,19] (fun last i=>∃k:Nat,k<=n/\i= .int .i64 k/\last= .int .i64 (if k=0 then 0 else gi t (k- 1))/\∀j,j< k->eP t j=false) (fun _ i=>n- (intOf i).toNat)
      case atStart=>exact⟨0,Nat.zero_le _,rfl,rfl,fun j hj=>absurd hj oM⟩
      case round=>
        obtain⟨k,hk,rfl,rfl,hall⟩:=hrel
        have Hall:=Lib.hid hall
        clear hall
        by_cases hlt:k< n
        · obtain⟨b,o,rfl,hb,hc1⟩:=ints_at hl0 hlt
          have key:(eP t k=true->ck t=2):=fun h=>uU (by rw [Hl.out];omega) (by rw [Hl.out];exact hlt) h
          have Key:=Lib.hid key
          clear key
          have next:eP t k=false->∀j,j< k+1->eP t j=false:=fun h j hj=>by
            by_cases e:j=k
            · subst e;exact h
            · exact Hall.out j oM
          have Next:=Lib.hid next
          clear next
          by_cases hk0:k=0
          · subst hk0
            rw [Nat.add_zero]at hc1
            simp only [if_true]
            go_wp2
            all_goals first
              | (go_ret;exact⟨fQ (by rw [Key.out (by simp [eP];simp at *;omega)]),hb0⟩)
              | (go_round
                 case rel=>exact⟨1,by omega,by go_num,by simp,Next.out (by simp [eP];simp at *;omega)⟩
                 case measure=>simp [intOf];omega)
          · have dk:((k:Int) == 0)=false:=beq_eq_false_iff_ne.2 oM
            simp only [hk0,if_false]
            go_wp2
            all_goals first
              | (go_ret;exact⟨fQ (by rw [Key.out (by simp [eP,hk0];simp at *;omega)]),hb0⟩)
              | (go_round
                 case rel=>exact⟨k+1,by omega,by go_num,by simp,Next.out (by simp [eP,hk0];simp at *;omega)⟩
                 case measure=>simp [intOf];omega)
        · obtain rfl:k=n:=by omega
          go_wp2
          go_ret
          exact⟨fQ (by rw [sP (by rw [Hl.out];omega) (by rw [Hl.out];exact Hall.out)]),hb0⟩
def cn(t:List Int)(l:List Pt):Int:=if ck t=0 then dQ l else ck t
theorem oV(A:Option Addr)(n c:Nat)(t:List Int)(B:Option Addr)(m d:Nat)(l:List Pt)(w:World)(ht:eL w A n t)(hn:n<=4611686018427387904)(hl:lP w B m l)(hm:m<=4611686018427387904) : Calls Tryz.prog 69 #[.agg #[.slice A n c],.slice B m d] w fun e w'=>e= .returned (.int .i64 (cn t l))/\Below w.heap.size w w':=by
 have hb0:=bB w (.cells #[.slice A n c] 59);go_enter Tryz.func69,Tryz.ntmps69
 go_wp2_with fail
 generalize w.alloc (.cells #[.slice A n c] 59)=w0 at*;refine(qN A n c t w0 (ht.bC hb0) hn).mono ?_;rintro e w1 ⟨rfl,hw1⟩;have hb1:=hb0.trans (hw1.mono hb0.size);by_cases h0:ck t=0
 ·have e0:cn t l=dQ l:=by simp [cn,h0]
  have E0:=Lib.hid e0;clear e0;rw [h0];go_wp2_with fail
  refine(qL B m d l w1 (hl.bC hb1) hm).mono ?_;rintro e w2 ⟨rfl,hw2⟩;go_wp2
  go_ret
  exact⟨fQ (by rw [E0.out]),hb1.trans (hw2.mono hb1.size)⟩
 ·have e0:cn t l=ck t:=by simp [cn,h0]
  have E0:=Lib.hid e0;clear e0;have d0:(ck t !=0)=true:=by simpa using h0
  go_wp2
  go_ret
  exact⟨fQ (by rw [E0.out]),hb1⟩
theorem oZ(down:Bool)(lo hi:Int):∀(vs:List Int) (f:Int),lo<=f->f<=hi->(∀v∈vs,if down then v<=hi else lo<=v)->lo<=lU down f vs/\lU down f vs<=hi
 | [],f,h1,h2,_=>⟨h1,h2⟩
 |v::vs,f,h1,h2,h3=>by
  have hv:=h3 v (by simp);refine oZ down lo hi vs (jg down v f) ?_ ?_ (fun x hx=>h3 x (by simp [hx]));·cases down <;> simp [jg]at hv ⊢ <;> omega
  ·cases down <;> simp [jg]at hv ⊢ <;> omega
theorem Jh{i n r k:Nat}(hk:k< fW i n r):aM i r+k< n/\fT (aM i r+k) i< r:=by unfold fW aM fT at *;omega
theorem vJ(t h:List Int)(down:Bool)(i:Nat)(lo hi:Int)(hi':i< h.length)(hh:∀x∈h,lo<=x/\x<=hi)(ht:∀x∈t,0<=x):lo<=jM t h down i/\jM t h down i<=hi:=by have h0:=(eS.1 hh) i hi';refine oZ down lo hi _ _ h0.1 h0.2 ?_;intro v hv;simp only [List.mem_map,List.mem_range]at hv;obtain⟨k,hk,rfl⟩:=hv;obtain⟨k1,k2⟩:=Jh hk;have h1:=(eS.1 hh) _ k1;have h2:=(eS (p:=fun x=>0<=x) |>.1 ht) _ k2;cases down <;> simp <;> omega
theorem ym(t h:List Int)(down:Bool)(lo hi:Int)(hh:∀x∈h,lo<=x/\x<=hi)(ht:∀x∈t,0<=x):∀x∈pH t h down,lo<=x/\x<=hi:=by intro x hx;simp only [pH,List.mem_map,List.mem_range]at hx;obtain⟨i,hi',rfl⟩:=hx;exact vJ t h down i lo hi hi' hh ht
theorem t6{l:List Pt}(hl:∀p∈l, -4194304<=p.1/\p.1<=4194304/\ -4194304<=p.2/\p.2<=4194304)(inn:Bool):∀x∈l.map (ox inn), -4194304<=x/\x<=4194304:=by intro x hx;obtain⟨p,hp,rfl⟩:=List.mem_map.1 hx;have:=hl p hp;cases inn <;> simp [ox] <;> omega
def BP(t h:List Int):List Int:=pH t h false
def ua(t:List Int)(l:List Pt):List Pt:=sn (BP t) l
theorem Hh(g:Nat)(At:Option Addr)(r ct n:Nat)(t h:List Int)(w:World)(hb:cK w g 59 #[.slice At r ct])(ht:eL w At r t)(hn:n<=65536)(hr:r<=65536) (hhb:∀x∈h, -4194304<=x/\x<=4194304) (htb:∀x∈t,0<=x/\x<=4194304):MT 117 #[.pointer (some ⟨g,0,none⟩)] (BP t) n h w:=by
 intro A c W hW hh;have d1:W.cell? ⟨g,0,none⟩=some (.slice At r ct):=(hb.bC hW).cell 0;show Calls Tryz.prog 117 #[.slice A n c,.pointer (some ⟨g,0,none⟩)] W _;go_enter Tryz.func117,Tryz.ntmps117
 go_wp2_with fail
 refine(Au At A r ct n c t h false W hn hr (ht.bC hW) hh (fun x hx=>by have:=hhb x hx;omega) (fun x hx=>by have:=htb x hx;omega)).mono ?_;rintro e w' ⟨g',hg,rfl,hbg,hbw⟩;go_wp2
 go_ret
 exact⟨g',hg,rfl,hbg,hbw⟩
def jN(t:List Int)(l:List Pt):List Pt:=if cn t l=0 then ua t l else []
theorem uS{t:List Int}{l:List Pt}(h:cn t l=0):ck t=0/\dQ l=0:=by
 unfold cn at h;by_cases h0:ck t=0;·rw [if_pos h0]at h;exact⟨h0,h⟩
 ·rw [if_neg h0]at h;exact absurd h h0
theorem z7(A:Option Addr)(r c:Nat)(t:List Int)(B:Option Addr)(n d:Nat)(l:List Pt)(w:World)(ht:eL w A r t)(hl:lP w B n l)(h0:cn t l=0) : Calls Tryz.prog 70 #[.agg #[.slice A r c],.slice B n d] w fun e w'=>∃v,e= .returned v/\w'.ownsRow w.heap.size 47 2 v (ua t l).length ((ua t l).flatMap n7)/\Below w.heap.size w w':=by
 obtain⟨k1,k2⟩:=uS h0;obtain⟨m1,m2,_,_,m3⟩:=wS k1;obtain⟨m4,m5⟩:=wQ k2;have hb0:=bB w (.cells #[.slice A r c] 59);have hbx:=cK.new w 59 #[.slice A r c];have q1:=hl.1;have q2:=ht.1;have e1:(ua t l).length=n:=by simp [ua,sn,k9,q1]
 have Q1:=Lib.hid q1;have Q2:=Lib.hid q2;have E1:=Lib.hid e1;clear h0 k1 k2 e1;go_enter Tryz.func70,Tryz.ntmps70
 go_wp2_with fail
 generalize w.alloc (.cells #[.slice A r c] 59)=w0 at*;refine(yq B n d l 117 _ (BP t) w0 (hl.bC hb0) oM m5 (fun args w=>enters_of Tryz.func117 kR rfl args w)
  (fun inn=>Hh _ A r c n t _ w0 hbx (ht.bC hb0) oM oM (t6 m5 inn) m3) (fun inn=>by simp [BP,pH,Q1.out])
  (fun inn x hx=>by have:=ym t _ false _ _ (t6 m5 inn) (fun y hy=>(m3 y hy).1) x hx;omega)).mono ?_
 rintro e w1 ⟨v,rfl,hown,hb1⟩;go_wp2
 go_ret
 exact⟨v,rfl,by rw [E1.out];exact⟨hown.1,by
  rcases hown.2 with h | ⟨g,cap,cur,hv,hg,rest⟩;·exact .inl h
  ·exact .inr ⟨g,cap,cur,hv,by have:=hb0.size;omega,rest⟩⟩,hb0.trans (hb1.mono hb0.size)⟩
theorem yQ(A:Option Addr)(r c:Nat)(t:List Int)(B:Option Addr)(n d:Nat)(l:List Pt)(w:World)(ht:eL w A r t)(hl:lP w B n l)(hr:r<=4611686018427387904)(hn:n<=4611686018427387904) : Calls Tryz.prog 22 #[.agg #[.slice A r c],.slice B n d] w fun e w'=>∃v,e= .returned (.tuple #[v,.int .i64 (cn t l)])/\w'.ownsRow w.heap.size 47 2 v (jN t l).length ((jN t l).flatMap n7)/\Below w.heap.size w w':=by
 have hb0:=bB w (.cells #[.slice A r c] 59);have hbx:=cK.new w 59 #[.slice A r c];by_cases h0:cn t l=0
 ·have e1:jN t l=ua t l:=by simp [jN,h0]
  have E1:=Lib.hid e1;have H0:=Lib.hid h0;clear e1 h0;go_enter Tryz.func22,Tryz.ntmps22
  go_wp2_with fail
  generalize w.alloc (.cells #[.slice A r c] 59)=w0 at*;refine(oV A r c t B n d l w0 (ht.bC hb0) hr (hl.bC hb0) hn).mono ?_;rintro e w1 ⟨rfl,hw1⟩;have hb1:=hb0.trans (hw1.mono hb0.size);have d1:w1.cell? ⟨w.heap.size,0,none⟩=some (.slice A r c):=(hbx.bC hw1).cell 0;rw [H0.out];go_wp2_with fail
  refine(z7 A r c t B n d l w1 (ht.bC hb1) (hl.bC hb1) H0.out).mono ?_;rintro e w2 ⟨v,rfl,hown,hw2⟩;go_wp2
  go_ret2
  refine⟨v,by rw [H0.out];rfl,?_,hb1.trans (hw2.mono hb1.size)⟩;rw [E1.out];refine⟨hown.1,?_⟩;rcases hown.2 with h | ⟨g,cap,cur,hv,hg,rest⟩;·exact .inl h
  ·exact .inr ⟨g,cap,cur,hv,by have:=hb1.size;omega,rest⟩
 ·have d0:(cn t l !=0)=true:=by simpa using h0
  have e1:jN t l=[]:=by simp [jN,h0]
  have E1:=Lib.hid e1;clear e1;go_enter Tryz.func22,Tryz.ntmps22
  go_wp2_with fail
  generalize w.alloc (.cells #[.slice A r c] 59)=w0 at*;refine(oV A r c t B n d l w0 (ht.bC hb0) hr (hl.bC hb0) hn).mono ?_;rintro e w1 ⟨rfl,hw1⟩;go_wp2
  go_ret2
  exact⟨_,rfl,by rw [E1.out];exact World.ownsRow_nil _ _ _ _,hb0.trans (hw1.mono hb0.size)⟩
end Go.Proofs.YtjmbpjlojjgggaaGreatDoor
