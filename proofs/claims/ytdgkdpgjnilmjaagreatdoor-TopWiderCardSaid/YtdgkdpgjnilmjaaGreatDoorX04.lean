/-
  Several texts in one: A region that draws its order, in a round of a range over a function: all its operations but the last few only read. The head is walked once, in the order of the text. No condition. .. What a tip reads and sweeps: the exported Read and Sweep. No condition but the sizes of slices.
-/
import Derived.Test.YtdgkdpgjnilmjaaGreatDoorProg
import Derived.Deep.RegionWith
import Derived.Deep.DeepMust
import Derived.Deep.RegionLaw
import Derived.Test.YtdgkdpgjnilmjaaGreatDoorMA
set_option maxRecDepth 100000
set_option maxHeartbeats 2000000
namespace Go.Dw
open Go.RowKit Go.Shelf
def iI(r:Option Nat):Fence:={Fence.wide with round:=r}
section
variable {P:Program}{ops:Array Oper}{md:Region.Mode}{w:World}{r:Option Nat}{m:Nat}
theorem ni{o:Oper}{a:Act}{K:Act->Prop}{K':Act->World->Prop}{Q':Exit->Act->World->Prop}(h:∀a,K a->K' a w)(hh:o.still P a w K):o.wpIn (iI r) m P a w K' Q':=by
  refine⟨fun _ _=>trivial,?_⟩
  have hs:o.semAt (iI r).round a.eval=execOp a.eval o\/∃c,o.op= .defer c:=by
    cases r with
    |none=>exact .inl rfl
    |some l=>
      by_cases hd:∃c,o.op= .defer c
      · exact .inr hd
      · exact .inl (Oper.semAt_some l a.eval o (fun c e=>hd ⟨c,e⟩))
  unfold Oper.still at hh
  rcases hs with hs | ⟨c,hc⟩
  · rw [hs]
    generalize (execOp a.eval o).run P w=x at*
    cases x with
    |ok n w'=>
      cases n <;> simp only [Oper.stillUpon]at hh <;> simp only [Oper.uponIn]
      case enter f args=>
        obtain⟨rfl,v,hc,hn⟩:=hh
        refine⟨fun h=>by simp [iI,Fence.wide]at h,?_⟩
        show CallsIn Fence.wide (m- 1) P f args w' _
        exact callsIn_wide.2 (hc.mono fun e w'' ⟨he,hw⟩=>by subst he;subst hw;exact h _ hn)
      all_goals (obtain⟨rfl,h2⟩:=hh;exact h _ h2)
    |halt x w'=>simp only [Oper.stillUpon]at hh
  · exfalso
    unfold execOp at hh
    rw [hc]at hh
    simp only [Sem.run_bind]at hh
    generalize (resolve a.eval c o.type).run P w=x at hh
    cases x with
    |ok d w'=>simp [Result.andThen,Oper.stillUpon]at hh
    |halt x w'=>simp [Result.andThen,Oper.stillUpon]at hh
theorem oV{i:Nat}{a:Act}{K:Act->Prop}{K':Act->World->Prop}{Q':Exit->Act->World->Prop}(h:∀a,K a->K' a w)(hh:stOp P ops w i K a):wpOpIn (iI r) m P ops Q' i K' a w:=by
 unfold stOp at hh;unfold wpOpIn;split;·rename_i ho;simp only [ho]at hh;exact h _ hh
 ·rename_i o ho;simp only [ho]at hh;split;·rename_i hw;simp only [hw,if_true]at hh;exact ni h hh
  ·rename_i hw;simp only [hw]at hh;exact⟨fun _ _=>trivial,h _ hh⟩
theorem iJ{n g:Nat}{L:Array Bool->Act->Prop}{Q':Exit->Act->World->Prop}(hL:∀listed a,L listed a->wpAnyIn (iI r) m P md ops Q' g listed a w) : ∀(f:Nat) (listed:Array Bool) (a:Act),wpAnyL P md ops w n L f listed a->wpAnyIn (iI r) m P md ops Q' (f+g) listed a w
 |0,listed,a,h=>by rw [Nat.zero_add];exact hL _ _ h
 |f+1,listed,a,h=>by rw [show f+1+g=(f+g)+1 by omega];exact⟨fun h0=>absurd h0 h.1,fun i hi=>oV (fun a' h'=>iJ hL f _ a' h') (h.2 i hi).2⟩
theorem jo{Q':Exit->Act->World->Prop}:∀(l:List Oper) (k:Nat) (listed:Array Bool) (a:Act) (w:World),(∀j,l[j]?=ops[k+j]?)-> Region.seqB md ops l.length k listed=true->wpListIn (iI r) m P ops Q' l a w->wpAnyIn (iI r) m P md ops Q' l.length listed a w
 | [],_,_,_,_,_,hB,h=>⟨by simpa [Region.seqB]using hB,h⟩
 |o::l,k,listed,a,w,hl,hB,h=>by
  have h0:ops[k]?=some o:=by simpa using (hl 0).symm
  simp only [List.length_cons,Region.seqB,Bool.and_eq_true,decide_eq_true_eq]at hB;refine⟨fun h1=>(by rw [hB.1]at h1;cases h1),fun i hi=> ?_⟩;rw [hB.1]at hi;have hik:i=k:=by simpa using hi
  subst hik;have hw:wpOpIn (iI r) m P ops Q' i (wpListIn (iI r) m P ops Q' l) a w:=by unfold wpOpIn;simp only [h0];exact h
  exact wpOpIn_mono (fun a' w' h'=>jo l (i+1) _ a' w' (fun j=>by have:=hl (j+1);simpa [Nat.add_assoc,Nat.add_comm 1 j]using this) hB.2 h') hw
theorem gN{id:Nat}{Q:Exit->Act->World->Prop}{a:Act}{w:World}{l:List Oper}(n:Nat)(hm:P.follows .mixedOrders=true)(hB:Region.lexTailB .any l.toArray n=true) (h:wpStill P l.toArray w.drew (fun a'=>wpListIn (iI r) m P l.toArray Q (l.drop n) a' w.drew) (l.take n) a):(Code.region id l.toArray true).wpIn (iI r) m P Q a w:=by
 simp only [Region.lexTailB,Bool.and_eq_true,decide_eq_true_eq]at hB;obtain⟨⟨⟨⟨hsel,hn⟩,hs⟩,hc⟩,hlex⟩:=hB;have hn':n< l.length:=by simpa using hn
 have htl:(l.take n).length=n:=by simp;omega
 have hdl:(l.drop n).length=l.toArray.size- n:=by simp
 have inv0:HeadInv .any l.toArray n (Array.replicate l.toArray.size false):= ⟨by simp,fun j oj _ hl=>(by rw [getD_replicate_false]at hl;cases hl),fun t _ ht=>getD_in (by simpa using ht) (getD_replicate_false _ _)⟩;have H:=wpAnyL_lex (md:= .any) (g:=l.toArray.size- n) hsel hs hc hn (l.take n) 0 _ a (fun j hj=>by
  have hj':j< n:=by rw [htl]at hj;exact hj
  simp [hj']) (by simpa using htl) inv0 (by rw [htl];exact hlex) h
 refine wpIn_region_any hm ?_;have:=iJ (r:=r) (m:=m) (Q':=Q) (g:=l.toArray.size- n) (fun listed a' hL=>by have:=jo (r:=r) (m:=m) (md:= .any) (Q':=Q) (l.drop n) n listed a' w.drew (fun j=>by simp [List.getElem?_drop]) (by rw [hdl];exact hL.1) hL.2;rwa [hdl]at this) _ _ _ H;rw [htl,show n+(l.toArray.size- n)=l.toArray.size by omega]at this;exact this
theorem iQ{id lp:Nat}{Q:Exit->Act->World->Prop}{a:Act}{w:World}{l:List Oper}(n:Nat)(hm:P.follows .mixedOrders=true)(hB:Region.lexTailB .any l.toArray n=true)
 (h:wpStill P l.toArray w.drew (fun a'=>wpListIn (Fence.wide.inRound lp) m P l.toArray Q (l.drop n) a' w.drew) (l.take n) a):(Code.region id l.toArray true).wpIn (Fence.wide.inRound lp) m P Q a w:=
 gN (r:=some lp) n hm hB h
end
end Go.Dw

namespace Go.Proofs.YtdgkdpgjnilmjaaGreatDoor
open Go.RowKit Go.Dw Go.Shelf
attribute [local go_sem] Oper.semAt_some
def eK(u i:Nat):Nat:=max (u- i) (i- u)
def aM(i r:Nat):Nat:=i+1- r
def eR(i n r:Nat):Nat:=min n (i+r)- aM i r
def tJ(i r k:Nat):Array Value:= #[.int .i64 ((aM i r:Int)+(k:Int)),.int .i64 (eK (aM i r+k) i:Nat)]
def gj(i n r:Nat):List (Array Value):=(List.range (eR i n r)).map (tJ i r)
theorem yF(bi br bn i n r:Nat)(hi:i<=65536)(hn:n<=65536)(hr:r<=65536)(w:World)(R:Nat->Prop)
    (h1:cn w bi 3 #[.int .i64 i]) (h2:cn w br 3 #[.int .i64 r]) (h3:cn w bn 3 #[.int .i64 n]) (r1:¬R bi) (r2:¬R br) (r3:¬R bn) :
    Iter Tryz.prog 79 #[.pointer (some ⟨bi,0,none⟩),.pointer (some ⟨br,0,none⟩),.pointer (some ⟨bn,0,none⟩)] (gj i n r) R w:=by
  intro l J Jx W hT hl hlW hJ hJx hY h0
  have hb:∀wr,aU (fun k=>R k\/k=l) W wr->wr.cell? ⟨bi,0,none⟩=some (.int .i64 i)/\wr.cell? ⟨br,0,none⟩=some (.int .i64 r)/\wr.cell? ⟨bn,0,none⟩=some (.int .i64 n):=fun wr ht=>
    ⟨(ht.box (hT.box h1 r1) (by rintro(e |e);exact r1 e;have:=h1.lt;omega)).cell 0,(ht.box (hT.box h2 r2) (by rintro(e |e);exact r2 e;have:=h2.lt;omega)).cell 0,
      (ht.box (hT.box h3 r3) (by rintro(e |e);exact r3 e;have:=h3.lt;omega)).cell 0⟩
  obtain⟨c1,c2,c3⟩:=hb W (aU.refl _ _)
  have e1:max (0:Int) ((i:Int)- (r:Int)+1)=((aM i r:Nat):Int):=by unfold aM;omega
  refine callsIn_of_wp Tryz.func79 rfl trivial ?_ rfl
  simp only [Tryz.ntmps79,List.size_toArray,List.length_cons,List.length_nil,Nat.reduceAdd,Nat.reduceSub,Array.replicate_succ,Array.replicate_zero,List.push_toArray,List.append_toArray,List.nil_append,List.cons_append]
  gi_wp2
  gi_loopw [5] (fun u wr=>∃k:Nat,k<=eR i n r/\u= .int .i64 ((aM i r:Int)+(k:Int))/\J k wr/\aU (fun k=>R k\/k=l) W wr) (fun u wr=>n- (intOf u).toNat)
  case atStart=>exact⟨0,Nat.zero_le _,rfl,h0,aU.refl _ _⟩
  case round=>
    obtain⟨k,hk,rfl,hJk,hTk⟩:=hrel
    obtain⟨d1,d2,d3⟩:=hb wr hTk
    have e2:min (n:Int) ((i:Int)+(r:Int))=((min n (i+r):Nat):Int):=by omega
    by_cases hlt:k< eR i n r
    · obtain⟨fn,tmps,assign,body,hy,hR⟩:=hY k (tJ i r k) wr (by simp [gj,hlt]) hTk.size hJk
      have e3:max ((aM i r:Int)+(k:Int)- (i:Int)) ((i:Int)- ((aM i r:Int)+(k:Int)))=((eK (aM i r+k) i:Nat):Int):=by unfold eK;omega
      have hlt':aM i r+k< min n (i+r):=by unfold eR at hlt;omega
      unfold tJ at hy
      gi_wp2
      refine hR.mono ?_
      rintro e W2 ⟨bb,rfl,hT2,hJ2,hJ3⟩
      cases bb
      rotate_left
      · gi_wp2
        go_roundw
        case rel=>exact⟨k+1,by omega,by go_num,hJ2 (by simp),hTk.trans hT2⟩
        case measure=>simp [intOf];omega
      · gi_wp2
        refine bodyPost_ret (results_none rfl _ _ _) rfl ?_
        exact⟨⟨_,rfl⟩,.inr ⟨k,by simpa [gj]using hlt,hJ3 (by simp)⟩⟩
    · have hge:min n (i+r)<=aM i r+k:=by unfold eR at hlt;omega
      have hk2:k=eR i n r:=by omega
      subst hk2
      gi_wp2
      go_end0
      exact⟨⟨_,rfl⟩,.inl (by simpa [gj]using hJk)⟩
theorem vv(i n r:Int)(w:World):Calls Tryz.prog 55 #[.int .i64 i,.int .i64 n,.int .i64 r] w fun e w'=> e= .returned (.func (.func 79) #[] #[.pointer (some ⟨w.heap.size,0,none⟩),.pointer (some ⟨w.heap.size+2,0,none⟩),.pointer (some ⟨w.heap.size+1,0,none⟩)])/\ cn w' w.heap.size 3 #[.int .i64 i]/\cn w' (w.heap.size+2) 3 #[.int .i64 r]/\cn w' (w.heap.size+1) 3 #[.int .i64 n]/\Below w.heap.size w w'/\w'.heap.size=w.heap.size+3:=by
 go_enter Tryz.func55,Tryz.ntmps55
 go_wp2
 go_ret
 have b1:=cn.new w 3 #[.int .i64 i];have b2:=cn.new (w.alloc (.cells #[.int .i64 i] 3)) 3 #[.int .i64 n];have b3:=cn.new ((w.alloc (.cells #[.int .i64 i] 3)).alloc (.cells #[.int .i64 n] 3)) 3 #[.int .i64 r];simp only [World.size_alloc]at b2 b3;exact⟨rfl,(b1.alloc _).alloc _,b3,b2.alloc _,(((Below.refl _ _).alloc (Nat.le_refl _) _).alloc (by simp) _).alloc (by simp;omega) _,by simp⟩
def Df(h t:List Int)(down:Bool)(i k:Nat):Array Value:= #[.int .i64 (gi h (aM i t.length+k)+(if down then- gi t (eK (aM i t.length+k) i)else gi t (eK (aM i t.length+k) i)))]
def mM(h t:List Int)(down:Bool)(i:Nat):List (Array Value):=(List.range (eR i h.length t.length)).map (Df h t down i)
theorem kU(bi bh bt bd i:Nat)(Ah At:Option Addr)(n ch r ct:Nat)(h t:List Int)(down:Bool)(w:World)(R:Nat->Prop) (hi:i< n) (hn:n<=65536) (hr:r<=65536) (h1:cn w bi 3 #[.int .i64 i]) (h2:cn w bh 50 #[.slice Ah n ch]) (h3:cn w bt 52 #[.slice At r ct]) (h4:cn w bd 4 #[.bool down]) (hh:dc w Ah n h) (ht:dc w At r t) (hhb:∀x∈h, -16777216<=x/\x<=16777216) (htb:∀x∈t,0<=x/\x<=16777216) (r1:¬R bi) (r2:¬R bh) (r3:¬R bt) (r4:¬R bd) (r5:∀b,Ah.map (·.block)=some b->¬R b) (r6:0< r->∀b,At.map (·.block)=some b->¬R b) (hR:∀k,R k->k< w.heap.size) : Iter Tryz.prog 54 #[.pointer (some ⟨bi,0,none⟩),.pointer (some ⟨bh,0,none⟩),.pointer (some ⟨bt,0,none⟩),.pointer (some ⟨bd,0,none⟩)] (mM h t down i) R w:=by
 intro l J Jx W hT hl hlW hJ hJx hY h0;have nl:∀b,b< w.heap.size->b≠l:=fun b hb=>by omega
 have tb:∀ {wr:World}{b ty}{cs},aU (fun k=>R k\/k=l) W wr->cn w b ty cs->¬R b->cn wr b ty cs:=fun ht hb hr=>ht.box (hT.box hb hr) (by rintro(e |e);exact hr e;exact nl _ hb.lt e);have c1:W.cell? ⟨bi,0,none⟩=some (.int .i64 i):=(hT.box h1 r1).cell 0;have c2:W.cell? ⟨bh,0,none⟩=some (.slice Ah n ch):=(hT.box h2 r2).cell 0;have c3:W.cell? ⟨bt,0,none⟩=some (.slice At r ct):=(hT.box h3 r3).cell 0;have hbW:=cn.new W 147 #[.func (.yield l) #[] #[]];have hb0:=bk W (.cells #[.func (.yield l) #[] #[]] 147);have d1:=(World.cell?_alloc_lt W (.cells #[.func (.yield l) #[] #[]] 147) ⟨bi,0,none⟩ (by have:=(hT.box h1 r1).lt;exact this)).trans c1;have d2:=(World.cell?_alloc_lt W (.cells #[.func (.yield l) #[] #[]] 147) ⟨bh,0,none⟩ (by have:=(hT.box h2 r2).lt;exact this)).trans c2;have d3:=(World.cell?_alloc_lt W (.cells #[.func (.yield l) #[] #[]] 147) ⟨bt,0,none⟩ (by have:=(hT.box h3 r3).lt;exact this)).trans c3;refine callsIn_of_wp_marks Tryz.func54 rfl trivial ?_ rfl;simp only [Tryz.ntmps54,List.size_toArray,List.length_cons,List.length_nil,Nat.reduceAdd,Nat.reduceSub,Array.replicate_succ,Array.replicate_zero,List.push_toArray,List.append_toArray,List.nil_append,List.cons_append];gi_wp2_with (gi_at_call 55;refine(callsIn_wide.2 (vv _ _ _ _)).mono ?_;rintro e w' ⟨rfl,e1,e2,e3,e4,e5⟩)
 have hT':aU (fun k=>R k\/k=l) W w':=aU.ic (nO hb0 e4 (by simp));have hBW:cn w' W.heap.size 147 #[.func (.yield l) #[] #[]]:=hbW.bl e4;rw [World.size_alloc]at*;refine um (gf:=79) rfl (enters_of Tryz.func79 kR rfl)
  (yF _ _ _ i n r oM oM oM w' (fun k=>R k\/k=l) e1 e2 e3 (by rintro(e |e);have:=hR _ e;have:=hT.size;omega;omega) (by rintro(e |e);have:=hR _ e;have:=hT.size;omega;omega) (by rintro(e |e);have:=hR _ e;have:=hT.size;omega;omega))
  (by rintro k (e |e);have:=hR _ e;have:=hT.size;omega;omega) (by intro x hx;simp [gj]at hx;obtain⟨k,_,rfl⟩:=hx;rfl)
  (fun k W'=>J k W'/\aU (fun k=>R k\/k=l) W W'/\cn W' W.heap.size 147 #[.func (.yield l) #[] #[]]) (fun k c W'=>c= .ret/\Jx k W')
  (fun k W1 W2 h hb=>⟨hJ k W1 W2 h.1 (hb.mono oM),h.2.1.later hb oM,h.2.2.below hb oM⟩)
  (fun k c W1 W2 h hb=>⟨h.1,hJx k W1 W2 h.2 (hb.mono oM)⟩) ⟨hJ 0 W w' h0 (nO hb0 (by rw [World.size_alloc];exact e4) (by simp)),hT',hBW⟩ ?hround ?hdone ?hstop
 case hround=>
  rintro l2 k x W2 hl2 hl2' hx ⟨hJ2,hT2,hB2⟩
  obtain⟨hk,rfl⟩:k< eR i n r/\tJ i r k=x:=by
   unfold gj at hx;rw [List.getElem?_map]at hx;by_cases hk:k< eR i n r;·rw [List.getElem?_range hk]at hx;exact⟨hk,by simpa using hx⟩
   ·rw [List.getElem?_eq_none (by simpa using hk)]at hx;cases hx
  unfold tJ
  gi_wp2
  refine⟨aU.refl _ _,fun W3 hT3=> ?_⟩
  have hb3:Below w'.heap.size W2 W3:=hT3.below (by have:=hT2.size;omega) (fun q hq=>by omega)
  have hT3':aU (fun q=>R q\/q=l) W W3:=hT2.later hb3 oM
  have hB3:=hB2.below hb3 oM
  have hJ3:=hJ k W2 W3.drew hJ2 (hb3.mono oM).drew
  have nl':∀ {A:Option Addr}{b},A.map (·.block)=some b->(∃b o,A=some (⟨b,o,none⟩:Addr)/\b< w.heap.size)->b≠l:=by rintro A b hA ⟨b',o,rfl,hb⟩;simp at hA;omega
  have hdk:eK (aM i r+k) i< r:=by unfold eK aM eR aM at *;omega
  have hlk:aM i r+k< n:=by unfold eR aM at *;omega
  obtain⟨bH,oH,rfl,hbH,hcH⟩:=ints_at hh hlk
  obtain⟨bT,oT,rfl,hbT,hcT⟩:=ints_at ht hdk
  have f1:W3.cell? ⟨bh,0,none⟩=some (.slice (some ⟨bH,oH,none⟩) n ch):=(tb hT3' h2 r2).cell 0
  have f2:W3.cell? ⟨bt,0,none⟩=some (.slice (some ⟨bT,oT,none⟩) r ct):=(tb hT3' h3 r3).cell 0
  have f3:W3.cell? ⟨bd,0,none⟩=some (.bool down):=(tb hT3' h4 r4).cell 0
  have f4:W3.cell? ⟨W.heap.size,0,none⟩=some (.func (.yield l) #[] #[]):=hB3.cell 0
  have f5:W3.cell? ⟨bH,oH+(aM i r+k),none⟩=some (.int .i64 (gi h (aM i r+k))):= ((hT3'.cell (p:=⟨bH,oH+(aM i r+k),none⟩) (by have:=hT.size;exact Nat.lt_of_lt_of_le hbH this) (by rintro(e |e);exact r5 _ rfl e;exact nl _ hbH e)).trans (hT.cell (p:=⟨bH,oH+(aM i r+k),none⟩) hbH (r5 _ rfl))).trans hcH
  have f6:W3.cell? ⟨bT,oT+eK (aM i r+k) i,none⟩=some (.int .i64 (gi t (eK (aM i r+k) i))):= ((hT3'.cell (p:=⟨bT,oT+eK (aM i r+k) i,none⟩) (by have:=hT.size;exact Nat.lt_of_lt_of_le hbT this) (by rintro(e |e);exact r6 oM _ rfl e;exact nl _ hbT e)).trans (hT.cell (p:=⟨bT,oT+eK (aM i r+k) i,none⟩) hbT (r6 oM _ rfl))).trans hcT
  have hl1:=hh.1
  have hl2:=ht.1
  have g1:=(dn.1 hhb) (aM i r+k) oM
  have g2:=(dn.1 htb) (eK (aM i r+k) i) oM
  obtain⟨fn,tmps,assign,body,hy,hRd⟩:=hY k (Df h t down i k) W3.drew (by subst hl2;subst hl1;simp [mM,hk]) hT3'.size hJ3
  unfold Df at hy
  rw [hl2]at hy
  have hw1:IntKind.i64.wrap (gi h (aM i r+k)+gi t (eK (aM i r+k) i))=gi h (aM i r+k)+gi t (eK (aM i r+k) i):=IntWalk.i64_in _ oM
  have hw2:IntKind.i64.wrap (gi h (aM i r+k)+ -gi t (eK (aM i r+k) i))=gi h (aM i r+k)+ -gi t (eK (aM i r+k) i):=IntWalk.i64_in _ oM
  have x1:(0:Int)<=(aM i r:Int)+(k:Int):=by omega
  have x2:(aM i r:Int)+(k:Int)< (n:Int):=by omega
  have x3:((aM i r:Int)+(k:Int)).toNat=aM i r+k:=by omega
  have HL1:=Lib.hid hl1
  have HL2:=Lib.hid hl2
  clear hl1 hl2 hcH hcT c1 c2 c3 d1 d2 d3
  cases down
  all_goals
   simp only [Bool.false_eq_true,if_false,if_true]at hy
   gi_wp2
   refine iQ 7 kR kR ?_
   simp only [List.take_succ_cons,List.take_zero,List.drop_succ_cons,List.drop_zero]
   repeat still_step
   refine wpStill_nil ?_
   gi_wp2
   refine(pK l2 hRd).mono ?_
   rintro e W4 ⟨bb,rfl,hT4,hJ4,hJ5⟩
   have hT4':aU (fun k=>R k\/k=l) W3 W4:=⟨hT4.os,hT4.tape,hT4.output,hT4.size,hT4.block⟩
   cases bb
   ·gi_wp2
    exact⟨hT4',rfl,hJ5 (by simp)⟩
   ·gi_wp2
    exact⟨hT4',hJ4 (by simp),hT3'.trans hT4',hT4'.box hB3 (by rintro(e |e);have:=hR _ e;have:=hT.size;omega;omega)⟩
 case hdone=>
  rintro D W2 ⟨hJ2,hT2,hB2⟩ hD hDd
  gi_wp2
  refine lI [D] (.inl rfl) rfl (by simp) (by simpa using hDd) (fun w=>results_none rfl _ _ _) (fun w4 ht4=>⟨⟨_,rfl⟩,.inl ?_⟩)
  have e:(mM h t down i).length=(gj i n r).length:=by simp [mM,gj,hh.1,ht.1]
  rw [e]
  exact hJ _ _ _ hJ2 (ht4.below (by have:=hT2.size;omega) (fun q hq=>by simp;omega))
 case hstop=>
  rintro D k c W2 hk ⟨rfl,hJ2⟩ hD hDd
  gi_wp2
  have hDl:D< W2.heap.size:=(Array.getElem?_eq_some_iff.1 hDd).1
  refine lI [D] (.inr rfl) rfl (by simp) (by simpa using hDd) (fun w=>results_none rfl _ _ _) (fun w4 ht4=>⟨⟨_,rfl⟩,.inr ⟨k,?_,?_⟩⟩)
  ·have e:(mM h t down i).length=(gj i n r).length:=by simp [mM,gj,hh.1,ht.1]
   rw [e];exact hk
  ·exact hJx _ _ _ hJ2 (ht4.below oM (fun q hq=>by simp;omega))
theorem oe(a b:Int)(w:World):Calls Tryz.prog 58 #[.int .i64 a,.int .i64 b] w fun e w'=>e= .returned (.bool (decide (a< b)))/\w=w':=by
 go_enter Tryz.func58,Tryz.ntmps58
 go_wp2
 go_ret
 exact⟨rfl,rfl⟩
theorem oh(a b:Int)(w:World):Calls Tryz.prog 57 #[.int .i64 a,.int .i64 b] w fun e w'=>e= .returned (.bool (decide (b< a)))/\w=w':=by
 go_enter Tryz.func57,Tryz.ntmps57
 go_wp2
 go_ret
 exact⟨rfl,rfl⟩
def gH(down:Bool)(x acc:Int):Int:=if down then max acc x else min acc x
def jR(down:Bool)(f:Int)(l:List Int):Int:=l.foldl (fun acc x=>gH down x acc) f
theorem nX(down:Bool)(bf:Nat)(hbf:bf=57/\down=true\/bf=58/\down=false)(f:Int)(vs:List Int)(gf:Nat)(lb:Array Value)(w:World)(eg:∀args w,(callFunc gf args).run Tryz.prog w= .ok (.enter gf args) w)
    (hit:∀R w',Below w.heap.size w w'->(∀k,R k->w.heap.size<=k/\k< w'.heap.size)->Iter Tryz.prog gf lb (vs.map fun v=> #[.int .i64 v]) R w') :
    Calls Tryz.prog 56 #[.int .i64 f,.func (.func gf) #[] lb,.func (.func bf) #[] #[]] w fun e w'=>e= .returned (.int .i64 (jR down f vs))/\Below w.heap.size w w':=by
  refine(callsIn_wide (n:=0)).1 ?_
  refine callsIn_of_wp_marks Tryz.func56 rfl trivial ?_ rfl
  simp only [Tryz.ntmps56,List.size_toArray,List.length_cons,List.length_nil,Nat.reduceAdd,Nat.reduceSub,Array.replicate_succ,Array.replicate_zero,List.push_toArray,List.append_toArray,List.nil_append,List.cons_append]
  gi_wp2
  have hb1:=cn.new w 2 #[.int .i64 f]
  have hb2:=cn.new (w.alloc (.cells #[.int .i64 f] 2)) 153 #[.func (.func bf) #[] #[]]
  have hb1':=hb1.alloc (.cells #[.func (.func bf) #[] #[]] 153)
  have hbl:=(bk w (.cells #[.int .i64 f] 2)).alloc (by simp) (.cells #[.func (.func bf) #[] #[]] 153)
  have hsz:((w.alloc (.cells #[.int .i64 f] 2)).alloc (.cells #[.func (.func bf) #[] #[]] 153)).heap.size=w.heap.size+2:=by simp
  rw [World.size_alloc]at hb2
  generalize (w.alloc (.cells #[.int .i64 f] 2)).alloc (.cells #[.func (.func bf) #[] #[]] 153)=w0 at*
  refine um (gf:=gf) rfl eg (hit (· =w.heap.size) w0 hbl (by intro k e;omega)) (by intro k e;omega) (by intro x hx;simp at hx;obtain⟨v,_,rfl⟩:=hx;rfl)
    (fun k W=>cn W w.heap.size 2 #[.int .i64 (jR down f (vs.take k))]/\cn W (w.heap.size+1) 153 #[.func (.func bf) #[] #[]]/\Below w.heap.size w W) (fun _ _ _=>False)
    (fun k W1 W2 h hb=>⟨h.1.below hb oM,h.2.1.below hb oM,h.2.2.trans (hb.mono oM)⟩) (fun _ _ _ _ h _=>h) ⟨by simpa [jR]using hb1',hb2,hbl⟩ ?hround ?hdone (fun _ _ _ _ _ h=>h.elim)
  case hround=>
    rintro l k x W hl hl' hx ⟨h1,h2,h3⟩
    obtain⟨hk,rfl⟩:∃hk:k< vs.length,#[.int .i64 vs[k]]=x:=by
      rw [List.getElem?_map]at hx
      by_cases hk:k< vs.length
      · rw [List.getElem?_eq_getElem hk]at hx;exact⟨hk,by simpa using hx⟩
      · rw [List.getElem?_eq_none oM]at hx;cases hx
    gi_wp2
    refine⟨aU.refl _ _,fun W3 hT3=> ?_⟩
    have h1':=hT3.box h1 oM
    have h2':=hT3.box h2 oM
    have h3':Below w.heap.size w W3:=h3.trans (hT3.below (by have:=h3.size;omega) (fun q hq=>by omega))
    have c1:=h1'.cell 0
    have c2:=h2'.cell 0
    have c3:=h1'.frozen 0
    have hs:jR down f (vs.take (k+1))=gH down vs[k] (jR down f (vs.take k)):=by
      rw [List.take_succ_eq_append_getElem hk,jR,List.foldl_append];rfl
    have HS:=Lib.hid hs
    clear hs hx
    simp only [List.getElem?_toArray,List.getElem?_cons_zero]at c1 c2
    generalize hacc:jR down f (vs.take k)=acc at*
    generalize vs[k]=x at*
    have Hacc:=Lib.hid hacc
    clear hacc
    rcases hbf with⟨rfl,rfl⟩ | ⟨rfl,rfl⟩
    · by_cases hlt:acc< x
      · have hd:decide (acc< x)=true:=by simpa using hlt
        gi_wp2_with (gi_at_call 57;refine(callsIn_wide.2 (oh _ _ _)).mono ?_;rintro e w' ⟨rfl,rfl⟩)
        refine⟨aU.setCell (R:=(· =w.heap.size)) (p:=⟨w.heap.size,0,none⟩) (aU.refl _ _) (fun _=>rfl) _,?_,h2'.I2 (by simp) _,h3'.setCell (Nat.le_refl _) _⟩
        have hb:=h1'.set 0 (.int .i64 x)
        simp only [List.setIfInBounds_toArray,List.set_cons_zero]at hb
        rw [HS.out,show gH true x acc=x by simp [gH];omega]
        exact hb
      · have hd:decide (acc< x)=false:=by simpa using hlt
        gi_wp2_with (gi_at_call 57;refine(callsIn_wide.2 (oh _ _ _)).mono ?_;rintro e w' ⟨rfl,rfl⟩)
        refine⟨aU.refl _ _,?_,h2',h3'⟩
        rw [HS.out,show gH true x acc=acc by simp [gH];omega]
        exact h1'
    · by_cases hlt:x< acc
      · have hd:decide (x< acc)=true:=by simpa using hlt
        gi_wp2_with (gi_at_call 58;refine(callsIn_wide.2 (oe _ _ _)).mono ?_;rintro e w' ⟨rfl,rfl⟩)
        refine⟨aU.setCell (R:=(· =w.heap.size)) (p:=⟨w.heap.size,0,none⟩) (aU.refl _ _) (fun _=>rfl) _,?_,h2'.I2 (by simp) _,h3'.setCell (Nat.le_refl _) _⟩
        have hb:=h1'.set 0 (.int .i64 x)
        simp only [List.setIfInBounds_toArray,List.set_cons_zero]at hb
        rw [HS.out,show gH false x acc=x by simp [gH];omega]
        exact hb
      · have hd:decide (x< acc)=false:=by simpa using hlt
        gi_wp2_with (gi_at_call 58;refine(callsIn_wide.2 (oe _ _ _)).mono ?_;rintro e w' ⟨rfl,rfl⟩)
        refine⟨aU.refl _ _,?_,h2',h3'⟩
        rw [HS.out,show gH false x acc=acc by simp [gH];omega]
        exact h1'
  case hdone=>
    rintro D W ⟨h1,h2,h3⟩ hD hDd
    have c1:=h1.cell 0
    simp only [List.getElem?_toArray,List.getElem?_cons_zero,List.length_map,List.take_length]at c1
    gi_wp2
    refine lI [D] (.inr rfl) rfl (by simp) (by simpa using hDd) (fun w=>results_tmp rfl _ _ _) (fun w4 ht4=>⟨rfl,?_⟩)
    exact h3.trans (ht4.below (by have:=h3.size;omega) (fun q hq=>by simp;omega))
theorem Al:∃i,pR Tryz.prog 50 2 i (.int .i64 0) 1 8:=DX Tryz.underlying50 kR rfl (by decide)
def iC(t h:List Int)(down:Bool)(i:Nat):Int:= jR down (gi h i) ((List.range (eR i h.length t.length)).map fun k=>gi h (aM i t.length+k)+(if down then- gi t (eK (aM i t.length+k) i)else gi t (eK (aM i t.length+k) i)))
def mT(t h:List Int)(down:Bool):List Int:=(List.range h.length).map (iC t h down)
def dN(t h:List Int)(down:Bool)(k:Nat):List Int:=(List.range h.length).map fun i=>if i< k then iC t h down i else 0
theorem uf(t h:List Int)(down:Bool):dN t h down 0=List.replicate h.length 0:=by apply List.ext_getElem <;> simp [dN]
theorem vV(t h:List Int)(down:Bool):dN t h down h.length=mT t h down:=by
 apply List.ext_getElem;·simp [dN,mT]
 ·intro i h1 h2;simp [dN,mT]at h1 ⊢;omega
theorem oR(t h:List Int)(down:Bool)(k:Nat):(dN t h down k).set k (iC t h down k)=dN t h down (k+1):=by
 apply List.ext_getElem;·simp [dN]
 ·intro i h1 h2;simp [dN]at h1 h2 ⊢;rw [List.getElem_set];by_cases e:k=i;·subst e;simp
  ·simp [e];by_cases h3:i< k;·simp [h3];intro h4;omega
   ·simp [h3];intro h4;omega
theorem jX(t h:List Int)(down:Bool)(k:Nat):(dN t h down k).length=h.length:=by simp [dN]
theorem tK(h t:List Int)(down:Bool)(i:Nat) : mM h t down i=((List.range (eR i h.length t.length)).map fun k=>gi h (aM i t.length+k)+(if down then- gi t (eK (aM i t.length+k) i)else gi t (eK (aM i t.length+k) i))).map fun v=> #[.int .i64 v]:=by simp [mM,Df]
theorem vW(At Ah:Option Addr)(r ct n ch:Nat)(t h:List Int)(down:Bool)(w:World)(hn:n<=65536)(hr:r<=65536)(ht:dc w At r t)(hh:dc w Ah n h) (hhb:∀x∈h, -16777216<=x/\x<=16777216) (htb:∀x∈t,0<=x/\x<=16777216) : Calls Tryz.prog 42 #[.agg #[.slice At r ct],.slice Ah n ch,.bool down] w fun e w'=>∃g,w.heap.size<=g/\e= .returned (.slice (some ⟨g,0,none⟩) n n)/\ cn w' g 2 (bz (mT t h down))/\Below w.heap.size w w':=by
 obtain⟨i0,hel⟩:=Al;have hmk:=fun W=>yC hel n oM oM W;go_enter Tryz.func42,Tryz.ntmps42
 go_wp2
 have b1:=((cn.new w 52 #[.slice At r ct]).alloc (.cells #[.slice Ah n ch] 50)).alloc (.cells #[.bool down] 4) |>.alloc (.cells (bz (List.replicate n 0)) 2)
 have b2:=((cn.new (w.alloc (.cells #[.slice At r ct] 52)) 50 #[.slice Ah n ch]).alloc (.cells #[.bool down] 4)).alloc (.cells (bz (List.replicate n 0)) 2);have b3:=(cn.new ((w.alloc (.cells #[.slice At r ct] 52)).alloc (.cells #[.slice Ah n ch] 50)) 4 #[.bool down]).alloc (.cells (bz (List.replicate n 0)) 2);have b4:=cn.new (((w.alloc (.cells #[.slice At r ct] 52)).alloc (.cells #[.slice Ah n ch] 50)).alloc (.cells #[.bool down] 4)) 2 (bz (List.replicate n 0));have hb0:=(((bk w (.cells #[.slice At r ct] 52)).alloc (by simp) (.cells #[.slice Ah n ch] 50)).alloc (by simp;omega) (.cells #[.bool down] 4)).alloc (by simp;omega) (.cells (bz (List.replicate n 0)) 2);have hs0:((((w.alloc (.cells #[.slice At r ct] 52)).alloc (.cells #[.slice Ah n ch] 50)).alloc (.cells #[.bool down] 4)).alloc (.cells (bz (List.replicate n 0)) 2)).heap.size=w.heap.size+1+1+1+1:=by simp
 simp only [World.size_alloc]at b1 b2 b3 b4;generalize (((w.alloc (.cells #[.slice At r ct] 52)).alloc (.cells #[.slice Ah n ch] 50)).alloc (.cells #[.bool down] 4)).alloc (.cells (bz (List.replicate n 0)) 2)=w0 at*;have hl1:h.length=n:=hh.1;rw [<-hl1,<-uf t h down]at b4;have Hl1:=Lib.hid hl1;clear hl1 hmk;have hh0:=hh.bl hb0;have ht0:=ht.bl hb0;have nA:∀b,Ah.map (·.block)=some b->0< n->b< w.heap.size:=fun b hb hn0=>by obtain⟨b',o,rfl,hb',_⟩:=hh.2.2 hn0;simp at hb;omega
 go_loopw [16] (fun kv wr=>∃k:Nat,k<=n/\kv= .int .i64 k/\cn wr (w.heap.size+1+1+1) 2 (bz (dN t h down k))/\aU (· =w.heap.size+1+1+1) w0 wr) (fun kv wr=>n- (intOf kv).toNat)
 case atStart=>exact⟨0,Nat.zero_le _,rfl,b4,aU.refl _ _⟩
 case round=>
  obtain⟨k,hk,rfl,hbo,hT⟩:=hrel
  have c1:=hT.box b1 oM
  have c2:=hT.box b2 oM
  have c3:=hT.box b3 oM
  have hbw:Below w.heap.size w wr:=hb0.trans (hT.below oM (fun q hq=>by omega))
  by_cases hlt:k< n
  ·have hhw:=hh.bl hbw;have htw:=ht.bl hbw;obtain⟨bH,oH,rfl,hbH,hcH⟩:=ints_at hhw hlt;have d3:wr.cell? ⟨w.heap.size+1+1,0,none⟩=some (.bool down):=c3.cell 0;have d2:wr.cell? ⟨w.heap.size+1,0,none⟩=some (.slice (some ⟨bH,oH,none⟩) n ch):=c2.cell 0;have l1:=c1.lt;have l2:=c2.lt;have l3:=c3.lt;have l4:=hbo.lt;have hx1:cn (wr.alloc (.cells #[.int .i64 k] 3)) wr.heap.size 3 #[.int .i64 k]:=cn.new _ _ _;have hx2:=bk wr (.cells #[.int .i64 k] 3);have hx3:=BF wr (.cells #[.int .i64 k] 3);cases down
   ·go_wp2
    generalize wr.alloc (.cells #[.int .i64 k] 3)=wx at*;have e1:=c1.below hx2 l1;have e2:=c2.below hx2 l2;have e3:=c3.below hx2 l3;have e4:=hbo.below hx2 l4;have hi:wx.cell? ⟨wr.heap.size,0,none⟩=some (.int .i64 k):=hx1.cell 0;have hbx:Below w.heap.size w wx:=hbw.trans (hx2.mono oM);have hit:∀(R:Nat->Prop) (w':World),Below wx.drew.heap.size wx.drew w'->(∀k,R k->wx.drew.heap.size<=k/\k< w'.heap.size)->
     Iter Tryz.prog 54 #[.pointer (some ⟨wr.heap.size,0,none⟩),.pointer (some ⟨w.heap.size+1,0,none⟩),.pointer (some ⟨w.heap.size,0,none⟩),.pointer (some ⟨w.heap.size+1+1,0,none⟩)] (((List.range (eR k h.length t.length)).map fun q=>gi h (aM k t.length+q)+(if false then- gi t (eK (aM k t.length+q) k)else gi t (eK (aM k t.length+q) k))).map fun v=> #[.int .i64 v]) R w':=fun R w' hb hR=>by
     have hb':Below wx.heap.size wx w':=dF hb
     have hsx:∀q,q< wx.heap.size->¬R q:=fun q hq e=>by have:=(hR q e).1;have:wx.heap.size<=q:=this;omega
     have:=hx1.lt
     rw [<-tK]
     refine kU _ _ _ _ k (some ⟨bH,oH,none⟩) At n ch r ct h t false w' R hlt hn hr (hx1.below hb' oM) (e2.below hb' oM) (e1.below hb' oM) (e3.below hb' oM) ((hh.bl hbx).below hb' (Nat.le_refl _)) ((ht.bl hbx).below hb' (Nat.le_refl _)) hhb htb (hsx _ oM) (hsx _ oM) (hsx _ oM) (hsx _ oM) ?_ ?_ (fun q e=>(hR q e).2)
     ·intro b hb2;simp at hb2;exact hsx _ oM
     ·intro hr0 b hb2;obtain⟨b',o,rfl,hb3,_⟩:=ht.2.2 hr0;simp at hb2;exact hsx _ (by have:=hbx.size;omega)
    have Hit:=Lib.hid hit;clear hit;go_region_with (go_at_call 56;refine(nX false 58 (.inr ⟨rfl,rfl⟩) _ _ 54 _ wx.drew (enters_of Tryz.func54 kR rfl) Hit.out).mono ?_;rintro e w' ⟨rfl,hbw'⟩;have q1:w'.cell? ⟨wr.heap.size,0,none⟩=some (.int .i64 k):=(hx1.below (w:=wx.drew) hbw' hx1.lt).cell 0;have q2:w'.cell? ⟨w.heap.size+1+1+1,k,none⟩=some (.int .i64 (gi (dN t h false k) k)):=((e4.below (w:=wx.drew) hbw' e4.lt).cell k).trans (cQ _ _ (by rw [jX,Hl1.out];exact hlt));have q3:w'.frozen? ⟨w.heap.size+1+1+1,k,none⟩=false:=(e4.below (w:=wx.drew) hbw' e4.lt).frozen k)
    all_goals
     have hbw2:Below wx.heap.size wx w':=dF hbw'
     go_wp2
     go_roundw
     case rel=>
      refine⟨k+1,by omega,by go_num,?_,?_⟩
      ·have hs:=(e4.below hbw2 e4.lt).set k (.int .i64 (iC t h false k));rw [e9,oR]at hs;simpa [iC]using hs
      ·exact((hT.trans (aU.ic hx2)).trans (aU.ic hbw2)).setCell (fun _=>rfl) _
     case measure=>simp [intOf];omega
   ·go_wp2
    generalize wr.alloc (.cells #[.int .i64 k] 3)=wx at*;have e1:=c1.below hx2 l1;have e2:=c2.below hx2 l2;have e3:=c3.below hx2 l3;have e4:=hbo.below hx2 l4;have hi:wx.cell? ⟨wr.heap.size,0,none⟩=some (.int .i64 k):=hx1.cell 0;have hbx:Below w.heap.size w wx:=hbw.trans (hx2.mono oM);have hit:∀(R:Nat->Prop) (w':World),Below wx.drew.heap.size wx.drew w'->(∀k,R k->wx.drew.heap.size<=k/\k< w'.heap.size)->
     Iter Tryz.prog 54 #[.pointer (some ⟨wr.heap.size,0,none⟩),.pointer (some ⟨w.heap.size+1,0,none⟩),.pointer (some ⟨w.heap.size,0,none⟩),.pointer (some ⟨w.heap.size+1+1,0,none⟩)] (((List.range (eR k h.length t.length)).map fun q=>gi h (aM k t.length+q)+(if true then- gi t (eK (aM k t.length+q) k)else gi t (eK (aM k t.length+q) k))).map fun v=> #[.int .i64 v]) R w':=fun R w' hb hR=>by
     have hb':Below wx.heap.size wx w':=dF hb
     have hsx:∀q,q< wx.heap.size->¬R q:=fun q hq e=>by have:=(hR q e).1;have:wx.heap.size<=q:=this;omega
     have:=hx1.lt
     rw [<-tK]
     refine kU _ _ _ _ k (some ⟨bH,oH,none⟩) At n ch r ct h t true w' R hlt hn hr (hx1.below hb' oM) (e2.below hb' oM) (e1.below hb' oM) (e3.below hb' oM) ((hh.bl hbx).below hb' (Nat.le_refl _)) ((ht.bl hbx).below hb' (Nat.le_refl _)) hhb htb (hsx _ oM) (hsx _ oM) (hsx _ oM) (hsx _ oM) ?_ ?_ (fun q e=>(hR q e).2)
     ·intro b hb2;simp at hb2;exact hsx _ oM
     ·intro hr0 b hb2;obtain⟨b',o,rfl,hb3,_⟩:=ht.2.2 hr0;simp at hb2;exact hsx _ (by have:=hbx.size;omega)
    have Hit:=Lib.hid hit;clear hit;go_region_with (go_at_call 56;refine(nX true 57 (.inl ⟨rfl,rfl⟩) _ _ 54 _ wx.drew (enters_of Tryz.func54 kR rfl) Hit.out).mono ?_;rintro e w' ⟨rfl,hbw'⟩;have q1:w'.cell? ⟨wr.heap.size,0,none⟩=some (.int .i64 k):=(hx1.below (w:=wx.drew) hbw' hx1.lt).cell 0;have q2:w'.cell? ⟨w.heap.size+1+1+1,k,none⟩=some (.int .i64 (gi (dN t h true k) k)):=((e4.below (w:=wx.drew) hbw' e4.lt).cell k).trans (cQ _ _ (by rw [jX,Hl1.out];exact hlt));have q3:w'.frozen? ⟨w.heap.size+1+1+1,k,none⟩=false:=(e4.below (w:=wx.drew) hbw' e4.lt).frozen k)
    all_goals
     have hbw2:Below wx.heap.size wx w':=dF hbw'
     go_wp2
     go_roundw
     case rel=>
      refine⟨k+1,by omega,by go_num,?_,?_⟩
      ·have hs:=(e4.below hbw2 e4.lt).set k (.int .i64 (iC t h true k));rw [e9,oR]at hs;simpa [iC]using hs
      ·exact((hT.trans (aU.ic hx2)).trans (aU.ic hbw2)).setCell (fun _=>rfl) _
     case measure=>simp [intOf];omega
  ·obtain rfl:k=n:=by omega
   go_wp2
   go_ret
   refine⟨_,?_,rfl,?_,hbw⟩;·omega
   ·rw [<-Hl1.out,vV]at hbo;exact hbo
def lX(inn:Bool)(p:Pt):Int:=if inn then- p.1 else p.2
def iE(inn:Bool)(n:Int):Int:=if inn then- n else n
theorem Bm(a b:Int)(w:World):Calls Tryz.prog 168 #[.agg #[],.agg #[.int .i64 a,.int .i64 b]] w fun e w'=>e= .returned (.int .i64 (lX false (a,b)))/\Below w.heap.size w w':=by
 go_enter Tryz.func168,Tryz.ntmps168
 go_wp2
 go_ret
 exact⟨rfl,(bk _ _).alloc (by simp) _⟩
theorem vB(n:Int)(w:World):Calls Tryz.prog 167 #[.agg #[],.int .i64 n] w fun e w'=>e= .returned (.int .i64 (iE false n))/\Below w.heap.size w w':=by
 go_enter Tryz.func167,Tryz.ntmps167
 go_wp2
 go_ret
 exact⟨rfl,bk _ _⟩
theorem AK(a b:Int)(w:World)(h: -1099511627776<=a/\a<=1099511627776):Calls Tryz.prog 170 #[.agg #[],.agg #[.int .i64 a,.int .i64 b]] w fun e w'=>e= .returned (.int .i64 (lX true (a,b)))/\Below w.heap.size w w':=by
 go_enter Tryz.func170,Tryz.ntmps170
 go_wp2
 go_ret
 exact⟨rfl,(bk _ _).alloc (by simp) _⟩
theorem vl(n:Int)(w:World)(h: -1099511627776<=n/\n<=1099511627776):Calls Tryz.prog 169 #[.agg #[],.int .i64 n] w fun e w'=>e= .returned (.int .i64 (iE true n))/\Below w.heap.size w w':=by
 go_enter Tryz.func169,Tryz.ntmps169
 go_wp2
 go_ret
 exact⟨rfl,bk _ _⟩
theorem pF(w:World):(method 391 145 (.agg #[]) "deadwax/play.of").run Tryz.prog w= .ok (168,.agg #[]) w:=by kernel_rfl
theorem m6(w:World):(method 391 145 (.agg #[]) "deadwax/play.back").run Tryz.prog w= .ok (167,.agg #[]) w:=by kernel_rfl
theorem pE(w:World):(method 391 146 (.agg #[]) "deadwax/play.of").run Tryz.prog w= .ok (170,.agg #[]) w:=by kernel_rfl
theorem m0(w:World):(method 391 146 (.agg #[]) "deadwax/play.back").run Tryz.prog w= .ok (169,.agg #[]) w:=by kernel_rfl
def FP(tf:Nat)(lb:Array Value)(thr:List Int->List Int)(n:Nat)(h:List Int)(w:World):Prop:=
  ∀(A:Option Addr) (c:Nat) (W:World),Below w.heap.size w W->dc W A n h->
    Calls Tryz.prog tf (#[.slice A n c]++lb) W fun e W'=>∃g,W.heap.size<=g/\e= .returned (.slice (some ⟨g,0,none⟩) n n)/\cn W' g 2 (bz (thr h))/\Below W.heap.size W W'
def cY(inn:Bool)(l:List Int)(k:Nat):List Int:=(List.range l.length).map fun i=>if i< k then iE inn (gi l i)else gi l i
theorem mA(inn:Bool)(l:List Int):cY inn l 0=l:=by
 apply List.ext_getElem;·simp [cY]
 ·intro i h1 h2;simp [cY,nZ h2]
theorem nM(inn:Bool)(l:List Int):cY inn l l.length=l.map (iE inn):=by
 apply List.ext_getElem;·simp [cY]
 ·intro i h1 h2;simp at h2;simp [cY,nZ h2,h2]
theorem ga(inn:Bool)(l:List Int)(k:Nat):(cY inn l k).length=l.length:=by simp [cY]
theorem pY(inn:Bool)(l:List Int)(k:Nat)(h:k< l.length):gi (cY inn l k) k=gi l k:=by rw [nZ (by rw [ga];exact h)];simp [cY]
theorem nN(inn:Bool)(l:List Int)(k:Nat):(cY inn l k).set k (iE inn (gi l k))=cY inn l (k+1):=by
 apply List.ext_getElem;·simp [cY]
 ·intro i h1 h2;simp [cY]at h1 h2 ⊢;rw [List.getElem_set];by_cases e:k=i;·subst e;simp
  ·simp [e];by_cases h3:i< k;·simp [h3];intro h4;omega
   ·simp [h3];intro h4;omega
theorem nP(inn:Bool)(it:Nat)(hit:it=146/\inn=true\/it=145/\inn=false)(a b:Nat)(A:Option Addr)(n c:Nat)(l:List Pt)(tf:Nat)(lb:Array Value)(thr:List Int->List Int)(w:World) (hl:jK w A n l) (hn:n<=4096) (hlb:∀p∈l, -4194304<=p.1/\p.1<=4194304/\ -4194304<=p.2/\p.2<=4194304) (ba:cn w a 47 #[.slice A n c]) (bb:cn w b 106 #[.func (.func tf) #[] lb]) (eg:∀args w,(callFunc tf args).run Tryz.prog w= .ok (.enter tf args) w) (ht:FP tf lb thr n (l.map (lX inn)) w) (hth:(thr (l.map (lX inn))).length=n) (htb:∀x∈thr (l.map (lX inn)), -1099511627776<=x/\x<=1099511627776) : Calls Tryz.prog 53 #[.iface it (.agg #[]),.pointer (some ⟨a,0,none⟩),.pointer (some ⟨b,0,none⟩)] w fun e w'=>∃g,w.heap.size<=g/\e= .returned (.slice (some ⟨g,0,none⟩) n n)/\ cn w' g 2 (bz ((thr (l.map (lX inn))).map (iE inn)))/\Below w.heap.size w w':=by
 obtain⟨i0,hel⟩:=Al;have la:=ba.lt;have lb':=bb.lt;have c1:w.cell? ⟨a,0,none⟩=some (.slice A n c):=ba.cell 0;have hl1:=hl.1;have Hl1:=Lib.hid hl1;clear hl1;go_enter Tryz.func53,Tryz.ntmps53
 go_wp2
 have Hit:=Lib.hid hit;clear hit;rcases Hit.out with⟨rfl,rfl⟩ | ⟨rfl,rfl⟩
 ·go_region
  go_wp2
  have hd0:Below w.heap.size w w.drew:=(Below.refl _ _).drew;generalize w.drew=w0 at*;go_loopw [7,19] (fun v kv wr=>∃k:Nat,k<=n/\kv= .int .i64 k/\wr.ownsRow w.heap.size 2 1 v k (((l.map (lX true)).take k).flatMap vc)/\Below w.heap.size w wr) (fun v kv wr=>n- (intOf kv).toNat)
  case atStart=>exact⟨0,Nat.zero_le _,rfl,World.ownsRow_nil _ _ _ _,hd0⟩
  case round=>
   obtain⟨k,hk,rfl,hown,hbl⟩:=hrel
   by_cases hlt:k< n
   ·obtain⟨bP,oP,rfl,hbP,hc1,hc2⟩:=vE (hl.bl hbl) hlt;have hpb:=(qc.1 hlb) k (by rw [Hl1.out];exact hlt);have hx1:cn (wr.alloc (.cells #[.int .i64 (gp l k).1,.int .i64 (gp l k).2] 54)) wr.heap.size 54 #[.int .i64 (gp l k).1,.int .i64 (gp l k).2]:=cn.new _ _ _;have hx2:=bk wr (.cells #[.int .i64 (gp l k).1,.int .i64 (gp l k).2] 54);have m1:=fun w=>pE w;go_wp2_with (first
     | (go_at_call 170;refine(AK _ _ _ oM).mono ?_;rintro e w1 ⟨rfl,hw1⟩;have hown1:=ig (ig hown hx2) hw1;have hbl1:=(hbl.trans (hx2.mono hbl.size)).trans (hw1.mono (by have:=hbl.size;simp;omega)))
     | (at_builtin;go_loud (refine mU hel rfl _ _ rfl rfl (hown1.alloc _) rfl (cn.new w1 2 _) rfl (by intro u hu;simp at hu;subst hu;rfl) oM (by decide) (by have:=hbl1.size;simp;omega) ?_);intro v' w2 hown2 hg2))
    go_roundw
    case rel=>
     refine⟨k+1,by omega,by go_num,?_,?_⟩
     ·have e:(l.map (lX true)).take (k+1)=(l.map (lX true)).take k++[lX true (gp l k)]:=by rw [List.take_succ_eq_append_getElem (by simp [Hl1.out,hlt])];simp [jU (l:=l) (k:=k) (by rw [Hl1.out];exact hlt)]
      rw [e,List.flatMap_append];simpa [vc]using hown2
     ·exact(hbl1.alloc hbl1.size _).grown hg2 (by have:=hbl1.size;simp;omega) (fun g e=>by have:=hown1.lt g e;omega)
    case measure=>simp [intOf];omega
   ·obtain rfl:k=n:=by omega
    obtain⟨A',c',rfl⟩:=ot hown;rw [List.take_of_length_le (by simp [Hl1.out])]at hown;have hin:dc wr A' k (l.map (lX true)):=eF.vA sW Nat.one_pos hown;have d2:wr.cell? ⟨b,0,none⟩=some (.func (.func tf) #[] lb):=(bb.bl hbl).cell 0;go_wp2_with fail
    refine(ht A' c' wr hbl hin).mono ?_;rintro e w1 ⟨g,hg,rfl,hbg,hb1⟩;have hb2:Below w.heap.size w w1:=hbl.trans (hb1.mono hbl.size);generalize hL:thr (l.map (lX true))=L at*;have HL:=Lib.hid hL;have Hth:=Lib.hid hth;clear hL hth ht;go_wp2
    go_loopw [35] (fun kv wr2=>∃q:Nat,q<=k/\kv= .int .i64 q/\cn wr2 g 2 (bz (cY true L q))/\Below w.heap.size w wr2) (fun kv wr2=>k- (intOf kv).toNat)
    case atStart=>exact⟨0,Nat.zero_le _,rfl,by rw [mA];exact hbg,hb2⟩
    case round=>
     obtain⟨q,hq,rfl,hbq,hbw⟩:=hrel
     by_cases hqk:q< k
     ·have f1:wr.cell? ⟨g,q,none⟩=some (.int .i64 (gi L q)):=by rw [hbq.cell,cQ _ _ (by rw [ga,Hth.out];exact hqk),pY _ _ _ (by rw [Hth.out];exact hqk)]
      have hqb:=(dn.1 htb) q (by rw [Hth.out];exact hqk);have m2:=fun w=>m0 w;have hbq2:∀w',Below wr.heap.size wr w'->w'.cell? ⟨g,q,none⟩=some (.int .i64 (gi L q))/\w'.frozen? ⟨g,q,none⟩=false:=fun w' hb=>⟨(hb.cell (p:=⟨g,q,none⟩) hbq.lt).trans f1,(hbq.bl hb).frozen q⟩;go_wp2_with (go_at_call 169;refine(vl _ _ oM).mono ?_;rintro e w2 ⟨rfl,hw2⟩;obtain⟨f2,f3⟩:=hbq2 w2 hw2)
      go_roundw
      case rel=>
       refine⟨q+1,by omega,by go_num,?_,?_⟩
       ·have hs:=(hbq.bl hw2).set q (.int .i64 (iE true (gi L q)));rw [e9,nN]at hs;exact hs
       ·exact(hbw.trans (hw2.mono hbw.size)).setCell (p:=⟨g,q,none⟩) (by have:=hbl.size;simp;omega) _
      case measure=>simp [intOf];omega
     ·obtain rfl:q=k:=by omega
      go_wp2
      go_ret
      refine⟨g,by have:=hbl.size;omega,rfl,?_,hbw⟩;have:=Hth.out;rw [<-this,nM]at hbq;rw [HL.out];exact hbq
 ·go_region
  go_wp2
  have hd0:Below w.heap.size w w.drew:=(Below.refl _ _).drew;generalize w.drew=w0 at*;go_loopw [7,19] (fun v kv wr=>∃k:Nat,k<=n/\kv= .int .i64 k/\wr.ownsRow w.heap.size 2 1 v k (((l.map (lX false)).take k).flatMap vc)/\Below w.heap.size w wr) (fun v kv wr=>n- (intOf kv).toNat)
  case atStart=>exact⟨0,Nat.zero_le _,rfl,World.ownsRow_nil _ _ _ _,hd0⟩
  case round=>
   obtain⟨k,hk,rfl,hown,hbl⟩:=hrel
   by_cases hlt:k< n
   ·obtain⟨bP,oP,rfl,hbP,hc1,hc2⟩:=vE (hl.bl hbl) hlt;have hpb:=(qc.1 hlb) k (by rw [Hl1.out];exact hlt);have hx1:cn (wr.alloc (.cells #[.int .i64 (gp l k).1,.int .i64 (gp l k).2] 54)) wr.heap.size 54 #[.int .i64 (gp l k).1,.int .i64 (gp l k).2]:=cn.new _ _ _;have hx2:=bk wr (.cells #[.int .i64 (gp l k).1,.int .i64 (gp l k).2] 54);have m1:=fun w=>pF w;go_wp2_with (first
     | (go_at_call 168;refine(Bm _ _ _).mono ?_;rintro e w1 ⟨rfl,hw1⟩;have hown1:=ig (ig hown hx2) hw1;have hbl1:=(hbl.trans (hx2.mono hbl.size)).trans (hw1.mono (by have:=hbl.size;simp;omega)))
     | (at_builtin;go_loud (refine mU hel rfl _ _ rfl rfl (hown1.alloc _) rfl (cn.new w1 2 _) rfl (by intro u hu;simp at hu;subst hu;rfl) oM (by decide) (by have:=hbl1.size;simp;omega) ?_);intro v' w2 hown2 hg2))
    go_roundw
    case rel=>
     refine⟨k+1,by omega,by go_num,?_,?_⟩
     ·have e:(l.map (lX false)).take (k+1)=(l.map (lX false)).take k++[lX false (gp l k)]:=by rw [List.take_succ_eq_append_getElem (by simp [Hl1.out,hlt])];simp [jU (l:=l) (k:=k) (by rw [Hl1.out];exact hlt)]
      rw [e,List.flatMap_append];simpa [vc]using hown2
     ·exact(hbl1.alloc hbl1.size _).grown hg2 (by have:=hbl1.size;simp;omega) (fun g e=>by have:=hown1.lt g e;omega)
    case measure=>simp [intOf];omega
   ·obtain rfl:k=n:=by omega
    obtain⟨A',c',rfl⟩:=ot hown;rw [List.take_of_length_le (by simp [Hl1.out])]at hown;have hin:dc wr A' k (l.map (lX false)):=eF.vA sW Nat.one_pos hown;have d2:wr.cell? ⟨b,0,none⟩=some (.func (.func tf) #[] lb):=(bb.bl hbl).cell 0;go_wp2_with fail
    refine(ht A' c' wr hbl hin).mono ?_;rintro e w1 ⟨g,hg,rfl,hbg,hb1⟩;have hb2:Below w.heap.size w w1:=hbl.trans (hb1.mono hbl.size);generalize hL:thr (l.map (lX false))=L at*;have HL:=Lib.hid hL;have Hth:=Lib.hid hth;clear hL hth ht;go_wp2
    go_loopw [35] (fun kv wr2=>∃q:Nat,q<=k/\kv= .int .i64 q/\cn wr2 g 2 (bz (cY false L q))/\Below w.heap.size w wr2) (fun kv wr2=>k- (intOf kv).toNat)
    case atStart=>exact⟨0,Nat.zero_le _,rfl,by rw [mA];exact hbg,hb2⟩
    case round=>
     obtain⟨q,hq,rfl,hbq,hbw⟩:=hrel
     by_cases hqk:q< k
     ·have f1:wr.cell? ⟨g,q,none⟩=some (.int .i64 (gi L q)):=by rw [hbq.cell,cQ _ _ (by rw [ga,Hth.out];exact hqk),pY _ _ _ (by rw [Hth.out];exact hqk)]
      have hqb:=(dn.1 htb) q (by rw [Hth.out];exact hqk);have m2:=fun w=>m6 w;have hbq2:∀w',Below wr.heap.size wr w'->w'.cell? ⟨g,q,none⟩=some (.int .i64 (gi L q))/\w'.frozen? ⟨g,q,none⟩=false:=fun w' hb=>⟨(hb.cell (p:=⟨g,q,none⟩) hbq.lt).trans f1,(hbq.bl hb).frozen q⟩;go_wp2_with (go_at_call 167;refine(vB _ _).mono ?_;rintro e w2 ⟨rfl,hw2⟩;obtain⟨f2,f3⟩:=hbq2 w2 hw2)
      go_roundw
      case rel=>
       refine⟨q+1,by omega,by go_num,?_,?_⟩
       ·have hs:=(hbq.bl hw2).set q (.int .i64 (iE false (gi L q)));rw [e9,nN]at hs;exact hs
       ·exact(hbw.trans (hw2.mono hbw.size)).setCell (p:=⟨g,q,none⟩) (by have:=hbl.size;simp;omega) _
      case measure=>simp [intOf];omega
     ·obtain rfl:q=k:=by omega
      go_wp2
      go_ret
      refine⟨g,by have:=hbl.size;omega,rfl,?_,hbw⟩;have:=Hth.out;rw [<-this,nM]at hbq;rw [HL.out];exact hbq
theorem Gb:∃i,pR Tryz.prog 47 54 i (.agg #[.int .i64 0,.int .i64 0]) 2 16:=DX Tryz.underlying47 kR rfl (by decide)
theorem FP.later{tf:Nat}{lb:Array Value}{thr:List Int->List Int}{n:Nat}{h:List Int}{w w':World}(ht:FP tf lb thr n h w)(hb:Below w.heap.size w w'):FP tf lb thr n h w':= fun A c W hW hi=>ht A c W (hb.trans (hW.mono hb.size)) hi
def jm(n:Nat)(li lo:List Int):List Pt:=(List.range n).map fun i=>(gi li i,gi lo i)
theorem uh(n:Nat)(li lo:List Int):jm (n+1) li lo=jm n li lo++[(gi li n,gi lo n)]:=by simp [jm,List.range_succ]
def oS(thr:List Int->List Int)(l:List Pt):List Pt:= jm l.length ((thr (l.map (lX true))).map (iE true)) ((thr (l.map (lX false))).map (iE false))
theorem uj(A:Option Addr)(n c:Nat)(l:List Pt)(tf:Nat)(lb:Array Value)(thr:List Int->List Int)(w:World) (hl:jK w A n l) (hn:n<=4096) (hlb:∀p∈l, -4194304<=p.1/\p.1<=4194304/\ -4194304<=p.2/\p.2<=4194304) (eg:∀args w,(callFunc tf args).run Tryz.prog w= .ok (.enter tf args) w) (ht:∀inn,FP tf lb thr n (l.map (lX inn)) w) (hth:∀inn,(thr (l.map (lX inn))).length=n) (htb:∀inn,∀x∈thr (l.map (lX inn)), -1099511627776<=x/\x<=1099511627776) : Calls Tryz.prog 40 #[.slice A n c,.func (.func tf) #[] lb] w fun e w'=>∃v,e= .returned v/\w'.ownsRow w.heap.size 54 2 v n ((oS thr l).flatMap lH)/\Below w.heap.size w w':=by
 obtain⟨i0,hel⟩:=Gb;have b1:=(cn.new w 47 #[.slice A n c]).alloc (.cells #[.func (.func tf) #[] lb] 106);have b2:=cn.new (w.alloc (.cells #[.slice A n c] 47)) 106 #[.func (.func tf) #[] lb];have hb:=(bk w (.cells #[.slice A n c] 47)).alloc (by simp) (.cells #[.func (.func tf) #[] lb] 106);have hs:((w.alloc (.cells #[.slice A n c] 47)).alloc (.cells #[.func (.func tf) #[] lb] 106)).heap.size=w.heap.size+1+1:=by simp
 simp only [World.size_alloc]at b2;have Heg:=Lib.hid eg;clear eg;go_enter Tryz.func40,Tryz.ntmps40
 go_wp2_with fail
 generalize (w.alloc (.cells #[.slice A n c] 47)).alloc (.cells #[.func (.func tf) #[] lb] 106)=w0 at*;refine(nP false _ (.inr ⟨rfl,rfl⟩) _ _ A n c l tf lb thr w0 (hl.bl hb) hn hlb b1 b2 Heg.out ((ht false).later hb) (hth false) (htb false)).mono ?_;rintro e w1 ⟨go,hgo,rfl,hbo,hb1⟩;have b1':=b1.bl hb1;have b2':=b2.bl hb1;have hb':Below w.heap.size w w1:=hb.trans (hb1.mono oM);go_wp2_with fail
 refine(nP true _ (.inl ⟨rfl,rfl⟩) _ _ A n c l tf lb thr w1 (hl.bl hb') hn hlb b1' b2' Heg.out ((ht true).later hb') (hth true) (htb true)).mono ?_;rintro e w2 ⟨gn,hgn,rfl,hbn,hb2⟩;have hbo2:=hbo.bl hb2;have hb'':Below w.heap.size w w2:=hb'.trans (hb2.mono hb'.size);generalize hLo:(thr (l.map (lX false))).map (iE false)=Lo at*;generalize hLi:(thr (l.map (lX true))).map (iE true)=Li at*;have HLo:=Lib.hid hLo;have HLi:=Lib.hid hLi;have hlo:Lo.length=n:=by rw [<-hLo];simp [hth]
 have hli:Li.length=n:=by rw [<-hLi];simp [hth]
 have Hlo:=Lib.hid hlo;have Hli:=Lib.hid hli;have Hht:=Lib.hid ht;have Hhth:=Lib.hid hth;have b1'':w2.cell? ⟨w.heap.size,0,none⟩=some (.slice A n c):=(b1'.bl hb2).cell 0;clear hLo hLi hlo hli ht hth;go_wp2
 have hg1:w.heap.size<=go:=by omega
 have hg2:w.heap.size<=gn:=by have:=hb1.size;omega
 go_loopw [8,21] (fun v kv wr=>∃k:Nat,k<=n/\kv= .int .i64 k/\wr.ownsRow w.heap.size 54 2 v k ((jm k Li Lo).flatMap lH)/\cn wr go 2 (bz Lo)/\cn wr gn 2 (bz Li)/\Below w.heap.size w wr) (fun v kv wr=>n- (intOf kv).toNat)
 case atStart=>exact⟨0,Nat.zero_le _,rfl,World.ownsRow_nil _ _ _ _,hbo2,hbn,hb''⟩
 case round=>
  obtain⟨k,hk,rfl,hown,hbo,hbn,hbl⟩:=hrel
  by_cases hlt:k< n
  ·have f1:wr.cell? ⟨go,k,none⟩=some (.int .i64 (gi Lo k)):=(hbo.cell k).trans (cQ _ _ (by rw [Hlo.out];exact hlt));have f2:wr.cell? ⟨gn,k,none⟩=some (.int .i64 (gi Li k)):=(hbn.cell k).trans (cQ _ _ (by rw [Hli.out];exact hlt));go_wp2
   have hown1:wr.drew.ownsRow w.heap.size 54 2 u8 k ((jm k Li Lo).flatMap lH):=hown;have hbo1:cn wr.drew go 2 (bz Lo):=hbo;have hbn1:cn wr.drew gn 2 (bz Li):=hbn;have hbl1:Below w.heap.size w wr.drew:=hbl.drew;go_region_law (refine y6 hel rfl _ _ rfl rfl (hown1.alloc _) rfl (cn.new wr.drew 54 _) rfl (by intro u hu;simp at hu;rcases hu with rfl |rfl <;> rfl) oM (by decide) (Nat.le_trans hbl1.size (by simp)) ?_;intro v' w2 hown2 hg2)
   all_goals
    go_wp2
    go_roundw
    case rel=>
     refine⟨k+1,by omega,by go_num,?_,?_,?_,?_⟩
     ·rw [uh,List.flatMap_append];exact hown2
     ·exact(hbo1.alloc _).grown hg2 (fun e=>Bn hown1 hbo1 (by decide) _ e.symm rfl)
     ·exact(hbn1.alloc _).grown hg2 (fun e=>Bn hown1 hbn1 (by decide) _ e.symm rfl)
     ·exact(hbl1.alloc hbl1.size _).grown hg2 (Nat.le_trans hbl1.size (by simp)) (fun g e=>by have:=hown1.lt g e;omega)
    case measure=>simp [intOf];omega
  ·obtain rfl:k=n:=by omega
   go_wp2
   go_ret
   refine⟨_,rfl,?_,hbl⟩;have e:oS thr l=jm k Li Lo:=by rw [oS,HLo.out,HLi.out,hl.1]
   rw [e];exact hown
def jG(x lo hi:Int):Bool:=decide (lo<=x) && decide (x<=hi)
def iF(p:Pt):Bool:=jG p.1 (-4194304) 4194304 && jG p.2 (-4194304) 4194304
theorem yj(p:Pt):iF p=true<-> -4194304<=p.1/\p.1<=4194304/\ -4194304<=p.2/\p.2<=4194304:=by simp [iF,jG];omega
def cJ(l:List Pt):Int:=if 4096< l.length then 6 else if l.all iF then 0 else 2
theorem sP{l:List Pt}(h:cJ l=0):l.length<=4096/\∀p∈l, -4194304<=p.1/\p.1<=4194304/\ -4194304<=p.2/\p.2<=4194304:=by
 unfold cJ at h;split at h;·omega
 ·split at h;·rename_i h2;exact⟨by omega,fun p hp=>(yj p).1 (List.all_eq_true.1 h2 p hp)⟩
  ·omega
theorem o6(x lo hi:Int)(w:World):Calls Tryz.prog 78 #[.int .i64 x,.int .i64 lo,.int .i64 hi] w fun e w'=>e= .returned (.bool (jG x lo hi))/\w=w':=by
 go_enter Tryz.func78,Tryz.ntmps78
 go_wp2
 all_goals
  go_ret
  refine⟨?_,rfl⟩
  simp [jG, *]
 omega
theorem sV(a b:Int)(w:World):Calls Tryz.prog 52 #[.agg #[.int .i64 a,.int .i64 b]] w fun e w'=>e= .returned (.bool (iF (a,b)))/\Below w.heap.size w w':=by
 have hb:=bk w (.cells #[.int .i64 a,.int .i64 b] 54);cases h:jG a (-4194304) 4194304;all_goals
  go_enter Tryz.func52,Tryz.ntmps52
  go_wp2_with ((with_reducible refine(o6 _ _ _ _).mono ?_);rintro e w' ⟨rfl,rfl⟩)
  go_ret
  exact⟨by simp [iF,h],hb⟩
theorem o5{l:List Pt}{k:Nat}(h:k< l.length):(l.take (k+1)).all iF=((l.take k).all iF && iF (gp l k)):=by rw [rQ h,List.all_append];simp
theorem qU{l:List Pt}{k:Nat}(h4:¬4096< l.length)(hk:k< l.length)(h:iF (gp l k)=false):cJ l=2:=by unfold cJ;rw [if_neg h4,if_neg];intro ha;have:=List.all_eq_true.1 ha (gp l k) (Az hk);rw [h]at this;cases this
theorem o7{l:List Pt}(h4:¬4096< l.length)(h:l.all iF=true):cJ l=0:=by unfold cJ;rw [if_neg h4,if_pos h]
theorem nQ(A:Option Addr)(n c:Nat)(l:List Pt)(w:World)(hl:jK w A n l)(hn:n<=4611686018427387904) : Calls Tryz.prog 39 #[.slice A n c] w fun e w'=>e= .returned (.int .i64 (cJ l))/\Below w.heap.size w w':=by
 have hl1:=hl.1;by_cases h4:4096< n
 ·go_enter Tryz.func39,Tryz.ntmps39
  go_wp2
  go_ret
  exact⟨eE (by rw [cJ,if_pos oM]),Below.refl _ _⟩
 ·have Hl:=Lib.hid hl1;clear hl1;go_enter Tryz.func39,Tryz.ntmps39
  go_wp2
  go_loopw [10] (fun i wr=>∃k:Nat,k<=n/\i= .int .i64 k/\(l.take k).all iF=true/\Below w.heap.size w wr) (fun i _=>n- (intOf i).toNat)
  case atStart=>exact⟨0,Nat.zero_le _,rfl,rfl,Below.refl _ _⟩
  case round=>
   obtain⟨k,hk,rfl,hall,hbl⟩:=hrel
   have Hall:=Lib.hid hall
   clear hall
   by_cases hlt:k< n
   ·obtain⟨b,o,rfl,hb,hc1,hc2⟩:=vE (hl.bl hbl) hlt;have hx:=hbl.trans ((bk wr (.cells #[.int .i64 (gp l k).1,.int .i64 (gp l k).2] 54)).mono hbl.size);cases he:iF ((gp l k).1,(gp l k).2);all_goals
     have He:=Lib.hid he
     clear he
     go_wp2_with ((with_reducible refine(sV _ _ _).mono ?_);rintro e w' ⟨rfl,hw'⟩;rw [He.out])
    ·go_ret
     exact⟨eE (by rw [qU (by rw [Hl.out];exact h4) (by rw [Hl.out];exact hlt) He.out]),hx.trans (hw'.mono hx.size)⟩
    ·go_roundw
     case rel=>exact⟨k+1,by omega,by go_num,by rw [o5 (by rw [Hl.out];exact hlt),Hall.out];exact He.out,hx.trans (hw'.mono hx.size)⟩
     case measure=>simp [intOf];omega
   ·obtain rfl:k=n:=by omega
    go_wp2
    go_ret
    have h:=Hall.out;rw [List.take_of_length_le (by rw [Hl.out];exact Nat.le_refl _)]at h;exact⟨eE (by rw [o7 (by rw [Hl.out];exact h4) h]),hbl⟩
def dj(t:List Int)(k:Nat):Bool:=if k=0 then gi t 0 !=0 else decide (gi t k< gi t (k- 1)) || decide (4194304< gi t k)
def bY(t:List Int):Int:=if t.length=0\/64< t.length then 6 else if(List.range t.length).any (dj t)then 2 else 0
theorem jM{t:List Int}(h:t.length=0\/64< t.length):bY t=6:=by rw [bY,if_pos h]
theorem qV{t:List Int}{k:Nat}(h:¬(t.length=0\/64< t.length))(hk:k< t.length)(hb:dj t k=true):bY t=2:=by rw [bY,if_neg h,if_pos];rw [List.any_eq_true];exact⟨k,List.mem_range.2 hk,hb⟩
theorem o8{t:List Int}(h:¬(t.length=0\/64< t.length))(hb:∀k,k< t.length->dj t k=false):bY t=0:=by rw [bY,if_neg h,if_neg];rw [List.any_eq_true];rintro⟨k,hk,e⟩;rw [hb k (List.mem_range.1 hk)]at e;cases e
theorem sQ{t:List Int}(h:bY t=0):0< t.length/\t.length<=64/\gi t 0=0/\(∀k,k+1< t.length->gi t k<=gi t (k+1))/\∀x∈t,0<=x/\x<=4194304:=by
 unfold bY at h;split at h;·omega
 ·split at h;·omega
  ·rename_i h1 h2;have hb:∀k,k< t.length->dj t k=false:=fun k hk=>by
    cases e:dj t k with
    |false=>rfl
    |true=>exact absurd (List.any_eq_true.2 ⟨k,List.mem_range.2 hk,e⟩) h2
   have h0:gi t 0=0:=by have:=hb 0 oM;simpa [dj]using this
   have hs:∀k,k+1< t.length->gi t k<=gi t (k+1)/\gi t (k+1)<=4194304:=fun k hk=>by have:=hb (k+1) hk;simp [dj]at this;omega
   refine⟨by omega,by omega,h0,fun k hk=>(hs k hk).1,?_⟩;rw [dn (p:=fun x=>0<=x/\x<=4194304)];intro k;induction k with
   |zero=>intro _;rw [h0];omega
   |succ k ih=>intro hk;have:=ih oM;have:=hs k hk;omega
theorem nS(A:Option Addr)(n c:Nat)(t:List Int)(w:World)(hl:dc w A n t)(hn:n<=4611686018427387904) :
    Calls Tryz.prog 38 #[.agg #[.slice A n c]] w fun e w'=>e= .returned (.int .i64 (bY t))/\Below w.heap.size w w':=by
  have hb0:=bk w (.cells #[.slice A n c] 52)
  have hbx:=cn.new w 52 #[.slice A n c]
  have Hl:=Lib.hid hl.1
  by_cases h0:n=0
  · subst h0
    have d0:((0:Int) == 0)=true:=rfl
    go_enter Tryz.func38,Tryz.ntmps38
    go_wp2
    all_goals go_ret
    all_goals exact⟨eE (by rw [jM (by rw [Hl.out];omega)]),hb0⟩
  · have d0:((n:Int) == 0)=false:=beq_eq_false_iff_ne.2 oM
    by_cases h64:64< n
    · have d1:decide ((64:Int)< (n:Int))=true:=by simp;omega
      go_enter Tryz.func38,Tryz.ntmps38
      go_wp2
      all_goals go_ret
      all_goals exact⟨eE (by rw [jM (by rw [Hl.out];omega)]),hb0⟩
    · have d1:decide ((64:Int)< (n:Int))=false:=by simp;omega
      go_enter Tryz.func38,Tryz.ntmps38
      go_wp2
      generalize w.alloc (.cells #[.slice A n c] 52)=w0 at*
      have hl0:=hl.bl hb0
      go_loop [3,19] (fun last i=>∃k:Nat,k<=n/\i= .int .i64 k/\last= .int .i64 (if k=0 then 0 else gi t (k- 1))/\∀j,j< k->dj t j=false) (fun _ i=>n- (intOf i).toNat)
      case atStart=>exact⟨0,Nat.zero_le _,rfl,rfl,fun j hj=>absurd hj oM⟩
      case round=>
        obtain⟨k,hk,rfl,rfl,hall⟩:=hrel
        have Hall:=Lib.hid hall
        clear hall
        by_cases hlt:k< n
        · obtain⟨b,o,rfl,hb,hc1⟩:=ints_at hl0 hlt
          have key:(dj t k=true->bY t=2):=fun h=>qV (by rw [Hl.out];omega) (by rw [Hl.out];exact hlt) h
          have Key:=Lib.hid key
          clear key
          have next:dj t k=false->∀j,j< k+1->dj t j=false:=fun h j hj=>by
            by_cases e:j=k
            · subst e;exact h
            · exact Hall.out j oM
          have Next:=Lib.hid next
          clear next
          by_cases hk0:k=0
          · subst hk0
            rw [Nat.add_zero]at hc1
            simp only [if_true]
            go_wp2
            all_goals first
              | (go_ret;exact⟨eE (by rw [Key.out (by simp [dj];simp at *;omega)]),hb0⟩)
              | (go_round
                 case rel=>exact⟨1,by omega,by go_num,by simp,Next.out (by simp [dj];simp at *;omega)⟩
                 case measure=>simp [intOf];omega)
          · have dk:((k:Int) == 0)=false:=beq_eq_false_iff_ne.2 oM
            simp only [hk0,if_false]
            go_wp2
            all_goals first
              | (go_ret;exact⟨eE (by rw [Key.out (by simp [dj,hk0];simp at *;omega)]),hb0⟩)
              | (go_round
                 case rel=>exact⟨k+1,by omega,by go_num,by simp,Next.out (by simp [dj,hk0];simp at *;omega)⟩
                 case measure=>simp [intOf];omega)
        · obtain rfl:k=n:=by omega
          go_wp2
          go_ret
          exact⟨eE (by rw [o8 (by rw [Hl.out];omega) (by rw [Hl.out];exact Hall.out)]),hb0⟩
def b6(t:List Int)(l:List Pt):Int:=if bY t=0 then cJ l else bY t
theorem mC(A:Option Addr)(n c:Nat)(t:List Int)(B:Option Addr)(m d:Nat)(l:List Pt)(w:World)(ht:dc w A n t)(hn:n<=4611686018427387904)(hl:jK w B m l)(hm:m<=4611686018427387904) : Calls Tryz.prog 27 #[.agg #[.slice A n c],.slice B m d] w fun e w'=>e= .returned (.int .i64 (b6 t l))/\Below w.heap.size w w':=by
 have hb0:=bk w (.cells #[.slice A n c] 52);go_enter Tryz.func27,Tryz.ntmps27
 go_wp2_with fail
 generalize w.alloc (.cells #[.slice A n c] 52)=w0 at*;refine(nS A n c t w0 (ht.bl hb0) hn).mono ?_;rintro e w1 ⟨rfl,hw1⟩;have hb1:=hb0.trans (hw1.mono hb0.size);by_cases h0:bY t=0
 ·have e0:b6 t l=cJ l:=by simp [b6,h0]
  have E0:=Lib.hid e0;clear e0;rw [h0];go_wp2_with fail
  refine(nQ B m d l w1 (hl.bl hb1) hm).mono ?_;rintro e w2 ⟨rfl,hw2⟩;go_wp2
  go_ret
  exact⟨eE (by rw [E0.out]),hb1.trans (hw2.mono hb1.size)⟩
 ·have e0:b6 t l=bY t:=by simp [b6,h0]
  have E0:=Lib.hid e0;clear e0;have d0:(bY t !=0)=true:=by simpa using h0
  go_wp2
  go_ret
  exact⟨eE (by rw [E0.out]),hb1⟩
theorem mG(down:Bool)(lo hi:Int):∀(vs:List Int) (f:Int),lo<=f->f<=hi->(∀v∈vs,if down then v<=hi else lo<=v)->lo<=jR down f vs/\jR down f vs<=hi
 | [],f,h1,h2,_=>⟨h1,h2⟩
 |v::vs,f,h1,h2,h3=>by
  have hv:=h3 v (by simp);refine mG down lo hi vs (gH down v f) ?_ ?_ (fun x hx=>h3 x (by simp [hx]));·cases down <;> simp [gH]at hv ⊢ <;> omega
  ·cases down <;> simp [gH]at hv ⊢ <;> omega
theorem Dc{i n r k:Nat}(hk:k< eR i n r):aM i r+k< n/\eK (aM i r+k) i< r:=by unfold eR aM eK at *;omega
theorem rU(t h:List Int)(down:Bool)(i:Nat)(lo hi:Int)(hi':i< h.length)(hh:∀x∈h,lo<=x/\x<=hi)(ht:∀x∈t,0<=x):lo<=iC t h down i/\iC t h down i<=hi:=by have h0:=(dn.1 hh) i hi';refine mG down lo hi _ _ h0.1 h0.2 ?_;intro v hv;simp only [List.mem_map,List.mem_range]at hv;obtain⟨k,hk,rfl⟩:=hv;obtain⟨k1,k2⟩:=Dc hk;have h1:=(dn.1 hh) _ k1;have h2:=(dn (p:=fun x=>0<=x) |>.1 ht) _ k2;cases down <;> simp <;> omega
theorem ue(t h:List Int)(down:Bool)(lo hi:Int)(hh:∀x∈h,lo<=x/\x<=hi)(ht:∀x∈t,0<=x):∀x∈mT t h down,lo<=x/\x<=hi:=by intro x hx;simp only [mT,List.mem_map,List.mem_range]at hx;obtain⟨i,hi',rfl⟩:=hx;exact rU t h down i lo hi hi' hh ht
theorem qo{l:List Pt}(hl:∀p∈l, -4194304<=p.1/\p.1<=4194304/\ -4194304<=p.2/\p.2<=4194304)(inn:Bool):∀x∈l.map (lX inn), -4194304<=x/\x<=4194304:=by intro x hx;obtain⟨p,hp,rfl⟩:=List.mem_map.1 hx;have:=hl p hp;cases inn <;> simp [lX] <;> omega
def w9(t h:List Int):List Int:=mT t h false
def qt(t:List Int)(l:List Pt):List Pt:=oS (w9 t) l
theorem BN(g:Nat)(At:Option Addr)(r ct n:Nat)(t h:List Int)(w:World)(hb:cn w g 52 #[.slice At r ct])(ht:dc w At r t)(hn:n<=65536)(hr:r<=65536) (hhb:∀x∈h, -4194304<=x/\x<=4194304) (htb:∀x∈t,0<=x/\x<=4194304):FP 41 #[.pointer (some ⟨g,0,none⟩)] (w9 t) n h w:=by
 intro A c W hW hh;have d1:W.cell? ⟨g,0,none⟩=some (.slice At r ct):=(hb.bl hW).cell 0;show Calls Tryz.prog 41 #[.slice A n c,.pointer (some ⟨g,0,none⟩)] W _;go_enter Tryz.func41,Tryz.ntmps41
 go_wp2_with fail
 refine(vW At A r ct n c t h false W hn hr (ht.bl hW) hh (fun x hx=>by have:=hhb x hx;omega) (fun x hx=>by have:=htb x hx;omega)).mono ?_;rintro e w' ⟨g',hg,rfl,hbg,hbw⟩;go_wp2
 go_ret
 exact⟨g',hg,rfl,hbg,hbw⟩
def iD(t:List Int)(l:List Pt):List Pt:=if b6 t l=0 then qt t l else []
theorem qT{t:List Int}{l:List Pt}(h:b6 t l=0):bY t=0/\cJ l=0:=by
 unfold b6 at h;by_cases h0:bY t=0;·rw [if_pos h0]at h;exact⟨h0,h⟩
 ·rw [if_neg h0]at h;exact absurd h h0
theorem vG(A:Option Addr)(r c:Nat)(t:List Int)(B:Option Addr)(n d:Nat)(l:List Pt)(w:World)(ht:dc w A r t)(hl:jK w B n l)(h0:b6 t l=0) : Calls Tryz.prog 28 #[.agg #[.slice A r c],.slice B n d] w fun e w'=>∃v,e= .returned v/\w'.ownsRow w.heap.size 54 2 v (qt t l).length ((qt t l).flatMap lH)/\Below w.heap.size w w':=by
 obtain⟨k1,k2⟩:=qT h0;obtain⟨m1,m2,_,_,m3⟩:=sQ k1;obtain⟨m4,m5⟩:=sP k2;have hb0:=bk w (.cells #[.slice A r c] 52);have hbx:=cn.new w 52 #[.slice A r c];have q1:=hl.1;have q2:=ht.1;have e1:(qt t l).length=n:=by simp [qt,oS,jm,q1]
 have Q1:=Lib.hid q1;have Q2:=Lib.hid q2;have E1:=Lib.hid e1;clear h0 k1 k2 e1;go_enter Tryz.func28,Tryz.ntmps28
 go_wp2_with fail
 generalize w.alloc (.cells #[.slice A r c] 52)=w0 at*;refine(uj B n d l 41 _ (w9 t) w0 (hl.bl hb0) oM m5 (fun args w=>enters_of Tryz.func41 kR rfl args w)
  (fun inn=>BN _ A r c n t _ w0 hbx (ht.bl hb0) oM oM (qo m5 inn) m3) (fun inn=>by simp [w9,mT,Q1.out])
  (fun inn x hx=>by have:=ue t _ false _ _ (qo m5 inn) (fun y hy=>(m3 y hy).1) x hx;omega)).mono ?_
 rintro e w1 ⟨v,rfl,hown,hb1⟩;go_wp2
 go_ret
 exact⟨v,rfl,by rw [E1.out];exact⟨hown.1,by
  rcases hown.2 with h | ⟨g,cap,cur,hv,hg,rest⟩;·exact .inl h
  ·exact .inr ⟨g,cap,cur,hv,by have:=hb0.size;omega,rest⟩⟩,hb0.trans (hb1.mono hb0.size)⟩
theorem uB(A:Option Addr)(r c:Nat)(t:List Int)(B:Option Addr)(n d:Nat)(l:List Pt)(w:World)(ht:dc w A r t)(hl:jK w B n l)(hr:r<=4611686018427387904)(hn:n<=4611686018427387904) : Calls Tryz.prog 11 #[.agg #[.slice A r c],.slice B n d] w fun e w'=>∃v,e= .returned (.tuple #[v,.int .i64 (b6 t l)])/\w'.ownsRow w.heap.size 54 2 v (iD t l).length ((iD t l).flatMap lH)/\Below w.heap.size w w':=by
 have hb0:=bk w (.cells #[.slice A r c] 52);have hbx:=cn.new w 52 #[.slice A r c];by_cases h0:b6 t l=0
 ·have e1:iD t l=qt t l:=by simp [iD,h0]
  have E1:=Lib.hid e1;have H0:=Lib.hid h0;clear e1 h0;go_enter Tryz.func11,Tryz.ntmps11
  go_wp2_with fail
  generalize w.alloc (.cells #[.slice A r c] 52)=w0 at*;refine(mC A r c t B n d l w0 (ht.bl hb0) hr (hl.bl hb0) hn).mono ?_;rintro e w1 ⟨rfl,hw1⟩;have hb1:=hb0.trans (hw1.mono hb0.size);have d1:w1.cell? ⟨w.heap.size,0,none⟩=some (.slice A r c):=(hbx.bl hw1).cell 0;rw [H0.out];go_wp2_with fail
  refine(vG A r c t B n d l w1 (ht.bl hb1) (hl.bl hb1) H0.out).mono ?_;rintro e w2 ⟨v,rfl,hown,hw2⟩;go_wp2
  go_ret2
  refine⟨v,by rw [H0.out];rfl,?_,hb1.trans (hw2.mono hb1.size)⟩;rw [E1.out];refine⟨hown.1,?_⟩;rcases hown.2 with h | ⟨g,cap,cur,hv,hg,rest⟩;·exact .inl h
  ·exact .inr ⟨g,cap,cur,hv,by have:=hb1.size;omega,rest⟩
 ·have d0:(b6 t l !=0)=true:=by simpa using h0
  have e1:iD t l=[]:=by simp [iD,h0]
  have E1:=Lib.hid e1;clear e1;go_enter Tryz.func11,Tryz.ntmps11
  go_wp2_with fail
  generalize w.alloc (.cells #[.slice A r c] 52)=w0 at*;refine(mC A r c t B n d l w0 (ht.bl hb0) hr (hl.bl hb0) hn).mono ?_;rintro e w1 ⟨rfl,hw1⟩;go_wp2
  go_ret2
  exact⟨_,rfl,by rw [E1.out];exact World.ownsRow_nil _ _ _ _,hb0.trans (hw1.mono hb0.size)⟩
end Go.Proofs.YtdgkdpgjnilmjaaGreatDoor
