/-
  Several texts in one: Both walls of a groove go through a function (walls), and what a tip reads and sweeps (read, Read, Sweep). Conditions: at most 4096 points with edges of at most 4194304, a valid tip. .. The examples of the chapter hold of the program: Works returns true. No condition.
-/
import Derived.Deep.DeepMust
import Derived.Deep.RegionLaw
import Derived.Deep.RegionHeld3
import Derived.Deep.DeepCutAuto
import Derived.Test.YtjmbpjlojjgggaaGreatDoorX04
set_option maxRecDepth 100000
set_option maxHeartbeats 2000000
namespace Go.Proofs.YtjmbpjlojjgggaaGreatDoor
open Go.RowKit Go.Dw Go.Shelf
def oG(inn:Bool)(p:Pt):Int:=if inn then- p.1 else p.2
def jK(inn:Bool)(n:Int):Int:=if inn then- n else n
theorem FF(a b:Int)(w:World):Calls Tryz.prog 248 #[.agg #[],.agg #[.int .i64 a,.int .i64 b]] w fun e w'=>e= .returned (.int .i64 (oG false (a,b)))/\Below w.heap.size w w':=by
 go_enter Tryz.func248,Tryz.ntmps248
 go_wp2
 go_ret
 exact⟨rfl,(bp _ _).alloc (by simp) _⟩
theorem zu(n:Int)(w:World):Calls Tryz.prog 247 #[.agg #[],.int .i64 n] w fun e w'=>e= .returned (.int .i64 (jK false n))/\Below w.heap.size w w':=by
 go_enter Tryz.func247,Tryz.ntmps247
 go_wp2
 go_ret
 exact⟨rfl,bp _ _⟩
theorem ES(a b:Int)(w:World)(h: -1099511627776<=a/\a<=1099511627776):Calls Tryz.prog 250 #[.agg #[],.agg #[.int .i64 a,.int .i64 b]] w fun e w'=>e= .returned (.int .i64 (oG true (a,b)))/\Below w.heap.size w w':=by
 go_enter Tryz.func250,Tryz.ntmps250
 go_wp2
 go_ret
 exact⟨rfl,(bp _ _).alloc (by simp) _⟩
theorem zb(n:Int)(w:World)(h: -1099511627776<=n/\n<=1099511627776):Calls Tryz.prog 249 #[.agg #[],.int .i64 n] w fun e w'=>e= .returned (.int .i64 (jK true n))/\Below w.heap.size w w':=by
 go_enter Tryz.func249,Tryz.ntmps249
 go_wp2
 go_ret
 exact⟨rfl,bp _ _⟩
theorem sL(w:World):(method 494 289 (.agg #[]) "deadwax/play.of").run Tryz.prog w= .ok (248,.agg #[]) w:=by kernel_rfl
theorem pV(w:World):(method 494 289 (.agg #[]) "deadwax/play.back").run Tryz.prog w= .ok (247,.agg #[]) w:=by kernel_rfl
theorem sJ(w:World):(method 494 290 (.agg #[]) "deadwax/play.of").run Tryz.prog w= .ok (250,.agg #[]) w:=by kernel_rfl
theorem pU(w:World):(method 494 290 (.agg #[]) "deadwax/play.back").run Tryz.prog w= .ok (249,.agg #[]) w:=by kernel_rfl
def K4(tf:Nat)(lb:Array Value)(thr:List Int->List Int)(n:Nat)(h:List Int)(w:World):Prop:= ∀(A:Option Addr) (c:Nat) (W:World),Below w.heap.size w W->dY W A n h-> Calls Tryz.prog tf (#[.slice A n c]++lb) W fun e W'=>∃g,W.heap.size<=g/\e= .returned (.slice (some ⟨g,0,none⟩) n n)/\cj W' g 2 (bx (thr h))/\Below W.heap.size W W'
def dO(inn:Bool)(l:List Int)(k:Nat):List Int:=(List.range l.length).map fun i=>if i< k then jK inn (gi l i)else gi l i
theorem o5(inn:Bool)(l:List Int):dO inn l 0=l:=by
 apply List.ext_getElem;·simp [dO]
 ·intro i h1 h2;simp [dO,qS h2]
theorem qB(inn:Bool)(l:List Int):dO inn l l.length=l.map (jK inn):=by
 apply List.ext_getElem;·simp [dO]
 ·intro i h1 h2;simp at h2;simp [dO,qS h2,h2]
theorem iG(inn:Bool)(l:List Int)(k:Nat):(dO inn l k).length=l.length:=by simp [dO]
theorem td(inn:Bool)(l:List Int)(k:Nat)(h:k< l.length):gi (dO inn l k) k=gi l k:=by rw [qS (by rw [iG];exact h)];simp [dO]
theorem qC(inn:Bool)(l:List Int)(k:Nat):(dO inn l k).set k (jK inn (gi l k))=dO inn l (k+1):=by
 apply List.ext_getElem;·simp [dO]
 ·intro i h1 h2;simp [dO]at h1 h2 ⊢;rw [List.getElem_set];by_cases e:k=i;·subst e;simp
  ·simp [e];by_cases h3:i< k;·simp [h3];intro h4;omega
   ·simp [h3];intro h4;omega
theorem qE(inn:Bool)(it:Nat)(hit:it=290/\inn=true\/it=289/\inn=false)(a b:Nat)(A:Option Addr)(n c:Nat)(l:List Pt)(tf:Nat)(lb:Array Value)(thr:List Int->List Int)(w:World) (hl:lM w A n l) (hn:n<=4096) (hlb:∀p∈l, -4194304<=p.1/\p.1<=4194304/\ -4194304<=p.2/\p.2<=4194304) (ba:cj w a 42 #[.slice A n c]) (bb:cj w b 164 #[.func (.func tf) #[] lb]) (eg:∀args w,(callFunc tf args).run Tryz.prog w= .ok (.enter tf args) w) (ht:K4 tf lb thr n (l.map (oG inn)) w) (hth:(thr (l.map (oG inn))).length=n) (htb:∀x∈thr (l.map (oG inn)), -1099511627776<=x/\x<=1099511627776) : Calls Tryz.prog 157 #[.iface it (.agg #[]),.pointer (some ⟨a,0,none⟩),.pointer (some ⟨b,0,none⟩)] w fun e w'=>∃g,w.heap.size<=g/\e= .returned (.slice (some ⟨g,0,none⟩) n n)/\ cj w' g 2 (bx ((thr (l.map (oG inn))).map (jK inn)))/\Below w.heap.size w w':=by
 obtain⟨i0,hel⟩:=En;have la:=ba.lt;have lb':=bb.lt;have c1:w.cell? ⟨a,0,none⟩=some (.slice A n c):=ba.cell 0;have hl1:=hl.1;have Hl1:=Lib.hid hl1;clear hl1;go_enter Tryz.func157,Tryz.ntmps157
 go_wp2
 have Hit:=Lib.hid hit;clear hit;rcases Hit.out with⟨rfl,rfl⟩ | ⟨rfl,rfl⟩
 ·go_region
  go_wp2
  have hd0:Below w.heap.size w w.drew:=(Below.refl _ _).drew;generalize w.drew=w0 at*;go_loopw [7,19] (fun v kv wr=>∃k:Nat,k<=n/\kv= .int .i64 k/\wr.ownsRow w.heap.size 2 1 v k (((l.map (oG true)).take k).flatMap yX)/\Below w.heap.size w wr) (fun v kv wr=>n- (intOf kv).toNat)
  case atStart=>exact⟨0,Nat.zero_le _,rfl,World.ownsRow_nil _ _ _ _,hd0⟩
  case round=>
   obtain⟨k,hk,rfl,hown,hbl⟩:=hrel
   by_cases hlt:k< n
   ·obtain⟨bP,oP,rfl,hbP,hc1,hc2⟩:=zx (hl.bq hbl) hlt;have hpb:=(tA.1 hlb) k (by rw [Hl1.out];exact hlt);have hx1:cj (wr.alloc (.cells #[.int .i64 (gp l k).1,.int .i64 (gp l k).2] 47)) wr.heap.size 47 #[.int .i64 (gp l k).1,.int .i64 (gp l k).2]:=cj.new _ _ _;have hx2:=bp wr (.cells #[.int .i64 (gp l k).1,.int .i64 (gp l k).2] 47);have m1:=fun w=>sJ w;go_wp2_with (first
     | (go_at_call 250;refine(ES _ _ _ oM).mono ?_;rintro e w1 ⟨rfl,hw1⟩;have hown1:=jz (jz hown hx2) hw1;have hbl1:=(hbl.trans (hx2.mono hbl.size)).trans (hw1.mono (by have:=hbl.size;simp;omega)))
     | (at_builtin;go_loud (refine pQ hel rfl _ _ rfl rfl (hown1.alloc _) rfl (cj.new w1 2 _) rfl (by intro u hu;simp at hu;subst hu;rfl) oM (by decide) (by have:=hbl1.size;simp;omega) ?_);intro v' w2 hown2 hg2))
    go_roundw
    case rel=>
     refine⟨k+1,by omega,by go_num,?_,?_⟩
     ·have e:(l.map (oG true)).take (k+1)=(l.map (oG true)).take k++[oG true (gp l k)]:=by rw [List.take_succ_eq_append_getElem (by simp [Hl1.out,hlt])];simp [lS (l:=l) (k:=k) (by rw [Hl1.out];exact hlt)]
      rw [e,List.flatMap_append];simpa [yX]using hown2
     ·exact(hbl1.alloc hbl1.size _).grown hg2 (by have:=hbl1.size;simp;omega) (fun g e=>by have:=hown1.lt g e;omega)
    case measure=>simp [intOf];omega
   ·obtain rfl:k=n:=by omega
    obtain⟨A',c',rfl⟩:=rD hown;rw [List.take_of_length_le (by simp [Hl1.out])]at hown;have hin:dY wr A' k (l.map (oG true)):=fK.zo wK Nat.one_pos hown;have d2:wr.cell? ⟨b,0,none⟩=some (.func (.func tf) #[] lb):=(bb.bq hbl).cell 0;go_wp2_with fail
    refine(ht A' c' wr hbl hin).mono ?_;rintro e w1 ⟨g,hg,rfl,hbg,hb1⟩;have hb2:Below w.heap.size w w1:=hbl.trans (hb1.mono hbl.size);generalize hL:thr (l.map (oG true))=L at*;have HL:=Lib.hid hL;have Hth:=Lib.hid hth;clear hL hth ht;go_wp2
    go_loopw [35] (fun kv wr2=>∃q:Nat,q<=k/\kv= .int .i64 q/\cj wr2 g 2 (bx (dO true L q))/\Below w.heap.size w wr2) (fun kv wr2=>k- (intOf kv).toNat)
    case atStart=>exact⟨0,Nat.zero_le _,rfl,by rw [o5];exact hbg,hb2⟩
    case round=>
     obtain⟨q,hq,rfl,hbq,hbw⟩:=hrel
     by_cases hqk:q< k
     ·have f1:wr.cell? ⟨g,q,none⟩=some (.int .i64 (gi L q)):=by rw [hbq.cell,dK _ _ (by rw [iG,Hth.out];exact hqk),td _ _ _ (by rw [Hth.out];exact hqk)]
      have hqb:=(eI.1 htb) q (by rw [Hth.out];exact hqk);have m2:=fun w=>pU w;have hbq2:∀w',Below wr.heap.size wr w'->w'.cell? ⟨g,q,none⟩=some (.int .i64 (gi L q))/\w'.frozen? ⟨g,q,none⟩=false:=fun w' hb=>⟨(hb.cell (p:=⟨g,q,none⟩) hbq.lt).trans f1,(hbq.bq hb).frozen q⟩;go_wp2_with (go_at_call 249;refine(zb _ _ oM).mono ?_;rintro e w2 ⟨rfl,hw2⟩;obtain⟨f2,f3⟩:=hbq2 w2 hw2)
      go_roundw
      case rel=>
       refine⟨q+1,by omega,by go_num,?_,?_⟩
       ·have hs:=(hbq.bq hw2).set q (.int .i64 (jK true (gi L q)));rw [f8,qC]at hs;exact hs
       ·exact(hbw.trans (hw2.mono hbw.size)).setCell (p:=⟨g,q,none⟩) (by have:=hbl.size;simp;omega) _
      case measure=>simp [intOf];omega
     ·obtain rfl:q=k:=by omega
      go_wp2
      go_ret
      refine⟨g,by have:=hbl.size;omega,rfl,?_,hbw⟩;have:=Hth.out;rw [<-this,qB]at hbq;rw [HL.out];exact hbq
 ·go_region
  go_wp2
  have hd0:Below w.heap.size w w.drew:=(Below.refl _ _).drew;generalize w.drew=w0 at*;go_loopw [7,19] (fun v kv wr=>∃k:Nat,k<=n/\kv= .int .i64 k/\wr.ownsRow w.heap.size 2 1 v k (((l.map (oG false)).take k).flatMap yX)/\Below w.heap.size w wr) (fun v kv wr=>n- (intOf kv).toNat)
  case atStart=>exact⟨0,Nat.zero_le _,rfl,World.ownsRow_nil _ _ _ _,hd0⟩
  case round=>
   obtain⟨k,hk,rfl,hown,hbl⟩:=hrel
   by_cases hlt:k< n
   ·obtain⟨bP,oP,rfl,hbP,hc1,hc2⟩:=zx (hl.bq hbl) hlt;have hpb:=(tA.1 hlb) k (by rw [Hl1.out];exact hlt);have hx1:cj (wr.alloc (.cells #[.int .i64 (gp l k).1,.int .i64 (gp l k).2] 47)) wr.heap.size 47 #[.int .i64 (gp l k).1,.int .i64 (gp l k).2]:=cj.new _ _ _;have hx2:=bp wr (.cells #[.int .i64 (gp l k).1,.int .i64 (gp l k).2] 47);have m1:=fun w=>sL w;go_wp2_with (first
     | (go_at_call 248;refine(FF _ _ _).mono ?_;rintro e w1 ⟨rfl,hw1⟩;have hown1:=jz (jz hown hx2) hw1;have hbl1:=(hbl.trans (hx2.mono hbl.size)).trans (hw1.mono (by have:=hbl.size;simp;omega)))
     | (at_builtin;go_loud (refine pQ hel rfl _ _ rfl rfl (hown1.alloc _) rfl (cj.new w1 2 _) rfl (by intro u hu;simp at hu;subst hu;rfl) oM (by decide) (by have:=hbl1.size;simp;omega) ?_);intro v' w2 hown2 hg2))
    go_roundw
    case rel=>
     refine⟨k+1,by omega,by go_num,?_,?_⟩
     ·have e:(l.map (oG false)).take (k+1)=(l.map (oG false)).take k++[oG false (gp l k)]:=by rw [List.take_succ_eq_append_getElem (by simp [Hl1.out,hlt])];simp [lS (l:=l) (k:=k) (by rw [Hl1.out];exact hlt)]
      rw [e,List.flatMap_append];simpa [yX]using hown2
     ·exact(hbl1.alloc hbl1.size _).grown hg2 (by have:=hbl1.size;simp;omega) (fun g e=>by have:=hown1.lt g e;omega)
    case measure=>simp [intOf];omega
   ·obtain rfl:k=n:=by omega
    obtain⟨A',c',rfl⟩:=rD hown;rw [List.take_of_length_le (by simp [Hl1.out])]at hown;have hin:dY wr A' k (l.map (oG false)):=fK.zo wK Nat.one_pos hown;have d2:wr.cell? ⟨b,0,none⟩=some (.func (.func tf) #[] lb):=(bb.bq hbl).cell 0;go_wp2_with fail
    refine(ht A' c' wr hbl hin).mono ?_;rintro e w1 ⟨g,hg,rfl,hbg,hb1⟩;have hb2:Below w.heap.size w w1:=hbl.trans (hb1.mono hbl.size);generalize hL:thr (l.map (oG false))=L at*;have HL:=Lib.hid hL;have Hth:=Lib.hid hth;clear hL hth ht;go_wp2
    go_loopw [35] (fun kv wr2=>∃q:Nat,q<=k/\kv= .int .i64 q/\cj wr2 g 2 (bx (dO false L q))/\Below w.heap.size w wr2) (fun kv wr2=>k- (intOf kv).toNat)
    case atStart=>exact⟨0,Nat.zero_le _,rfl,by rw [o5];exact hbg,hb2⟩
    case round=>
     obtain⟨q,hq,rfl,hbq,hbw⟩:=hrel
     by_cases hqk:q< k
     ·have f1:wr.cell? ⟨g,q,none⟩=some (.int .i64 (gi L q)):=by rw [hbq.cell,dK _ _ (by rw [iG,Hth.out];exact hqk),td _ _ _ (by rw [Hth.out];exact hqk)]
      have hqb:=(eI.1 htb) q (by rw [Hth.out];exact hqk);have m2:=fun w=>pV w;have hbq2:∀w',Below wr.heap.size wr w'->w'.cell? ⟨g,q,none⟩=some (.int .i64 (gi L q))/\w'.frozen? ⟨g,q,none⟩=false:=fun w' hb=>⟨(hb.cell (p:=⟨g,q,none⟩) hbq.lt).trans f1,(hbq.bq hb).frozen q⟩;go_wp2_with (go_at_call 247;refine(zu _ _).mono ?_;rintro e w2 ⟨rfl,hw2⟩;obtain⟨f2,f3⟩:=hbq2 w2 hw2)
      go_roundw
      case rel=>
       refine⟨q+1,by omega,by go_num,?_,?_⟩
       ·have hs:=(hbq.bq hw2).set q (.int .i64 (jK false (gi L q)));rw [f8,qC]at hs;exact hs
       ·exact(hbw.trans (hw2.mono hbw.size)).setCell (p:=⟨g,q,none⟩) (by have:=hbl.size;simp;omega) _
      case measure=>simp [intOf];omega
     ·obtain rfl:q=k:=by omega
      go_wp2
      go_ret
      refine⟨g,by have:=hbl.size;omega,rfl,?_,hbw⟩;have:=Hth.out;rw [<-this,qB]at hbq;rw [HL.out];exact hbq
theorem Lz:∃i,sW Tryz.prog 42 47 i (.agg #[.int .i64 0,.int .i64 0]) 2 16:=IW Tryz.underlying42 kR rfl (by decide)
theorem K4.later{tf:Nat}{lb:Array Value}{thr:List Int->List Int}{n:Nat}{h:List Int}{w w':World}(ht:K4 tf lb thr n h w)(hb:Below w.heap.size w w'):K4 tf lb thr n h w':= fun A c W hW hi=>ht A c W (hb.trans (hW.mono hb.size)) hi
def kQ(n:Nat)(li lo:List Int):List Pt:=(List.range n).map fun i=>(gi li i,gi lo i)
theorem xR(n:Nat)(li lo:List Int):kQ (n+1) li lo=kQ n li lo++[(gi li n,gi lo n)]:=by simp [kQ,List.range_succ]
def si(thr:List Int->List Int)(l:List Pt):List Pt:= kQ l.length ((thr (l.map (oG true))).map (jK true)) ((thr (l.map (oG false))).map (jK false))
theorem xS(A:Option Addr)(n c:Nat)(l:List Pt)(tf:Nat)(lb:Array Value)(thr:List Int->List Int)(w:World) (hl:lM w A n l) (hn:n<=4096) (hlb:∀p∈l, -4194304<=p.1/\p.1<=4194304/\ -4194304<=p.2/\p.2<=4194304) (eg:∀args w,(callFunc tf args).run Tryz.prog w= .ok (.enter tf args) w) (ht:∀inn,K4 tf lb thr n (l.map (oG inn)) w) (hth:∀inn,(thr (l.map (oG inn))).length=n) (htb:∀inn,∀x∈thr (l.map (oG inn)), -1099511627776<=x/\x<=1099511627776) : Calls Tryz.prog 116 #[.slice A n c,.func (.func tf) #[] lb] w fun e w'=>∃v,e= .returned v/\w'.ownsRow w.heap.size 47 2 v n ((si thr l).flatMap od)/\Below w.heap.size w w':=by
 obtain⟨i0,hel⟩:=Lz;have b1:=(cj.new w 42 #[.slice A n c]).alloc (.cells #[.func (.func tf) #[] lb] 164);have b2:=cj.new (w.alloc (.cells #[.slice A n c] 42)) 164 #[.func (.func tf) #[] lb];have hb:=(bp w (.cells #[.slice A n c] 42)).alloc (by simp) (.cells #[.func (.func tf) #[] lb] 164);have hs:((w.alloc (.cells #[.slice A n c] 42)).alloc (.cells #[.func (.func tf) #[] lb] 164)).heap.size=w.heap.size+1+1:=by simp
 simp only [World.size_alloc]at b2;have Heg:=Lib.hid eg;clear eg;go_enter Tryz.func116,Tryz.ntmps116
 go_wp2_with fail
 generalize (w.alloc (.cells #[.slice A n c] 42)).alloc (.cells #[.func (.func tf) #[] lb] 164)=w0 at*;refine(qE false _ (.inr ⟨rfl,rfl⟩) _ _ A n c l tf lb thr w0 (hl.bq hb) hn hlb b1 b2 Heg.out ((ht false).later hb) (hth false) (htb false)).mono ?_;rintro e w1 ⟨go,hgo,rfl,hbo,hb1⟩;have b1':=b1.bq hb1;have b2':=b2.bq hb1;have hb':Below w.heap.size w w1:=hb.trans (hb1.mono oM);go_wp2_with fail
 refine(qE true _ (.inl ⟨rfl,rfl⟩) _ _ A n c l tf lb thr w1 (hl.bq hb') hn hlb b1' b2' Heg.out ((ht true).later hb') (hth true) (htb true)).mono ?_;rintro e w2 ⟨gn,hgn,rfl,hbn,hb2⟩;have hbo2:=hbo.bq hb2;have hb'':Below w.heap.size w w2:=hb'.trans (hb2.mono hb'.size);generalize hLo:(thr (l.map (oG false))).map (jK false)=Lo at*;generalize hLi:(thr (l.map (oG true))).map (jK true)=Li at*;have HLo:=Lib.hid hLo;have HLi:=Lib.hid hLi;have hlo:Lo.length=n:=by rw [<-hLo];simp [hth]
 have hli:Li.length=n:=by rw [<-hLi];simp [hth]
 have Hlo:=Lib.hid hlo;have Hli:=Lib.hid hli;have Hht:=Lib.hid ht;have Hhth:=Lib.hid hth;have b1'':w2.cell? ⟨w.heap.size,0,none⟩=some (.slice A n c):=(b1'.bq hb2).cell 0;clear hLo hLi hlo hli ht hth;go_wp2
 have hg1:w.heap.size<=go:=by omega
 have hg2:w.heap.size<=gn:=by have:=hb1.size;omega
 go_loopw [8,21] (fun v kv wr=>∃k:Nat,k<=n/\kv= .int .i64 k/\wr.ownsRow w.heap.size 47 2 v k ((kQ k Li Lo).flatMap od)/\cj wr go 2 (bx Lo)/\cj wr gn 2 (bx Li)/\Below w.heap.size w wr) (fun v kv wr=>n- (intOf kv).toNat)
 case atStart=>exact⟨0,Nat.zero_le _,rfl,World.ownsRow_nil _ _ _ _,hbo2,hbn,hb''⟩
 case round=>
  obtain⟨k,hk,rfl,hown,hbo,hbn,hbl⟩:=hrel
  by_cases hlt:k< n
  ·have f1:wr.cell? ⟨go,k,none⟩=some (.int .i64 (gi Lo k)):=(hbo.cell k).trans (dK _ _ (by rw [Hlo.out];exact hlt));have f2:wr.cell? ⟨gn,k,none⟩=some (.int .i64 (gi Li k)):=(hbn.cell k).trans (dK _ _ (by rw [Hli.out];exact hlt));go_wp2
   have hown1:wr.drew.ownsRow w.heap.size 47 2 u8 k ((kQ k Li Lo).flatMap od):=hown;have hbo1:cj wr.drew go 2 (bx Lo):=hbo;have hbn1:cj wr.drew gn 2 (bx Li):=hbn;have hbl1:Below w.heap.size w wr.drew:=hbl.drew;go_region_law (refine C6 hel rfl _ _ rfl rfl (hown1.alloc _) rfl (cj.new wr.drew 47 _) rfl (by intro u hu;simp at hu;rcases hu with rfl |rfl <;> rfl) oM (by decide) (Nat.le_trans hbl1.size (by simp)) ?_;intro v' w2 hown2 hg2)
   all_goals
    go_wp2
    go_roundw
    case rel=>
     refine⟨k+1,by omega,by go_num,?_,?_,?_,?_⟩
     ·rw [xR,List.flatMap_append];exact hown2
     ·exact(hbo1.alloc _).grown hg2 (fun e=>FG hown1 hbo1 (by decide) _ e.symm rfl)
     ·exact(hbn1.alloc _).grown hg2 (fun e=>FG hown1 hbn1 (by decide) _ e.symm rfl)
     ·exact(hbl1.alloc hbl1.size _).grown hg2 (Nat.le_trans hbl1.size (by simp)) (fun g e=>by have:=hown1.lt g e;omega)
    case measure=>simp [intOf];omega
  ·obtain rfl:k=n:=by omega
   go_wp2
   go_ret
   refine⟨_,rfl,?_,hbl⟩;have e:si thr l=kQ k Li Lo:=by rw [si,HLo.out,HLi.out,hl.1]
   rw [e];exact hown
def lF(x lo hi:Int):Bool:=decide (lo<=x) && decide (x<=hi)
def jM(p:Pt):Bool:=lF p.1 (-4194304) 4194304 && lF p.2 (-4194304) 4194304
theorem Ce(p:Pt):jM p=true<-> -4194304<=p.1/\p.1<=4194304/\ -4194304<=p.2/\p.2<=4194304:=by simp [jM,lF];omega
def dg(l:List Pt):Int:=if 4096< l.length then 6 else if l.all jM then 0 else 2
theorem wC{l:List Pt}(h:dg l=0):l.length<=4096/\∀p∈l, -4194304<=p.1/\p.1<=4194304/\ -4194304<=p.2/\p.2<=4194304:=by
 unfold dg at h;split at h;·omega
 ·split at h;·rename_i h2;exact⟨by omega,fun p hp=>(Ce p).1 (List.all_eq_true.1 h2 p hp)⟩
  ·omega
theorem sw(x lo hi:Int)(w:World):Calls Tryz.prog 108 #[.int .i64 x,.int .i64 lo,.int .i64 hi] w fun e w'=>e= .returned (.bool (lF x lo hi))/\w=w':=by
 go_enter Tryz.func108,Tryz.ntmps108
 go_wp2
 all_goals
  go_ret
  refine⟨?_,rfl⟩
  simp [lF, *]
 omega
theorem wI(a b:Int)(w:World):Calls Tryz.prog 127 #[.agg #[.int .i64 a,.int .i64 b]] w fun e w'=>e= .returned (.bool (jM (a,b)))/\Below w.heap.size w w':=by
 have hb:=bp w (.cells #[.int .i64 a,.int .i64 b] 47);cases h:lF a (-4194304) 4194304;all_goals
  go_enter Tryz.func127,Tryz.ntmps127
  go_wp2_with ((with_reducible refine(sw _ _ _ _).mono ?_);rintro e w' ⟨rfl,rfl⟩)
  go_ret
  exact⟨by simp [jM,h],hb⟩
theorem sv{l:List Pt}{k:Nat}(h:k< l.length):(l.take (k+1)).all jM=((l.take k).all jM && jM (gp l k)):=by rw [vt h,List.all_append];simp
theorem uF{l:List Pt}{k:Nat}(h4:¬4096< l.length)(hk:k< l.length)(h:jM (gp l k)=false):dg l=2:=by unfold dg;rw [if_neg h4,if_neg];intro ha;have:=List.all_eq_true.1 ha (gp l k) (EG hk);rw [h]at this;cases this
theorem sy{l:List Pt}(h4:¬4096< l.length)(h:l.all jM=true):dg l=0:=by unfold dg;rw [if_neg h4,if_pos h]
theorem qH(A:Option Addr)(n c:Nat)(l:List Pt)(w:World)(hl:lM w A n l)(hn:n<=4611686018427387904) : Calls Tryz.prog 76 #[.slice A n c] w fun e w'=>e= .returned (.int .i64 (dg l))/\Below w.heap.size w w':=by
 have hl1:=hl.1;by_cases h4:4096< n
 ·go_enter Tryz.func76,Tryz.ntmps76
  go_wp2
  go_ret
  exact⟨fI (by rw [dg,if_pos oM]),Below.refl _ _⟩
 ·have Hl:=Lib.hid hl1;clear hl1;go_enter Tryz.func76,Tryz.ntmps76
  go_wp2
  go_loopw [10] (fun i wr=>∃k:Nat,k<=n/\i= .int .i64 k/\(l.take k).all jM=true/\Below w.heap.size w wr) (fun i _=>n- (intOf i).toNat)
  case atStart=>exact⟨0,Nat.zero_le _,rfl,rfl,Below.refl _ _⟩
  case round=>
   obtain⟨k,hk,rfl,hall,hbl⟩:=hrel
   have Hall:=Lib.hid hall
   clear hall
   by_cases hlt:k< n
   ·obtain⟨b,o,rfl,hb,hc1,hc2⟩:=zx (hl.bq hbl) hlt;have hx:=hbl.trans ((bp wr (.cells #[.int .i64 (gp l k).1,.int .i64 (gp l k).2] 47)).mono hbl.size);cases he:jM ((gp l k).1,(gp l k).2);all_goals
     have He:=Lib.hid he
     clear he
     go_wp2_with ((with_reducible refine(wI _ _ _).mono ?_);rintro e w' ⟨rfl,hw'⟩;rw [He.out])
    ·go_ret
     exact⟨fI (by rw [uF (by rw [Hl.out];exact h4) (by rw [Hl.out];exact hlt) He.out]),hx.trans (hw'.mono hx.size)⟩
    ·go_roundw
     case rel=>exact⟨k+1,by omega,by go_num,by rw [sv (by rw [Hl.out];exact hlt),Hall.out];exact He.out,hx.trans (hw'.mono hx.size)⟩
     case measure=>simp [intOf];omega
   ·obtain rfl:k=n:=by omega
    go_wp2
    go_ret
    have h:=Hall.out;rw [List.take_of_length_le (by rw [Hl.out];exact Nat.le_refl _)]at h;exact⟨fI (by rw [sy (by rw [Hl.out];exact h4) h]),hbl⟩
def eE(t:List Int)(k:Nat):Bool:=if k=0 then gi t 0 !=0 else decide (gi t k< gi t (k- 1)) || decide (4194304< gi t k)
def bU(t:List Int):Int:=if t.length=0\/64< t.length then 6 else if(List.range t.length).any (eE t)then 2 else 0
theorem lN{t:List Int}(h:t.length=0\/64< t.length):bU t=6:=by rw [bU,if_pos h]
theorem uG{t:List Int}{k:Nat}(h:¬(t.length=0\/64< t.length))(hk:k< t.length)(hb:eE t k=true):bU t=2:=by rw [bU,if_neg h,if_pos];rw [List.any_eq_true];exact⟨k,List.mem_range.2 hk,hb⟩
theorem sA{t:List Int}(h:¬(t.length=0\/64< t.length))(hb:∀k,k< t.length->eE t k=false):bU t=0:=by rw [bU,if_neg h,if_neg];rw [List.any_eq_true];rintro⟨k,hk,e⟩;rw [hb k (List.mem_range.1 hk)]at e;cases e
theorem wE{t:List Int}(h:bU t=0):0< t.length/\t.length<=64/\gi t 0=0/\(∀k,k+1< t.length->gi t k<=gi t (k+1))/\∀x∈t,0<=x/\x<=4194304:=by
 unfold bU at h;split at h;·omega
 ·split at h;·omega
  ·rename_i h1 h2;have hb:∀k,k< t.length->eE t k=false:=fun k hk=>by
    cases e:eE t k with
    |false=>rfl
    |true=>exact absurd (List.any_eq_true.2 ⟨k,List.mem_range.2 hk,e⟩) h2
   have h0:gi t 0=0:=by have:=hb 0 oM;simpa [eE]using this
   have hs:∀k,k+1< t.length->gi t k<=gi t (k+1)/\gi t (k+1)<=4194304:=fun k hk=>by have:=hb (k+1) hk;simp [eE]at this;omega
   refine⟨by omega,by omega,h0,fun k hk=>(hs k hk).1,?_⟩;rw [eI (p:=fun x=>0<=x/\x<=4194304)];intro k;induction k with
   |zero=>intro _;rw [h0];omega
   |succ k ih=>intro hk;have:=ih oM;have:=hs k hk;omega
theorem qJ(A:Option Addr)(n c:Nat)(t:List Int)(w:World)(hl:dY w A n t)(hn:n<=4611686018427387904) : Calls Tryz.prog 115 #[.agg #[.slice A n c]] w fun e w'=>e= .returned (.int .i64 (bU t))/\Below w.heap.size w w':=by
 have hb0:=bp w (.cells #[.slice A n c] 59);have hbx:=cj.new w 59 #[.slice A n c];have Hl:=Lib.hid hl.1;by_cases h0:n=0
 ·subst h0;have d0:((0:Int) == 0)=true:=rfl;go_enter Tryz.func115,Tryz.ntmps115
  go_wp2
  all_goals go_ret
  all_goals exact⟨fI (by rw [lN (by rw [Hl.out];omega)]),hb0⟩
 ·have d0:((n:Int) == 0)=false:=beq_eq_false_iff_ne.2 oM;by_cases h64:64< n
  ·have d1:decide ((64:Int)< (n:Int))=true:=by simp;omega
   go_enter Tryz.func115,Tryz.ntmps115
   go_wp2
   all_goals go_ret
   all_goals exact⟨fI (by rw [lN (by rw [Hl.out];omega)]),hb0⟩
  ·have d1:decide ((64:Int)< (n:Int))=false:=by simp;omega
   go_enter Tryz.func115,Tryz.ntmps115
   go_wp2
   generalize w.alloc (.cells #[.slice A n c] 59)=w0 at*;have hl0:=hl.bq hb0;go_loop [3,19] (fun last i=>∃k:Nat,k<=n/\i= .int .i64 k/\last= .int .i64 (if k=0 then 0 else gi t (k- 1))/\∀j,j< k->eE t j=false) (fun _ i=>n- (intOf i).toNat)
   case atStart=>exact⟨0,Nat.zero_le _,rfl,rfl,fun j hj=>absurd hj oM⟩
   case round=>
    obtain⟨k,hk,rfl,rfl,hall⟩:=hrel
    have Hall:=Lib.hid hall
    clear hall
    by_cases hlt:k< n
    ·obtain⟨b,o,rfl,hb,hc1⟩:=ints_at hl0 hlt;have key:(eE t k=true->bU t=2):=fun h=>uG (by rw [Hl.out];omega) (by rw [Hl.out];exact hlt) h;have Key:=Lib.hid key;clear key;have next:eE t k=false->∀j,j< k+1->eE t j=false:=fun h j hj=>by
      by_cases e:j=k;·subst e;exact h
      ·exact Hall.out j oM
     have Next:=Lib.hid next
     clear next
     by_cases hk0:k=0
     ·subst hk0;rw [Nat.add_zero]at hc1;simp only [if_true];go_wp2
      all_goals first
       | (go_ret;exact⟨fI (by rw [Key.out (by simp [eE];simp at *;omega)]),hb0⟩)
       | (go_round
          case rel=>exact⟨1,by omega,by go_num,by simp,Next.out (by simp [eE];simp at *;omega)⟩
          case measure=>simp [intOf];omega)
     ·have dk:((k:Int) == 0)=false:=beq_eq_false_iff_ne.2 oM;simp only [hk0,if_false];go_wp2
      all_goals first
       | (go_ret;exact⟨fI (by rw [Key.out (by simp [eE,hk0];simp at *;omega)]),hb0⟩)
       | (go_round
          case rel=>exact⟨k+1,by omega,by go_num,by simp,Next.out (by simp [eE,hk0];simp at *;omega)⟩
          case measure=>simp [intOf];omega)
    ·obtain rfl:k=n:=by omega
     go_wp2
     go_ret
     exact⟨fI (by rw [sA (by rw [Hl.out];omega) (by rw [Hl.out];exact Hall.out)]),hb0⟩
def bV(t:List Int)(l:List Pt):Int:=if bU t=0 then dg l else bU t
theorem o7(A:Option Addr)(n c:Nat)(t:List Int)(B:Option Addr)(m d:Nat)(l:List Pt)(w:World)(ht:dY w A n t)(hn:n<=4611686018427387904)(hl:lM w B m l)(hm:m<=4611686018427387904) : Calls Tryz.prog 69 #[.agg #[.slice A n c],.slice B m d] w fun e w'=>e= .returned (.int .i64 (bV t l))/\Below w.heap.size w w':=by
 have hb0:=bp w (.cells #[.slice A n c] 59);go_enter Tryz.func69,Tryz.ntmps69
 go_wp2_with fail
 generalize w.alloc (.cells #[.slice A n c] 59)=w0 at*;refine(qJ A n c t w0 (ht.bq hb0) hn).mono ?_;rintro e w1 ⟨rfl,hw1⟩;have hb1:=hb0.trans (hw1.mono hb0.size);by_cases h0:bU t=0
 ·have e0:bV t l=dg l:=by simp [bV,h0]
  have E0:=Lib.hid e0;clear e0;rw [h0];go_wp2_with fail
  refine(qH B m d l w1 (hl.bq hb1) hm).mono ?_;rintro e w2 ⟨rfl,hw2⟩;go_wp2
  go_ret
  exact⟨fI (by rw [E0.out]),hb1.trans (hw2.mono hb1.size)⟩
 ·have e0:bV t l=bU t:=by simp [bV,h0]
  have E0:=Lib.hid e0;clear e0;have d0:(bU t !=0)=true:=by simpa using h0
  go_wp2
  go_ret
  exact⟨fI (by rw [E0.out]),hb1⟩
theorem pz(down:Bool)(lo hi:Int):∀(vs:List Int) (f:Int),lo<=f->f<=hi->(∀v∈vs,if down then v<=hi else lo<=v)->lo<=lQ down f vs/\lQ down f vs<=hi
 | [],f,h1,h2,_=>⟨h1,h2⟩
 |v::vs,f,h1,h2,h3=>by
  have hv:=h3 v (by simp);refine pz down lo hi vs (i7 down v f) ?_ ?_ (fun x hx=>h3 x (by simp [hx]));·cases down <;> simp [i7]at hv ⊢ <;> omega
  ·cases down <;> simp [i7]at hv ⊢ <;> omega
theorem HU{i n r k:Nat}(hk:k< fP i n r):aJ i r+k< n/\fM (aJ i r+k) i< r:=by unfold fP aJ fM at *;omega
theorem vE(t h:List Int)(down:Bool)(i:Nat)(lo hi:Int)(hi':i< h.length)(hh:∀x∈h,lo<=x/\x<=hi)(ht:∀x∈t,0<=x):lo<=jG t h down i/\jG t h down i<=hi:=by have h0:=(eI.1 hh) i hi';refine pz down lo hi _ _ h0.1 h0.2 ?_;intro v hv;simp only [List.mem_map,List.mem_range]at hv;obtain⟨k,hk,rfl⟩:=hv;obtain⟨k1,k2⟩:=HU hk;have h1:=(eI.1 hh) _ k1;have h2:=(eI (p:=fun x=>0<=x) |>.1 ht) _ k2;cases down <;> simp <;> omega
theorem xP(t h:List Int)(down:Bool)(lo hi:Int)(hh:∀x∈h,lo<=x/\x<=hi)(ht:∀x∈t,0<=x):∀x∈pP t h down,lo<=x/\x<=hi:=by intro x hx;simp only [pP,List.mem_map,List.mem_range]at hx;obtain⟨i,hi',rfl⟩:=hx;exact vE t h down i lo hi hi' hh ht
theorem tJ{l:List Pt}(hl:∀p∈l, -4194304<=p.1/\p.1<=4194304/\ -4194304<=p.2/\p.2<=4194304)(inn:Bool):∀x∈l.map (oG inn), -4194304<=x/\x<=4194304:=by intro x hx;obtain⟨p,hp,rfl⟩:=List.mem_map.1 hx;have:=hl p hp;cases inn <;> simp [oG] <;> omega
def AZ(t h:List Int):List Int:=pP t h false
def tM(t:List Int)(l:List Pt):List Pt:=si (AZ t) l
theorem Ga(g:Nat)(At:Option Addr)(r ct n:Nat)(t h:List Int)(w:World)(hb:cj w g 59 #[.slice At r ct])(ht:dY w At r t)(hn:n<=65536)(hr:r<=65536) (hhb:∀x∈h, -4194304<=x/\x<=4194304) (htb:∀x∈t,0<=x/\x<=4194304):K4 117 #[.pointer (some ⟨g,0,none⟩)] (AZ t) n h w:=by
 intro A c W hW hh;have d1:W.cell? ⟨g,0,none⟩=some (.slice At r ct):=(hb.bq hW).cell 0;show Calls Tryz.prog 117 #[.slice A n c,.pointer (some ⟨g,0,none⟩)] W _;go_enter Tryz.func117,Tryz.ntmps117
 go_wp2_with fail
 refine(zR At A r ct n c t h false W hn hr (ht.bq hW) hh (fun x hx=>by have:=hhb x hx;omega) (fun x hx=>by have:=htb x hx;omega)).mono ?_;rintro e w' ⟨g',hg,rfl,hbg,hbw⟩;go_wp2
 go_ret
 exact⟨g',hg,rfl,hbg,hbw⟩
def jH(t:List Int)(l:List Pt):List Pt:=if bV t l=0 then tM t l else []
theorem uE{t:List Int}{l:List Pt}(h:bV t l=0):bU t=0/\dg l=0:=by
 unfold bV at h;by_cases h0:bU t=0;·rw [if_pos h0]at h;exact⟨h0,h⟩
 ·rw [if_neg h0]at h;exact absurd h h0
theorem zz(A:Option Addr)(r c:Nat)(t:List Int)(B:Option Addr)(n d:Nat)(l:List Pt)(w:World)(ht:dY w A r t)(hl:lM w B n l)(h0:bV t l=0) : Calls Tryz.prog 70 #[.agg #[.slice A r c],.slice B n d] w fun e w'=>∃v,e= .returned v/\w'.ownsRow w.heap.size 47 2 v (tM t l).length ((tM t l).flatMap od)/\Below w.heap.size w w':=by
 obtain⟨k1,k2⟩:=uE h0;obtain⟨m1,m2,_,_,m3⟩:=wE k1;obtain⟨m4,m5⟩:=wC k2;have hb0:=bp w (.cells #[.slice A r c] 59);have hbx:=cj.new w 59 #[.slice A r c];have q1:=hl.1;have q2:=ht.1;have e1:(tM t l).length=n:=by simp [tM,si,kQ,q1]
 have Q1:=Lib.hid q1;have Q2:=Lib.hid q2;have E1:=Lib.hid e1;clear h0 k1 k2 e1;go_enter Tryz.func70,Tryz.ntmps70
 go_wp2_with fail
 generalize w.alloc (.cells #[.slice A r c] 59)=w0 at*;refine(xS B n d l 117 _ (AZ t) w0 (hl.bq hb0) oM m5 (fun args w=>enters_of Tryz.func117 kR rfl args w)
  (fun inn=>Ga _ A r c n t _ w0 hbx (ht.bq hb0) oM oM (tJ m5 inn) m3) (fun inn=>by simp [AZ,pP,Q1.out])
  (fun inn x hx=>by have:=xP t _ false _ _ (tJ m5 inn) (fun y hy=>(m3 y hy).1) x hx;omega)).mono ?_
 rintro e w1 ⟨v,rfl,hown,hb1⟩;go_wp2
 go_ret
 exact⟨v,rfl,by rw [E1.out];exact⟨hown.1,by
  rcases hown.2 with h | ⟨g,cap,cur,hv,hg,rest⟩;·exact .inl h
  ·exact .inr ⟨g,cap,cur,hv,by have:=hb0.size;omega,rest⟩⟩,hb0.trans (hb1.mono hb0.size)⟩
theorem yf(A:Option Addr)(r c:Nat)(t:List Int)(B:Option Addr)(n d:Nat)(l:List Pt)(w:World)(ht:dY w A r t)(hl:lM w B n l)(hr:r<=4611686018427387904)(hn:n<=4611686018427387904) : Calls Tryz.prog 22 #[.agg #[.slice A r c],.slice B n d] w fun e w'=>∃v,e= .returned (.tuple #[v,.int .i64 (bV t l)])/\w'.ownsRow w.heap.size 47 2 v (jH t l).length ((jH t l).flatMap od)/\Below w.heap.size w w':=by
 have hb0:=bp w (.cells #[.slice A r c] 59);have hbx:=cj.new w 59 #[.slice A r c];by_cases h0:bV t l=0
 ·have e1:jH t l=tM t l:=by simp [jH,h0]
  have E1:=Lib.hid e1;have H0:=Lib.hid h0;clear e1 h0;go_enter Tryz.func22,Tryz.ntmps22
  go_wp2_with fail
  generalize w.alloc (.cells #[.slice A r c] 59)=w0 at*;refine(o7 A r c t B n d l w0 (ht.bq hb0) hr (hl.bq hb0) hn).mono ?_;rintro e w1 ⟨rfl,hw1⟩;have hb1:=hb0.trans (hw1.mono hb0.size);have d1:w1.cell? ⟨w.heap.size,0,none⟩=some (.slice A r c):=(hbx.bq hw1).cell 0;rw [H0.out];go_wp2_with fail
  refine(zz A r c t B n d l w1 (ht.bq hb1) (hl.bq hb1) H0.out).mono ?_;rintro e w2 ⟨v,rfl,hown,hw2⟩;go_wp2
  go_ret2
  refine⟨v,by rw [H0.out];rfl,?_,hb1.trans (hw2.mono hb1.size)⟩;rw [E1.out];refine⟨hown.1,?_⟩;rcases hown.2 with h | ⟨g,cap,cur,hv,hg,rest⟩;·exact .inl h
  ·exact .inr ⟨g,cap,cur,hv,by have:=hb1.size;omega,rest⟩
 ·have d0:(bV t l !=0)=true:=by simpa using h0
  have e1:jH t l=[]:=by simp [jH,h0]
  have E1:=Lib.hid e1;clear e1;go_enter Tryz.func22,Tryz.ntmps22
  go_wp2_with fail
  generalize w.alloc (.cells #[.slice A r c] 59)=w0 at*;refine(o7 A r c t B n d l w0 (ht.bq hb0) hr (hl.bq hb0) hn).mono ?_;rintro e w1 ⟨rfl,hw1⟩;go_wp2
  go_ret2
  exact⟨_,rfl,by rw [E1.out];exact World.ownsRow_nil _ _ _ _,hb0.trans (hw1.mono hb0.size)⟩
end Go.Proofs.YtjmbpjlojjgggaaGreatDoor
