/-
  Several texts in one: Sampling: the walks of the triangle, the ways and the least sampling. Conditions: told in each theorem. .. Plain laws of reading and sweeping: the two walks of a tip are an adjunction. No program in sight. No condition.
-/
import Derived.Test.YtjmbpjlojjgggaaGreatDoorAbs42
import Derived.Test.YtjmbpjlojjgggaaGreatDoorX00
import Derived.Test.YtjmbpjlojjgggaaGreatDoorX03
import Derived.Test.YtjmbpjlojjgggaaGreatDoorMC
import Derived.Test.YtjmbpjlojjgggaaGreatDoorX04
import Derived.Test.YtjmbpjlojjgggaaGreatDoorX02
import Derived.Test.YtjmbpjlojjgggaaGreatDoorMD
import Derived.Test.YtjmbpjlojjgggaaGreatDoorX05
import Derived.Test.YtjmbpjlojjgggaaGreatDoorX06
set_option maxRecDepth 100000
set_option maxHeartbeats 4000000
namespace Go.Proofs.YtjmbpjlojjgggaaGreatDoor
open Go.Ab Go.RowKit Go.Dw Go.Shelf
theorem Dv:AC Tryz.prog 133 [] JG []:=by
 refine gU ah cv Tryz.func133 Tryz.ntmps133 fun C hC hF=> ?_;refine sK fun K hK=>wR 2 ?_;refine aY ah 1 [] ?_;refine nK hK ?_;clear hK K;refine sK fun K hK=>wR 3 ?_;refine aY ah 2 [] ?_;refine nK hK ?_;clear hK K;refine sK fun K hK=>sK fun K hK=>wR 4 ?_;refine aY ah 1 [] ?_;refine nK hK ?_;clear hK K;refine au ?_;obtain⟨c0,hc0⟩:∃c0,c0=tg (nI 0 0):=⟨_,rfl⟩;refine cr (ι:=Nat×List V) (fun x=>[(1,.ref 1 0),(5,.i x.1)]) (fun x=>[(1,.box 303 x.2)]) (fun x=>x.1<=51/\x.2=tg (nI x.1 0)) (fun x=>51- x.1) (0,c0) ⟨Nat.zero_le _,hc0⟩ ?_ ?_;·show Le _ ⟨gy [(1,.ref 1 0),(5,.i 0)],dj [(1,.box 303 c0)],1⟩;refine aC (tl:=[(1,V.ref 1 0),(5,V.i 0)]) (sl:=[(1,Ob.box 303 c0)]) [(1,200004)] (.cons kR (.cons kR .nil)) (.cons ⟨Ob.box 303 (List.replicate 2601 (V.i 0)),kR,.box ?_⟩ .nil) kR kR;rw [hc0];kernel_rfl
 rintro⟨n,cs⟩ ⟨hn,hcs⟩;simp only at hn hcs ⊢;have hlen:cs.length=2601:=by rw [hcs,vu]
 refine sK fun K hK=>wR 2 ?_;refine aY ah 1 [] ?_;refine nK hK ?_;clear hK K;refine sK fun K hK=> ?_;refine av (t:=decide ((↑n:Int)< 51)) kR (fun c1=> ?_) (fun c1=> ?_)
 ·have c2:n< 51:=by simp at c1;omega
  refine ak ?_;refine ai (hK _ ?_);clear hK K;refine sK fun K hK=> ?_;refine au ?_;refine sK fun K hK=>wR 3 ?_;refine aY ah 2 [] ?_;refine nK hK ?_;clear hK K;refine sK fun K hK=>wR 4 ?_;refine aY ah 6 [(3,.c ((0:Int)<=(↑n:Int)/\(↑n:Int)< (↑(51:Nat):Int)) oM),(0,.d),(0,.c ((0:Nat)+n*51+(0:Nat)*(1:Nat)+(1:Nat)<=List.length cs) oM)] ?_;refine nK hK ?_;clear hK K;refine sK fun K hK=>wR 5 ?_;refine aY ah 1 [] ?_;refine nK hK ?_;clear hK K;refine au ?_;obtain⟨c1,hc1⟩:∃c1,c1=cs.set (0+n*51+0*1) (V.i 1):=⟨_,rfl⟩;have he1:c1=tg (nI n 1):=by
   rw [hc1,hcs,show 0+n*51+0*1=n*51+0 by omega];refine BS c2 (by decide) ?_ fun a b hb h=> ?_;·simp [nI,wJ]
   ·unfold nI;by_cases h1:a< n <;> by_cases h2:a=n <;> simp [h1,h2] <;> omega
  refine cr (ι:=Nat×List V) (fun x=>[(1,.ref 1 0),(2,.i n),(3,.i x.1),(5,.i n)]) (fun x=>[(1,.box 303 x.2)]) (fun x=>1<=x.1/\x.1<=n+1/\x.2=tg (nI n x.1)) (fun x=>n+1- x.1) (1,c1) ⟨Nat.le_refl _,Nat.le_add_left _ _,he1⟩ ?_ ?_;·show Le _ ⟨gy [(1,.ref 1 0),(2,.i n),(3,.i 1),(5,.i n)],dj [(1,.box 303 c1)],1⟩;refine aC (tl:=[(1,V.ref 1 0),(2,V.i (↑n:Int)),(3,V.i 1),(5,V.i (↑n:Int))]) (sl:=[(1,Ob.box 303 c1)]) [(1,1)] (.cons kR (.cons kR (.cons kR (.cons kR .nil)))) (.cons ⟨Ob.box 303 (setCells cs ((0:Nat)+n*51+(0:Nat)*(1:Nat)) [V.c (Value.int IntKind.i64 1)]),kR,.box ?_⟩ .nil) kR kR;rw [he1,vv,<-he1,hc1];rfl
  rintro⟨k,cs2⟩ ⟨hk1,hk,hcs2⟩;simp only at hk1 hk hcs2 ⊢;have hlen2:cs2.length=2601:=by rw [hcs2,vu]
  refine sK fun K hK=>sK fun K hK=>wR 2 ?_;refine aY ah 3 [] ?_;refine nK hK ?_;clear hK K;refine av (t:=decide ((↑k:Int)<=(↑n:Int))) kR (fun c3=> ?_) (fun c3=> ?_)
  ·have c4:k<=n:=by simp at c3;omega
   obtain⟨m,rfl⟩:∃m,n=m+1:=⟨n- 1,by omega⟩;obtain⟨j,rfl⟩:∃j,k=j+1:=⟨k- 1,by omega⟩;refine ak ?_;refine ai (hK _ ?_);clear hK K;refine sK fun K hK=> ?_;refine au ?_;refine wD 3 ?_;refine aY ah 11 [(5,.c (iR ((↑(m+1):Int)- 1)) oM),(1,.c (iR ((↑(j+1):Int)- 1)) oM),(1,.c ((0:Int)<=(↑(m+1):Int)- 1/\(↑(m+1):Int)- 1< (↑(51:Nat):Int)) oM),(0,.c ((0:Int)<=(↑(j+1):Int)- 1/\(↑(j+1):Int)- 1< (↑(51:Nat):Int)) oM)] ?_;refine cC rfl (nU 2 (.tmp 28) (t':=303) (cs:=cs2) (v:= .i (sO m j)) (ah.agg rfl) rfl ?hv) ?hp ?hn ?_;case hv=>rw [hcs2];exact BR (n:=m) (k:=j) oM oM oM (by simp [nI])
   case hp=>intro p hp;rw [List.mem_singleton]at hp;subst hp;rfl
   case hn=>simp [kg]
   refine aY ah 7 [(2,.c (iR ((↑(m+1):Int)- 1)) oM),(2,.c ((0:Int)<=(↑(m+1):Int)- 1/\(↑(m+1):Int)- 1< (↑(51:Nat):Int)) oM),(0,.c ((0:Int)<=(↑(j+1):Int)/\(↑(j+1):Int)< (↑(51:Nat):Int)) oM)] ?_;refine cC rfl (nU 2 (.tmp 36) (t':=303) (cs:=cs2) (v:= .i (sO m (j+1))) (ah.agg rfl) rfl ?hv) ?hp ?hn ?_;case hv=>rw [hcs2];exact BR (n:=m) (k:=j+1) oM oM oM (by simp [nI])
   case hp=>intro p hp;rw [List.mem_singleton]at hp;subst hp;rfl
   case hn=>simp [kg]
   have b1:=E5 (n:=m) oM j;have b2:=E5 (n:=m) oM (j+1);refine aY ah 5 [(0,.c (iR ((↑(sO m j):Int)+(↑(sO m (j+1)):Int))) oM),(1,.c ((0:Int)<=(↑(m+1):Int)/\(↑(m+1):Int)< (↑(51:Nat):Int)) oM),(0,.c ((0:Int)<=(↑(j+1):Int)/\(↑(j+1):Int)< (↑(51:Nat):Int)) oM),(0,.c ((0:Nat)+(m+1)*51+(j+1)*1+(1:Nat)<=List.length cs2) oM)] ?_;refine aa ⟨kR,(bL (ai (hK _ ?_)))⟩;clear hK K;refine wR 4 ?_;refine aY ah 3 [(1,.c (iR ((↑(j+1):Int)+1)) oM)] ?_;refine aa (ai ?_);obtain⟨c3,hc3⟩:∃c3,c3=cs2.set (0+(m+1)*51+(j+1)*1) (V.i ((sO m j:Int)+sO m (j+1))):=⟨_,rfl⟩;have he3:c3=tg (nI (m+1) (j+2)):=by
    rw [hc3,hcs2,show 0+(m+1)*51+(j+1)*1=(m+1)*51+(j+1) by omega];refine BS oM oM ?_ fun a b hb h=> ?_;·simp [nI,qP]
    ·unfold nI;by_cases h1:a< m+1 <;> by_cases h2:a=m+1 <;> simp [h1,h2] <;> (have:(b< j+2)=(b< j+1):=by simp;omega) <;> simp [this]
   refine⟨(j+2,c3),⟨by simp,by simp;omega,he3⟩,?_,by simp;omega⟩;show Le _ ⟨gy [(1,.ref 1 0),(2,.i ((m+1:Nat):Int)),(3,.i ((j+2:Nat):Int)),(5,.i ((m+1:Nat):Int))],dj [(1,.box 303 c3)],1⟩;refine aC (tl:=[(1,V.ref 1 0),(2,V.i (↑(m+1):Int)),(3,V.i (↑(j+2):Int)),(5,V.i (↑(m+1):Int))]) (sl:=[(1,Ob.box 303 c3)]) [(1,1)] (.cons kR (.cons kR (.cons kR (.cons kR .nil)))) (.cons ⟨Ob.box 303 (setCells cs2 ((0:Nat)+(m+1)*51+(j+1)*1) [V.c (Value.int IntKind.i64 ((↑(sO m j):Int)+(↑(sO m (j+1)):Int)))]),kR,.box ?_⟩ .nil) kR kR;rw [he3,vv,<-he3,hc3];rfl
  ·have c4:k=n+1:=by simp at c3;omega
   have he4:cs2=tg (nI (n+1) 0):=by
    rw [hcs2,c4];congr 1
    funext a b;unfold nI;by_cases h1:a< n;·simp [h1,show a< n+1 by omega]
    ·by_cases h2:a=n
     ·subst h2;by_cases h3:b< a+1;·simp [h3]
      ·simp [h3,y6 a b oM]
     ·simp [h1,h2,show ¬a< n+1 by omega]
   refine bg ?_;refine bO ?_;refine bO ?_;refine bC ?_;refine bL (ai ?_);clear hK K;refine hK _ ?_;clear hK K;refine wR 3 ?_;refine aY ah 2 [(0,.c (iR ((↑n:Int)+1)) oM)] ?_;refine aa (ai ?_);refine⟨(n+1,cs2),⟨by simp;omega,he4⟩,?_,by simp;omega⟩;refine aC (tl:=[(1,V.ref 1 0),(5,V.i (↑(n+1):Int))]) (sl:=[(1,Ob.box 303 cs2)]) [(1,1)] (.cons kR (.cons kR .nil)) (.cons ⟨Ob.box 303 cs2,kR,.box ?_⟩ .nil) kR kR;rw [he4,vv]
 ·have c2:n=51:=by simp at c1;omega
  have he5:cs=tg sO:=by rw [hcs,c2];unfold tg;refine List.map_congr_left fun x hx=> ?_;rw [List.mem_range]at hx;rw [nI,if_pos (.inl oM)]
  refine iC (dz (t:=303) (cs:=cs) 1 kR (by rw [he5];exact Jw sO)) ?_;refine bg ?_;refine bO ?_;refine bO ?_;refine bC ?_;refine ai ?_;clear hK K;refine hK _ ?_;clear hK K;refine sK fun K hK=>wR 3 ?_;refine aY ah 2 [] ?_;refine nK hK ?_;clear hK K;refine ay ?_;rw [show JG=V.ptr cs by rw [JG,he5]];refine rP (V.ptr (List.drop (0:Nat) cs))
def Fh:List Nat:=[148,111,66,149,112,67,192,188,199,201,999999,999999,999999,999999,999999,999999,999999,999999,999999,999999,999999,999999,999999,999999]
def Nk:ML:=[(64,[21]),(189,[8]),(175,[24])]
def A9(sz n:Nat)(cs:List V):V:= .sl sz n fun i=>(cs.drop (i*sz)).take sz
def sU(l:List Int):V:=A9 1 l.length (l.map V.i)
def Nj:List (Int×Int)->List V
 | []=>[]
 |x::l=> .i x.1:: .i x.2::Nj l
def C5(l:List (Int×Int)):V:=A9 2 l.length (Nj l)
def Iw(l:List Int):V:= .sl 1 l.length (rowOf (l.map fun x=>[.i x]))
def C4(l:List (Int×Int)):V:= .sl 2 l.length (rowOf (l.map fun x=>[.i x.1,.i x.2]))
theorem Fg(l:List (List V))(h:l.all V.bw=true)(i:Nat):V.bw (rowOf l i)=true:=gZ h i
def wU:V:= .agg [.i 400,.i 2000,.i 200,.i 2000,.i 1000,.i 1000,.i 100]
def Iv:List (Int×Int):=[(-400,400),(-200,600),(-400,400)]
theorem Iy:AM Tryz.prog 14 [wU,C5 [(0,0),(100,100),(0,0)]] [] (.tup [.own 0,.i 0]) [] [.row 47 2 3 (rowOf [[.i (-400),.i 400],[.i (-200),.i 600],[.i (-400),.i 400]])]:=CI ah cv Nk Fh kR kR
theorem Lf:AC Tryz.prog 14 [wU,C5 [(0,0),(100,100),(0,0)]] (.tup [C4 Iv,.i 0]) []:=AC.jZ (Iy.ac (by decide)) rfl (fun _ _=>rfl) (Fg _ rfl) rfl rfl
theorem Pf:AC Tryz.prog 21 [wU,C4 Iv,.i 1000] (.tup [.i 31831,.i 0]) []:=AM.ac (CI ah cv Nk Fh kR kR) (by decide)
theorem Ld:AM Tryz.prog 144 [.agg [sU [64],sU [128],.i 256],sU [100,0,0, -3]] [] (.tup [.own 0,.i 0]) [] [.row 2 1 4 (rowOf [[.i 100],[.i 75],[.i 37],[.i 15]])]:=CI ah cv Nk Fh kR kR
theorem Nl:AC Tryz.prog 144 [.agg [sU [64],sU [128],.i 256],sU [100,0,0, -3]] (.tup [Iw [100,75,37,15],.i 0]) []:=AC.jZ (Ld.ac (by decide)) rfl (fun _ _=>rfl) (Fg _ rfl) rfl rfl
def Pd:ByteArray:=⟨#[97]⟩
def Kf:V:=A9 2 1 [.c (.string Pd),C5 [(10, -10),(5,0)]]
def Ke:V:=A9 7 1 [.i 0,.i 0,.i 2,.i 0,.i 0,.i 0,.i 500]
theorem Lg:AC Tryz.prog 145 [Kf,Ke] (.tup [C4 [(5, -5),(2,0)],.i 0]) []:=AM.ac (CI ah cv Nk Fh kR kR) (by decide)
def Pe:ByteArray:=⟨#[102]⟩
def Kc(l:List Int):V:= .agg (.c (.string Pe)::l.map V.i)
theorem Iz:AC Tryz.prog 100 [Kc [1000,400,10,0,0,0,0],.agg [.i 95,.i 20,.i 0]] (.tup [.i 200,.i 0]) []:=AM.ac (CI ah cv Nk Fh kR kR) (by decide)
def Qf:List (FuncId×List V×V):=[(14,[wU,C5 [(0,0),(100,100),(0,0)]],.tup [C4 Iv,.i 0]),(21,[wU,C4 Iv,.i 1000],.tup [.i 31831,.i 0]),(144,[.agg [sU [64],sU [128],.i 256],sU [100,0,0, -3]],.tup [Iw [100,75,37,15],.i 0]),(145,[Kf,Ke],.tup [C4 [(5, -5),(2,0)],.i 0])]
theorem OA:jv Tryz.prog Qf:=cN Lf rfl rfl (cN Pf rfl rfl (cN Nl rfl rfl (cN Lg rfl rfl kU)))
theorem Ag:AC Tryz.prog 101 [] (.b true) []:=AM.ac (CJ (O:=zJ Qf) ah cv [] [] (fun _=>nC OA) kR kR) (by decide)
def P8(a b:List Pt)(k:Nat):Prop:=(gp a k).2<=(gp b k).2/\(gp b k).1<=(gp a k).1
def D4(a b:List Pt):Prop:=a.length=b.length/\∀k,k< a.length->P8 a b k
instance (a b:List Pt):Decidable (D4 a b):=by unfold D4 P8;infer_instance
def OJ(a b:List Int):Prop:=a.length=b.length/\∀k,k< a.length->gi a k<=gi b k
theorem OJ.trans{a b c:List Int}(h:OJ a b)(k:OJ b c):OJ a c:=⟨h.1.trans k.1,fun i hi=>Int.le_trans (h.2 i hi) (k.2 i (by rw [<-h.1];exact hi))⟩
end Go.Proofs.YtjmbpjlojjgggaaGreatDoor
