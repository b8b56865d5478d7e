/-
  Several texts in one: The small examples of the layers up to 6. No condition. .. Recipes and acts as arguments of laws. No condition but those told in each theorem.
-/
import Derived.Test.YtdgkdpgjnilmjaaGreatDoorX10
import Derived.Test.YtdgkdpgjnilmjaaGreatDoorX01
import Derived.Test.YtdgkdpgjnilmjaaGreatDoorX11
import Derived.Test.YtdgkdpgjnilmjaaGreatDoorX08
import Derived.Test.YtdgkdpgjnilmjaaGreatDoorX06
import Derived.Test.YtdgkdpgjnilmjaaGreatDoorMC
import Derived.Test.YtdgkdpgjnilmjaaGreatDoorX09
set_option maxRecDepth 100000
namespace Go.Proofs.YtdgkdpgjnilmjaaGreatDoor
open Go.Ab Go.RowKit Go.Dw Go.Shelf
def Hp:List Pt:=[(-100,100),(-100,90),(-95,100)]
theorem Jl:AC Tryz.prog 11 [.agg [V.ints [0,2,10]],V.pts Hp] (.tup [V.pts [(-100,92),(-97,90),(-95,92)],.i 0]) []:=by have A:=Cb [0,2,10] Hp (by decide) (by decide);rw [show iD [0,2,10] Hp=[(-100,92),(-97,90),(-95,92)] by decide +kernel,show b6 [0,2,10] Hp=0 by decide +kernel]at A;exact A
theorem Ej{i:Nat}(h:i< 3):i=0\/i=1\/i=2:=by omega
def Jb:List V:=[.agg [pg [0,2,10]],yo Hp]
def Jc:V:= .tup [V.pts [(-100,92),(-97,90),(-95,92)],.i 0]
theorem DD:AC Tryz.prog 11 Jb Jc []:=Jl.conv ⟨bL.HR ⟨bL.rows rfl fun i hi=>by rcases Ej hi with rfl |rfl |rfl <;> rfl,trivial⟩,bL.rows rfl fun i hi=>by rcases Ej hi with rfl |rfl |rfl <;> rfl,trivial⟩
def IP:List V:=[.agg [.i 2,.i 1000,.i 100,.i 10,.i 1,.i 100],yo [(-20,20),(-20,20),(-20,20),(-20,50),(-20,20)]]
theorem DC:AM Tryz.prog 32 IP [] (.tup [.own 0,.i 0]) [] [.row 2 1 5 (rowOf [[.i 980],[.i 979],[.i 930],[.i 899],[.i 880]])]:=qS az d9 [] [] kR kR
theorem FD:AC Tryz.prog 32 IP (.tup [CJ [980,979,930,899,880],.i 0]) []:=AC.BE (DC.ac (by decide)) rfl (fun _ _=>rfl) (Ao _ rfl) rfl rfl
def Ja:List (FuncId×List V×V):=[(32,IP,.tup [CJ [980,979,930,899,880],.i 0]),(33,[DZ [1000,400,10,0,0,0,0],.agg [.i 95,.i 20,.i 0]],.tup [.i 200,.i 0]),(34,[],.b true)]
theorem Ho:j3 Tryz.prog Ja:=cR FD rfl rfl (cR CL rfl rfl (cR vX rfl rfl oo))
theorem vY:AC Tryz.prog 13 [] (.b true) []:=AM.ac (Cw (O:=Bk Ja) az d9 [] [] (fun _=>rD Ho) kR kR) (by decide)
def IQ:List Nat:=[8,15,17,18,19,37,24,43]
def Jm:ML:=[(7,[12]),(12,[5]),(29,[3])]
def Jd:List (FuncId×List V×V):=[(11,Jb,Jc),(13,[],.b true)]
theorem Hq:j3 Tryz.prog Jd:=cR DD rfl rfl (cR vY rfl rfl oo)
theorem oU:AC Tryz.prog 5 [] (.b true) []:=AM.ac (Cw (O:=Bk Jd) az d9 Jm IQ (fun _=>rD Hq) kR kR) (by decide)
section
variable {W LB:Nat->Prop}{d:Nat}{ty:TypeId}{pos:String}{af:Array Edge}{ev:Operand->V}{fo:Operand}{ar:Array Operand}{ats:Array TypeId}{nx:Nat}{S:Sh}
theorem zQ(hwl:∀b,W b->LB b)(hS:S.ok)(hl:S.l<=60)(a:Act)(h3:a.kind=1\/a.kind=2\/a.kind=3)(hf:ev fo= .fn (.func 8) [] [])(hargs:ar.toList.map ev=[.ref 500 0,a.v])(hd:d< 1000)(hnx:1<=nx) : ux Tryz.prog W LB ⟨some d,.call {callee:= .value fo,args:=ar,argTypes:=ats},ty,pos,af,none⟩ ev nx d S (bZ S a).1 (.tup [.i (bZ S a).2.1,.i (bZ S a).2.2]):=by
 have hn:S.n<=200:=by have:=hS.n;omega
 have hq:S.q<=60:=by have:=hS.q;omega
 have hm:=hS.m;by_cases hv:cI a=false;·rw [show bZ S a=(S,0,2) by rw [bZ,if_pos hv]];exact u9 hwl (fun x=>EI S.r S.n x S.m S.tk S.q S.g S.l a oM hv) rfl hf hargs hd
 have hv:cI a=true:=by simpa using hv
 obtain⟨kind,cut,area,stock,yield,plate,bath,s0,s1,cur,sec,place,flaw⟩:=a;obtain⟨A,hA⟩:∃A:Act,A=⟨kind,cut,area,stock,yield,plate,bath,s0,s1,cur,sec,place,flaw⟩:=⟨_,rfl⟩;by_cases k1:kind=1
 ·subst k1;rw [<-hA,show bZ S A=({S with n:=S.n+1,pl:=fy S.pl S.n (fc A),l:=S.l+1},(S.n:Int),0) by rw [bZ,if_neg (by rw [hA,hv];simp),if_pos (by rw [hA])]];try rw [hA]
  exact Aj hwl (fun x=>o9 S.r S.n x S.m S.tk S.q S.g S.l _ oM hv (vr S.r S.n x S.m S.tk S.q S.g S.l _ hn)) rfl hf hargs hd hnx hn
 by_cases k2:kind=2
 ·subst k2;by_cases c:S.m< 8;·rw [<-hA,show bZ S A=({S with m:=S.m+1,tk:=jL S.m S.tk A,l:=S.l+1},(S.m:Int),0) by rw [bZ,if_neg (by rw [hA,hv];simp),if_neg (by rw [hA];simp),if_pos (by rw [hA]),if_pos c],hA];exact ye hwl (fun x=>uZ S.r S.n x S.m S.tk S.q S.g S.l _ oM hv (Cu S.r S.n x S.m S.tk S.q S.g S.l _ c)) rfl hf hargs hd hnx hn
  ·rw [<-hA,show bZ S A=(S,0,11) by rw [bZ,if_neg (by rw [hA,hv];simp),if_neg (by rw [hA];simp),if_pos (by rw [hA]),if_neg c]];exact u9 hwl (fun x=>uY S.r S.n x S.m S.tk S.q S.g S.l (by simp) oM hv (zX S.r S.n x S.m S.tk S.q S.g S.l _ c)) rfl hf hargs hd
 by_cases k3:kind=3
 ·subst k3;have hg:=zv rfl hv;have e0:bZ S A=if ¬(0<=A.plate/\A.plate< S.n)then(S,(0:Int),(5:Int))else if ¬(0<=A.bath/\A.bath< S.m)then(S,0,5)else if bK S.r S.n (S.pl A.plate.toNat) A≠0 then(S,0,bK S.r S.n (S.pl A.plate.toNat) A)else if bV S.r (S.pl A.plate.toNat) (S.tk A.bath.toNat) A≠0 then(S,0,bV S.r (S.pl A.plate.toNat) (S.tk A.bath.toNat) A) else({S with n:=S.n+1,pl:=fy (kZ S.pl A.plate.toNat (S.pl A.plate.toNat).under) S.n ((S.pl A.plate.toNat).over A.plate (bp (S.pl A.plate.toNat) (S.tk A.bath.toNat) A)),tk:=k8 S.tk A.bath.toNat ((S.tk A.bath.toNat).used A),l:=S.l+1},(S.n:Int),0):=by
   rw [bZ,if_neg (by rw [hA,hv];simp),if_neg (by rw [hA];simp),if_neg (by rw [hA];simp),if_pos (by rw [hA])]
  by_cases c:0<=plate/\plate< S.n
  ·obtain⟨k,hk⟩:∃k:Nat,plate=k:=⟨plate.toNat,by omega⟩;have hkn:k< S.n:=by omega
   have hkt:A.plate.toNat=k:=by rw [hA];show plate.toNat=k;omega
   have hz:=hS.pl k hkn;rw [if_neg (by rw [hA];exact not_not_intro c),hkt]at e0;by_cases c2:0<=bath/\bath< S.m
   ·obtain⟨ht,hc1,hc2⟩:=hS.tk bath.toNat oM;have hcc:0<=(S.tk bath.toNat).charge/\(S.tk bath.toNat).charge<=1000000000000000:=⟨hc1,by omega⟩;rw [if_neg (by rw [hA];exact not_not_intro c2)]at e0;by_cases c3:bK S.r S.n (S.pl k) A=0
    ·obtain⟨z1,z2,z3⟩:=wG hz c3;rw [if_neg (by rw [c3];simp)]at e0;by_cases c4:bV S.r (S.pl k) (S.tk A.bath.toNat) A=0
     ·rw [if_neg (by rw [c4];simp)]at e0;rw [<-hA,e0];try rw [hA]
      rw [hA]at c3 c4;exact yf hkn hwl (fun x=>u7 S.r S.n k x S.m S.tk S.q S.g S.l (S.pl k) _ _ _ oM hv (CZ S.r hS.r S.n k x S.m S.tk S.q S.g S.l (S.pl k) hz z1 _ hg hk hkn hn c2 hm ht hcc c3 c4)) rfl hf hargs hd hnx hn
     ·rw [if_pos c4]at e0;rw [<-hA,e0];try rw [hA]
      rw [hA]at c3 c4;exact vb hkn hwl (fun x=>ke S.r S.n k x S.m S.tk S.q S.g S.l (S.pl k) c4 oM hv (AD S.r hS.r S.n k x S.m S.tk S.q S.g S.l (S.pl k) hz z1 _ hg hk hkn oM c2 hm ht c3 c4)) rfl hf hargs hd
    ·rw [if_pos c3]at e0;rw [<-hA,e0];try rw [hA]
     rw [hA]at c3;exact vb hkn hwl (fun x=>ke S.r S.n k x S.m S.tk S.q S.g S.l (S.pl k) c3 oM hv (AB S.r hS.r S.n k x S.m S.tk S.q S.g S.l (S.pl k) hz _ hg hk hkn oM c2 hm c3)) rfl hf hargs hd
   ·rw [if_pos (by rw [hA];exact c2)]at e0;rw [<-hA,e0];try rw [hA]
    exact vb hkn hwl (fun x=>ke S.r S.n k x S.m S.tk S.q S.g S.l (S.pl k) (by simp) oM hv (AA S.r S.n k x S.m S.tk S.q S.g S.l (S.pl k) _ hk hkn oM c2 hm)) rfl hf hargs hd
  ·rw [if_pos (by rw [hA];exact c)]at e0;rw [<-hA,e0];try rw [hA]
   exact u9 hwl (fun x=>u0 S.r S.n x S.m S.tk S.q S.g S.l (by simp) oM hv (AE S.r S.n x S.m S.tk S.q S.g S.l _ c oM hm)) rfl hf hargs hd
 exact absurd h3 (by rintro(h |h |h) <;> contradiction)
end
abbrev pJ:Go.Ab.Sh:=(.jQ (.arr 4 (.int .i64)) (.jQ (.arr 4 (.int .i64)) (.jQ (.int .i64) (.jQ (.int .i64) (.jQ (.int .i64) (.jQ (.int .i64) (.lst (.int .i64))))))))
def FB:pJ.T->Rc
 | (n,k,a,b,c,d,e)=>⟨gi n 0,gi n 1,gi n 2,gi n 3,gi k 0,gi k 1,gi k 2,gi k 3,a,b,c,d,e⟩
theorem FC(x:pJ.T)(h:pJ.wf x):pJ.cells x=(FB x).c:=by
 obtain⟨n,k,a,b,c,d,e⟩:=x;obtain⟨⟨h1,_⟩,⟨h2,_⟩,_⟩:=h;match n,k,h1,h2 with
 | [_,_,_,_],[_,_,_,_],_,_=>rfl
theorem Fv(x:pJ.T)(h:pJ.wf x):bL (pJ.val x) (FB x).v:=by rw [show pJ.val x= .agg (pJ.cells x)from rfl,FC x h];exact bL.refl _
end Go.Proofs.YtdgkdpgjnilmjaaGreatDoor
