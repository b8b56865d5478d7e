/-
  Several texts in one: What a tip misses: the reference's copy, and both exported functions. No condition. .. Plating shops of many plates: what lacquers, baths and growths do. Conditions: told in each theorem.
-/
import Derived.Test.YtjmbpjlojjgggaaGreatDoorX11
import Derived.Test.YtjmbpjlojjgggaaGreatDoorX05
import Derived.Test.YtjmbpjlojjgggaaGreatDoorX10
import Derived.Test.YtjmbpjlojjgggaaGreatDoorX00
import Derived.Test.YtjmbpjlojjgggaaGreatDoorX08
set_option maxRecDepth 100000
namespace Go.Proofs.YtjmbpjlojjgggaaGreatDoor
open Go.Ab Go.RowKit Go.Dw Go.Shelf
def MO:List Pt:=[(-100,100),(-100,90),(-95,100)]
theorem OB:AC Tryz.prog 22 [.agg [V.ints [0,2,10]],V.pts MO] (.tup [V.pts [(-100,92),(-97,90),(-95,92)],.i 0]) []:=by have A:=Gz [0,2,10] MO (by decide) (by decide);rw [show jH [0,2,10] MO=[(-100,92),(-97,90),(-95,92)] by decide +kernel,show bV [0,2,10] MO=0 by decide +kernel]at A;exact A
theorem Jl{i:Nat}(h:i< 3):i=0\/i=1\/i=2:=by omega
def On:List V:=[.agg [sD [0,2,10]],Ci MO]
def Oo:V:= .tup [V.pts [(-100,92),(-97,90),(-95,92)],.i 0]
theorem Iv:AC Tryz.prog 22 On Oo []:=OB.conv ⟨cA.Nd ⟨cA.rows rfl fun i hi=>by rcases Jl hi with rfl |rfl |rfl <;> rfl,trivial⟩,cA.rows rfl fun i hi=>by rcases Jl hi with rfl |rfl |rfl <;> rfl,trivial⟩
def NX:List V:=[.agg [.i 2,.i 1000,.i 100,.i 10,.i 1,.i 100],Ci [(-20,20),(-20,20),(-20,20),(-20,50),(-20,20)]]
theorem Iu:AM Tryz.prog 28 NX [] (.tup [.own 0,.i 0]) [] [.row 2 1 5 (rowOf [[.i 980],[.i 979],[.i 930],[.i 899],[.i 880]])]:=BZ ah cZ [] [] kR kR
theorem KU:AC Tryz.prog 28 NX (.tup [Hh [980,979,930,899,880],.i 0]) []:=AC.A8 (Iu.ac (by decide)) rfl (fun _ _=>rfl) (Eu _ rfl) rfl rfl
def Om:List (FuncId×List V×V):=[(28,NX,.tup [Hh [980,979,930,899,880],.i 0]),(100,[IY [1000,400,10,0,0,0,0],.agg [.i 95,.i 20,.i 0]],.tup [.i 200,.i 0]),(101,[],.b true)]
theorem MN:j5 Tryz.prog Om:=cC KU rfl rfl (cC Hj rfl rfl (cC zT rfl rfl nE))
theorem zU:AC Tryz.prog 47 [] (.b true) []:=AM.ac (D4 (O:=CH Om) ah cZ [] [] (fun _=>qi MN) kR kR) (by decide)
def NY:List Nat:=[13,49,51,52,53,104,71,129]
def OC:ML:=[(12,[12]),(32,[5]),(82,[3])]
def Oq:List (FuncId×List V×V):=[(22,On,Oo),(47,[],.b true)]
theorem MP:j5 Tryz.prog Oq:=cC Iv rfl rfl (cC zU rfl rfl nE)
theorem zV:AC Tryz.prog 11 [] (.b true) []:=AM.ac (D4 (O:=CH Oq) ah cZ OC NY (fun _=>qi MP) kR kR) (by decide)
theorem KV:AC Tryz.prog 86 [.i 10,.i 0,.i 5,.i 0,.i 100] (.tup [.i 3,.i 0,.i 0]) []:=by have A:=vO 10 5 0 100 (by decide) (by decide) (by decide) (by decide);rw [show Ij 10 5 0 100=3 by decide +kernel]at A;rw [show rU 10 5 0 100 (3:Int).toNat=0 by decide +kernel]at A;exact A
def Ot:List (FuncId×List V×V):=[(86,[.i 10,.i 0,.i 5,.i 0,.i 100],.tup [.i 3,.i 0,.i 0]),(11,[],.b true)]
theorem MQ:j5 Tryz.prog Ot:=cC KV rfl rfl (cC zV rfl rfl nE)
theorem mM:AC Tryz.prog 33 [] (.b true) []:=AM.ac (D4 (O:=CH Ot) ah cZ [] [] (fun _=>qi MQ) kR kR) (by decide)
section
variable {W LB:Nat->Prop}{d:Nat}{ty:TypeId}{pos:String}{af:Array Edge}{ev:Operand->V}{fo:Operand}{ar:Array Operand}{ats:Array TypeId}{nx:Nat}{S:Sh}
theorem n7(hwl:∀b,W b->LB b)(hS:S.ok)(hl:S.l<=60)(a:Act)(h3:a.kind=1\/a.kind=2\/a.kind=3)(hf:ev fo= .fn (.func 13) [] [])(hargs:ar.toList.map ev=[.ref 500 0,a.v])(hd:d< 1000)(hnx:1<=nx) : x7 Tryz.prog W LB ⟨some d,.call {callee:= .value fo,args:=ar,argTypes:=ats},ty,pos,af,none⟩ ev nx d S (aN S a).1 (.tup [.i (aN S a).2.1,.i (aN S a).2.2]):=by
 have hn:S.n<=200:=by have:=hS.n;omega
 have hq:S.q<=60:=by have:=hS.q;omega
 have hm:=hS.m;by_cases hv:b8 a=false;·rw [show aN S a=(S,0,2) by rw [aN,if_pos hv]];exact yV hwl (fun x=>JS S.r S.n x S.m S.tk S.q S.g S.l a oM hv) rfl hf hargs hd
 have hv:b8 a=true:=by simpa using hv
 obtain⟨kind,cut,area,stock,yield,plate,bath,s0,s1,cur,sec,place,flaw⟩:=a;obtain⟨A,hA⟩:∃A:Act,A=⟨kind,cut,area,stock,yield,plate,bath,s0,s1,cur,sec,place,flaw⟩:=⟨_,rfl⟩;by_cases k1:kind=1
 ·subst k1;rw [<-hA,show aN S A=({S with n:=S.n+1,pl:=dI S.pl S.n (ot A),l:=S.l+1},(S.n:Int),0) by rw [aN,if_neg (by rw [hA,hv];simp),if_pos (by rw [hA])]];try rw [hA]
  exact Ek hwl (fun x=>sB S.r S.n x S.m S.tk S.q S.g S.l _ oM hv (zh S.r S.n x S.m S.tk S.q S.g S.l _ hn)) rfl hf hargs hd hnx hn
 by_cases k2:kind=2
 ·subst k2;by_cases c:S.m< 8;·rw [<-hA,show aN S A=({S with m:=S.m+1,tk:=ki S.m S.tk A,l:=S.l+1},(S.m:Int),0) by rw [aN,if_neg (by rw [hA,hv];simp),if_neg (by rw [hA];simp),if_pos (by rw [hA]),if_pos c],hA];exact Ca hwl (fun x=>yQ S.r S.n x S.m S.tk S.q S.g S.l _ oM hv (GV S.r S.n x S.m S.tk S.q S.g S.l _ c)) rfl hf hargs hd hnx hn
  ·rw [<-hA,show aN S A=(S,0,11) by rw [aN,if_neg (by rw [hA,hv];simp),if_neg (by rw [hA];simp),if_pos (by rw [hA]),if_neg c]];exact yV hwl (fun x=>yP S.r S.n x S.m S.tk S.q S.g S.l (by simp) oM hv (DZ S.r S.n x S.m S.tk S.q S.g S.l _ c)) rfl hf hargs hd
 by_cases k3:kind=3
 ·subst k3;have hg:=Dz rfl hv;have e0:aN S A=if ¬(0<=A.plate/\A.plate< S.n)then(S,(0:Int),(5:Int))else if ¬(0<=A.bath/\A.bath< S.m)then(S,0,5)else if cq S.r S.n (S.pl A.plate.toNat) A≠0 then(S,0,cq S.r S.n (S.pl A.plate.toNat) A)else if cJ S.r (S.pl A.plate.toNat) (S.tk A.bath.toNat) A≠0 then(S,0,cJ S.r (S.pl A.plate.toNat) (S.tk A.bath.toNat) A) else({S with n:=S.n+1,pl:=dI (fD S.pl A.plate.toNat (S.pl A.plate.toNat).under) S.n ((S.pl A.plate.toNat).over A.plate (cg (S.pl A.plate.toNat) (S.tk A.bath.toNat) A)),tk:=jP S.tk A.bath.toNat ((S.tk A.bath.toNat).used A),l:=S.l+1},(S.n:Int),0):=by
   rw [aN,if_neg (by rw [hA,hv];simp),if_neg (by rw [hA];simp),if_neg (by rw [hA];simp),if_pos (by rw [hA])]
  by_cases c:0<=plate/\plate< S.n
  ·obtain⟨k,hk⟩:∃k:Nat,plate=k:=⟨plate.toNat,by omega⟩;have hkn:k< S.n:=by omega
   have hkt:A.plate.toNat=k:=by rw [hA];show plate.toNat=k;omega
   have hz:=hS.pl k hkn;rw [if_neg (by rw [hA];exact not_not_intro c),hkt]at e0;by_cases c2:0<=bath/\bath< S.m
   ·obtain⟨ht,hc1,hc2⟩:=hS.tk bath.toNat oM;have hcc:0<=(S.tk bath.toNat).charge/\(S.tk bath.toNat).charge<=1000000000000000:=⟨hc1,by omega⟩;rw [if_neg (by rw [hA];exact not_not_intro c2)]at e0;by_cases c3:cq S.r S.n (S.pl k) A=0
    ·obtain⟨z1,z2,z3⟩:=uQ hz c3;rw [if_neg (by rw [c3];simp)]at e0;by_cases c4:cJ S.r (S.pl k) (S.tk A.bath.toNat) A=0
     ·rw [if_neg (by rw [c4];simp)]at e0;rw [<-hA,e0];try rw [hA]
      rw [hA]at c3 c4;exact Cb hkn hwl (fun x=>yT S.r S.n k x S.m S.tk S.q S.g S.l (S.pl k) _ _ _ oM hv (Hy S.r hS.r S.n k x S.m S.tk S.q S.g S.l (S.pl k) hz z1 _ hg hk hkn hn c2 hm ht hcc c3 c4)) rfl hf hargs hd hnx hn
     ·rw [if_pos c4]at e0;rw [<-hA,e0];try rw [hA]
      rw [hA]at c3 c4;exact yW hkn hwl (fun x=>mq S.r S.n k x S.m S.tk S.q S.g S.l (S.pl k) c4 oM hv (EJ S.r hS.r S.n k x S.m S.tk S.q S.g S.l (S.pl k) hz z1 _ hg hk hkn oM c2 hm ht c3 c4)) rfl hf hargs hd
    ·rw [if_pos c3]at e0;rw [<-hA,e0];try rw [hA]
     rw [hA]at c3;exact yW hkn hwl (fun x=>mq S.r S.n k x S.m S.tk S.q S.g S.l (S.pl k) c3 oM hv (EI S.r hS.r S.n k x S.m S.tk S.q S.g S.l (S.pl k) hz _ hg hk hkn oM c2 hm c3)) rfl hf hargs hd
   ·rw [if_pos (by rw [hA];exact c2)]at e0;rw [<-hA,e0];try rw [hA]
    exact yW hkn hwl (fun x=>mq S.r S.n k x S.m S.tk S.q S.g S.l (S.pl k) (by simp) oM hv (EH S.r S.n k x S.m S.tk S.q S.g S.l (S.pl k) _ hk hkn oM c2 hm)) rfl hf hargs hd
  ·rw [if_pos (by rw [hA];exact c)]at e0;rw [<-hA,e0];try rw [hA]
   exact yV hwl (fun x=>yS S.r S.n x S.m S.tk S.q S.g S.l (by simp) oM hv (EL S.r S.n x S.m S.tk S.q S.g S.l _ c oM hm)) rfl hf hargs hd
 exact absurd h3 (by rintro(h |h |h) <;> contradiction)
end
end Go.Proofs.YtjmbpjlojjgggaaGreatDoor
