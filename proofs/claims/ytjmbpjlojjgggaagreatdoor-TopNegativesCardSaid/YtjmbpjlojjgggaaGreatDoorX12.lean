/-
  Several texts in one: The document's reading and sweeping are the program's: plain laws, and the contracts of 'Read' and 'Sweep' of the document. No condition but the sizes of slices. .. The small examples of the layers up to 5, run by the machine. No condition.
-/
import Derived.Test.YtjmbpjlojjgggaaGreatDoorX11
import Derived.Test.YtjmbpjlojjgggaaGreatDoorX05
import Derived.Test.YtjmbpjlojjgggaaGreatDoorX00
set_option maxRecDepth 100000
namespace Go.Proofs.YtjmbpjlojjgggaaGreatDoor
open Go.RowKit Go.Dw
theorem o9{t:List Int}{l:List Pt}{i:Nat}{x:Int}:∀k,x<=(jn t l i k).2<->x<=(gp l i).2/\∀u,u< k->dc u i< t.length->x<=(gp l u).2+gi t (dc u i)
  |0=>by simp [jn]
  |k+1=>by
    rw [qA,wK]
    have ih:=o9 (t:=t) (l:=l) (i:=i) (x:=x) k
    by_cases hd:dc k i< t.length
    · rw [if_pos hd]
      constructor
      · intro h
        have h1:=ih.1 (by simp only at h;omega)
        refine⟨h1.1,fun u hu hdu=> ?_⟩
        rcases Nat.lt_succ_iff_lt_or_eq.1 hu with h2 |rfl
        · exact h1.2 u h2 hdu
        · simp only at h;omega
      · rintro⟨h1,h2⟩
        have h3:=ih.2 ⟨h1,fun u hu hdu=>h2 u oM hdu⟩
        have h4:=h2 k oM hd
        simp only;omega
    · rw [if_neg hd,ih]
      refine and_congr_right fun _=>⟨fun h u hu hdu=> ?_,fun h u hu hdu=>h u oM hdu⟩
      rcases Nat.lt_succ_iff_lt_or_eq.1 hu with h2 |rfl
      · exact h u h2 hdu
      · exact absurd hdu hd
theorem pL{t:List Int}{l:List Pt}{i:Nat}{x:Int}:∀k,(jn t l i k).1<=x<->(gp l i).1<=x/\∀u,u< k->dc u i< t.length->(gp l u).1- gi t (dc u i)<=x
  |0=>by simp [jn]
  |k+1=>by
    rw [qA,wK]
    have ih:=pL (t:=t) (l:=l) (i:=i) (x:=x) k
    by_cases hd:dc k i< t.length
    · rw [if_pos hd]
      constructor
      · intro h
        have h1:=ih.1 (by simp only at h;omega)
        refine⟨h1.1,fun u hu hdu=> ?_⟩
        rcases Nat.lt_succ_iff_lt_or_eq.1 hu with h2 |rfl
        · exact h1.2 u h2 hdu
        · simp only at h;omega
      · rintro⟨h1,h2⟩
        have h3:=ih.2 ⟨h1,fun u hu hdu=>h2 u oM hdu⟩
        have h4:=h2 k oM hd
        simp only;omega
    · rw [if_neg hd,ih]
      refine and_congr_right fun _=>⟨fun h u hu hdu=> ?_,fun h u hu hdu=>h u oM hdu⟩
      rcases Nat.lt_succ_iff_lt_or_eq.1 hu with h2 |rfl
      · exact h u h2 hdu
      · exact absurd hdu hd
theorem nJ{a b:Int}(h:∀x,x<=a<->x<=b):a=b:=Int.le_antisymm ((h a).1 (Int.le_refl _)) ((h b).2 (Int.le_refl _))
theorem AK(t:List Int)(l:List Pt):iZ t l l.length=dG t l:=J8 fun inn=>by
 rw [uN];refine qu (by simp [dI,iZ,qB,ow]) fun k hk=> ?_;have hk':k< l.length:=by simpa [dI,iZ]using hk
 have e:gp (iZ t l l.length) k=jn t l k l.length:=by rw [gR (by simpa [iZ]using hk')];simp [iZ]
 rw [jR (by simpa [iZ]using hk'),e,qB,Gc (by rw [dI];exact hk')];refine nJ fun x=> ?_;rw [DP,jR hk',dI];cases inn;·simp only [jW,Bool.false_eq_true,if_false];rw [o9];exact and_congr_right fun _=>⟨fun h j hj hd=>by rw [jR hj];exact h j hj hd,fun h j hj hd=>by have:=h j hj hd;rw [jR hj]at this;exact this⟩
 ·simp only [jW,if_true];have:=pL (t:=t) (l:=l) (i:=k) (x:= -x) l.length;constructor;·intro h;have h1:=this.1 oM;exact⟨by omega,fun j hj hd=>by rw [jR hj];have:=h1.2 j hj hd;simp only [jW,if_true];omega⟩
  ·rintro⟨h1,h2⟩;have:=this.2 ⟨by omega,fun j hj hd=>by have:=h2 j hj hd;rw [jR hj]at this;simp only [jW,if_true]at this;omega⟩;omega
theorem vY{a b:Int}(h:∀x,a<=x<->b<=x):a=b:=Int.le_antisymm ((h b).2 (Int.le_refl _)) ((h a).1 (Int.le_refl _))
open Go.Ab Go.Shelf
theorem J5{w:World}{L:Nat->Prop}{t:List Int}{l:List Pt}{vs:Array Value}(hL:∀b,L b->b< w.heap.size)(h:RV w L ρ0 [.agg [V.ints t],V.pts l] vs.toList) : ∃A c B d,vs= #[.agg #[.slice A t.length c],.slice B l.length d]/\dW w A t.length t/\me w B l.length l:=by
 obtain⟨vs⟩:=vs;obtain⟨x1,e1,q1⟩:=h.get (i:=0) rfl;obtain⟨x2,e2,q2⟩:=h.get (i:=1) rfl;obtain⟨xs,rfl,hx⟩:=q1.eY;obtain⟨xs⟩:=xs;obtain⟨y,e3,q3,_⟩:=hx.get (i:=0) rfl;obtain⟨A,c,rfl,_,ha⟩:=rU q3 hL;obtain⟨B,d,rfl,_,hb⟩:=Cy q2 hL;have hn:=h.1;have hm:=hx.1;refine⟨A,c,B,d,?_,ha,hb⟩;match vs,hn,xs,hm with
 | [a,b],_,[x],_=>simp at e1 e2 e3;subst e1 e2 e3;rfl
theorem zB{P:Program}{f:FuncId}{args:List V}{x:Value}(he:∀(args:Array Value) (w:World),(callFunc f args).run P w= .ok (.enter f args) w) (h:∀(L:Nat->Prop) (w:World) (vs:Array Value),(∀b,L b->b< w.heap.size)->RV w L ρ0 args vs.toList->Calls P f vs w fun e w'=>e= .returned x/\Below w.heap.size w w'):AC P f args (.c x) []:=by refine qa he fun L w vs hL hvs=>(h L w vs hL hvs).mono ?_;rintro e w' ⟨rfl,hb⟩;exact⟨_,rfl,hb,fun _=>False,fun _ h=>h.elim,.c _ _⟩
theorem CA{P:Program}{f:FuncId}{args:List V}{e0:TypeId}{l:List Pt}{n:Nat}{k:Int}(he:∀(args:Array Value) (w:World),(callFunc f args).run P w= .ok (.enter f args) w) (h:∀(L:Nat->Prop) (w:World) (vs:Array Value),(∀b,L b->b< w.heap.size)->RV w L ρ0 args vs.toList->Calls P f vs w fun e w'=>∃v,e= .returned (.tuple #[v,.int .i64 k])/\w'.ownsRow w.heap.size e0 2 v n (l.flatMap o4)/\Below w.heap.size w w'):AC P f args (.tup [V.pts l,.i k]) []:=by refine qa he fun L w vs hL hvs=>(h L w vs hL hvs).mono ?_;rintro e w' ⟨v,rfl,ho,hb⟩;obtain⟨N,hN,hr⟩:=D3 ho;exact⟨_,rfl,hb,N,hN,.wQ (.cons ((hr ρ0).ext ⟨fun b hb=>⟨.inr hb,rfl⟩,fun _ _ h=>h⟩) (.cons (.c _ _) .nil))⟩
section
variable (t:List Int) (l:List Pt) (ht:t.length<=4611686018427387904) (hl:l.length<=4611686018427387904)
include ht hl
theorem vu:AC Tryz.prog 22 [.agg [V.ints t],V.pts l] (.tup [V.pts (iI t l),.i (bZ t l)]) []:=by refine CA (e0:=47) (n:=(iI t l).length) (enters_of Tryz.func22 kR rfl) fun L w vs hL hvs=> ?_;obtain⟨A,c,B,d,rfl,ha,hb⟩:=J5 hL hvs;exact zz A _ c t B _ d l w ha hb ht hl
end
theorem x7{t:List Int}{l:List Pt}{i:Nat}(hi:i< l.length):gp (dG t l) i=jn t l i l.length:=by rw [<-AK,iZ,gR (by simpa using hi)];simp
theorem GF{t:List Int}{l:List Pt}{i:Nat}(hi:i< l.length){x:Int}:x<=(gp (dG t l) i).2<->x<=(gp l i).2/\∀u,u< l.length->dc u i< t.length->x<=(gp l u).2+gi t (dc u i):=by rw [x7 hi];exact o9 l.length
theorem Lr{t:List Int}{l:List Pt}{i:Nat}(hi:i< l.length){x:Int}:(gp (dG t l) i).1<=x<->(gp l i).1<=x/\∀u,u< l.length->dc u i< t.length->(gp l u).1- gi t (dc u i)<=x:=by rw [x7 hi];exact pL l.length
def cw(l:List Pt):List Pt:=l.map fun p=>(-p.2, -p.1)
theorem bG(l:List Pt):(cw l).length=l.length:=by simp [cw]
theorem gZ(l:List Pt)(i:Nat):gp (cw l) i=(-(gp l i).2, -(gp l i).1):=by simp only [gp,cw,List.getD_eq_getElem?_getD,List.getElem?_map];cases l[i]? <;> simp
theorem Hs{t:List Int}{l:List Pt}{i:Nat}(hi:i< l.length):gp (dG t (cw l)) i=(-(gp (dG t l) i).2, -(gp (dG t l) i).1):=by
 have hi':i< (cw l).length:=by rw [bG];exact hi
 refine Prod.ext (vY fun x=> ?_) (nJ fun x=> ?_)
 ·have e: -(gp (dG t l) i).2<=x<-> -x<=(gp (dG t l) i).2:=by omega
  show _<-> -(gp (dG t l) i).2<=x;rw [e,Lr hi',GF hi,bG,gZ];refine and_congr (by dsimp only;omega) (forall_congr' fun u=>forall_congr' fun _=>forall_congr' fun _=> ?_);rw [gZ];dsimp only;omega
 ·have e:x<= -(gp (dG t l) i).1<->(gp (dG t l) i).1<= -x:=by omega
  show _<->x<= -(gp (dG t l) i).1;rw [e,GF hi',Lr hi,bG,gZ];refine and_congr (by dsimp only;omega) (forall_congr' fun u=>forall_congr' fun _=>forall_congr' fun _=> ?_);rw [gZ];dsimp only;omega
def Pu:List Pt:=[(-100,100),(-100,90),(-95,100)]
theorem Rf:AC Tryz.prog 22 [.agg [V.ints [0,2,10]],V.pts Pu] (.tup [V.pts [(-100,92),(-97,90),(-95,92)],.i 0]) []:=by have A:=vu [0,2,10] Pu (by decide) (by decide);rw [show iI [0,2,10] Pu=[(-100,92),(-97,90),(-95,92)] by decide +kernel,show bZ [0,2,10] Pu=0 by decide +kernel]at A;exact A
theorem LM{i:Nat}(h:i< 3):i=0\/i=1\/i=2:=by omega
def Q3:List V:=[.agg [t8 [0,2,10]],DA Pu]
def Q4:V:= .tup [V.pts [(-100,92),(-97,90),(-95,92)],.i 0]
theorem KF:AC Tryz.prog 22 Q3 Q4 []:=Rf.conv ⟨cG.PW ⟨cG.rows rfl fun i hi=>by rcases LM hi with rfl |rfl |rfl <;> rfl,trivial⟩,cG.rows rfl fun i hi=>by rcases LM hi with rfl |rfl |rfl <;> rfl,trivial⟩
def QF:List V:=[.agg [.i 2,.i 1000,.i 100,.i 10,.i 1,.i 100],DA [(-20,20),(-20,20),(-20,20),(-20,50),(-20,20)]]
theorem KE:AM Tryz.prog 28 QF [] (.tup [.own 0,.i 0]) [] [.row 2 1 5 (rowOf [[.i 980],[.i 979],[.i 930],[.i 899],[.i 880]])]:=Dg ah bK [] [] kR kR
theorem Nv:AC Tryz.prog 28 QF (.tup [Jl [980,979,930,899,880],.i 0]) []:=AC.Cp (KE.ac (by decide)) rfl (fun _ _=>rfl) (FO _ rfl) rfl rfl
def Q0:List (FuncId×List V×V):=[(28,QF,.tup [Jl [980,979,930,899,880],.i 0]),(100,[Lj [1000,400,10,0,0,0,0],.agg [.i 95,.i 20,.i 0]],.tup [.i 200,.i 0]),(101,[],.b true)]
theorem Pr:mH Tryz.prog Q0:=eP Nv rfl rfl (eP Jn rfl rfl (eP Bg rfl rfl sW))
theorem Bh:AC Tryz.prog 47 [] (.b true) []:=AM.ac (Ja (O:=G8 Q0) ah bK [] [] (fun _=>wA Pr) kR kR) (by decide)
end Go.Proofs.YtjmbpjlojjgggaaGreatDoor
