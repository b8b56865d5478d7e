/-
  Several texts in one: The small examples of the layers up to 3, run by the machine. No condition. .. The document's 'read': what it computes. No condition but the sizes of slices, and their bounds.
-/
import Derived.Test.YtjmbpjlojjgggaaGreatDoorX10
import Derived.Test.YtjmbpjlojjgggaaGreatDoorMC
import Derived.Test.YtjmbpjlojjgggaaGreatDoorMD
import Derived.Test.YtjmbpjlojjgggaaGreatDoorX04
import Derived.Test.YtjmbpjlojjgggaaGreatDoorX05
set_option maxRecDepth 100000
namespace Go.Proofs.YtjmbpjlojjgggaaGreatDoor
open Go.Ab Go.RowKit Go.Dw Go.Shelf
def QZ:List (FuncId×List V×V):=[(14,[xR,DA [(0,0),(100,100),(0,0)]],.tup [Dz Jk,.i 0]),(21,[xR,Dz Jk,.i 1000],.tup [.i 31831,.i 0]),(144,[.agg [t8 [64],t8 [128],.i 256],t8 [100,0,0, -3]],.tup [Jl [100,75,37,15],.i 0]),(145,[Lm,Ll],.tup [Dz [(5, -5),(2,0)],.i 0])]
theorem Pq:mH Tryz.prog QZ:=eP Mv rfl rfl (eP Qa rfl rfl (eP On rfl rfl (eP Mw rfl rfl sW)))
theorem Bg:AC Tryz.prog 101 [] (.b true) []:=AM.ac (Ja (O:=G8 QZ) ah bK [] [] (fun _=>wA Pq) kR kR) (by decide)
def QS(a b:List Pt)(k:Nat):Prop:=(gp a k).2<=(gp b k).2/\(gp b k).1<=(gp a k).1
def EG(a b:List Pt):Prop:=a.length=b.length/\∀k,k< a.length->QS a b k
instance (a b:List Pt):Decidable (EG a b):=by unfold EG QS;infer_instance
def hts(b:Bool)(l:List Pt):List Int:=l.map (jW b)
def NS(a b:List Int):Prop:=a.length=b.length/\∀k,k< a.length->gi a k<=gi b k
theorem NS.refl(a:List Int):NS a a:=⟨rfl,fun _ _=>Int.le_refl _⟩
theorem NS.trans{a b c:List Int}(h:NS a b)(k:NS b c):NS a c:=⟨h.1.trans k.1,fun i hi=>Int.le_trans (h.2 i hi) (k.2 i (by rw [<-h.1];exact hi))⟩
theorem qu{a b:List Int}(hl:a.length=b.length)(h:∀k,k< a.length->gi a k=gi b k):a=b:=by refine List.ext_getElem hl fun i h1 h2=> ?_;have:=h i h1;rwa [kU h1,kU h2]at this
theorem ym{a b:List Pt}(hl:a.length=b.length)(h:∀k,k< a.length->gp a k=gp b k):a=b:=by refine List.ext_getElem hl fun i h1 h2=> ?_;have:=h i h1;rwa [gR h1,gR h2]at this
theorem xW(x:Int):∀(vs:List Int) (f:Int),x<=iC false f vs<->x<=f/\∀y∈vs,x<=y
 | [],f=>by simp [iC]
 |v::vs,f=>by
  have e:iC false f (v::vs)=iC false (min f v) vs:=by simp [iC,iY]
  rw [e,xW x vs];simp only [List.mem_cons,forall_eq_or_imp];constructor;·rintro⟨h1,h2⟩;exact⟨by omega,by omega,h2⟩
  ·rintro⟨h1,h2,h3⟩;exact⟨by omega,h3⟩
theorem JZ{i n r j:Nat}(hj:j< n)(hd:dc j i< r):∃k,k< fI i n r/\j=aM i r+k:=by
 unfold dc at hd;refine⟨j- aM i r,?_,?_⟩;·unfold fI aM;omega
 ·unfold aM;omega
theorem DP{t h:List Int}{i:Nat}{x:Int}:x<=gP t h false i<->x<=gi h i/\∀j,j< h.length->dc j i< t.length->x<=gi h j+gi t (dc j i):=by
 unfold gP;rw [xW];refine and_congr_right fun _=> ?_;simp only [List.mem_map,List.mem_range];constructor;·intro hh j hj hd;obtain⟨k,hk,rfl⟩:=JZ hj hd;exact hh _ ⟨k,hk,by simp⟩
 ·rintro hh y ⟨k,hk,rfl⟩;obtain⟨h1,h2⟩:=B5 hk;simpa using hh _ h1 h2
theorem Gc{t h:List Int}{d:Bool}{i:Nat}(hi:i< h.length):gi (jE t h d) i=gP t h d i:=by rw [kU (by simp [jE];exact hi)];simp [jE]
theorem dI(b:Bool)(l:List Pt):(hts b l).length=l.length:=by simp [hts]
theorem jR{b:Bool}{l:List Pt}{k:Nat}(hk:k< l.length):gi (hts b l) k=jW b (gp l k):=by rw [kU (by rw [dI];exact hk),gR hk];simp [hts]
theorem J8{a b:List Pt}(h:∀inn,hts inn a=hts inn b):a=b:=by
 have hl:a.length=b.length:=by have:=congrArg List.length (h true);simpa [dI]using this
 refine ym hl fun k hk=> ?_;have h0:=congrArg (gi · k) (h true);have h1:=congrArg (gi · k) (h false);simp only [jR hk,jR (show k< b.length by omega),jW]at h0 h1;exact Prod.ext (by simpa using h0) (by simpa using h1)
theorem DH{thr:List Int->List Int}{l:List Pt}(hthr:∀inn,(thr (hts inn l)).length=l.length)(b:Bool):hts b (f9 thr l)=thr (hts b l):=by
 have e0:∀inn,gi ((thr (hts inn l)).map (gv inn))=fun k=>gv inn (gi (thr (hts inn l)) k):=by intro inn;funext k;unfold gi;simp only [List.getD_eq_getElem?_getD,List.getElem?_map];cases (thr (hts inn l))[k]? <;> cases inn <;> simp [gv]
 refine qu (by rw [dI,hthr];simp [f9,fe]) fun k hk=> ?_;have hk':k< l.length:=by simpa [dI,f9,fe]using hk
 rw [jR (by simpa [f9,fe]using hk'),gR (by simpa [f9,fe]using hk')];have e1:=congrFun (e0 true) k;have e2:=congrFun (e0 false) k;simp only [hts]at e1 e2;cases b;·simp [f9,fe,jW,e2,hts,gv]
 ·simp [f9,fe,jW,e1,hts,gv]
theorem uN(t:List Int)(l:List Pt)(b:Bool):hts b (dG t l)=qB t (hts b l):=DH (fun inn=>by rw [qB,ow,dI]) b
def Bd(l:List Pt):Prop:=∀p∈l, -4194304<=p.1/\p.1<=4194304/\ -4194304<=p.2/\p.2<=4194304
theorem Dd{l:List Pt}(h:∀inn,∀x∈hts inn l, -4194304<=x/\x<=4194304):Bd l:=by intro p hp;have h0:=h true (jW true p) (List.mem_map.2 ⟨p,hp,rfl⟩);have h1:=h false (jW false p) (List.mem_map.2 ⟨p,hp,rfl⟩);simp [jW]at h0 h1;omega
theorem I4{t:List Int}{l:List Pt}(ht:∀x∈t,0<=x)(hl:Bd l):Bd (dG t l):=Dd fun inn=>by rw [uN];exact qH t _ false _ _ (pJ hl inn) ht
theorem j4(t:List Int)(l:List Pt):(dG t l).length=l.length:=by simp [dG,f9,fe]
theorem nE{t:List Int}{l:List Pt}(h:bL t=0)(k:cA l=0):bZ t l=0:=by rw [bZ,if_pos h];exact k
theorem vm{t:List Int}{l:List Pt}(h:bZ t l=0):iI t l=dG t l:=by simp [iI,h]
def wK(t:List Int)(l:List Pt)(i:Nat)(p:Pt)(u:Nat):Pt:=
 if dc u i< t.length then(max p.1 ((gp l u).1- gi t (dc u i)),min p.2 ((gp l u).2+gi t (dc u i)))else p
def jn(t:List Int)(l:List Pt)(i k:Nat):Pt:=(List.range k).foldl (wK t l i) (gp l i)
def iZ(t:List Int)(l:List Pt)(k:Nat):List Pt:=(List.range k).map fun i=>jn t l i l.length
theorem qA(t:List Int)(l:List Pt)(i k:Nat):jn t l i (k+1)=wK t l i (jn t l i k) k:=by simp [jn,List.range_succ]
end Go.Proofs.YtjmbpjlojjgggaaGreatDoor
