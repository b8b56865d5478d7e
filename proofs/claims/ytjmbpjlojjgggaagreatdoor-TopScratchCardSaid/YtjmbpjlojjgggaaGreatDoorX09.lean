/-
  Several texts in one: The samples that are near, for values without addresses. No condition. .. The document's 'Sweep' is the program's. No condition but the sizes of slices.
-/
import Derived.Test.YtjmbpjlojjgggaaGreatDoorMC
import Derived.Test.YtjmbpjlojjgggaaGreatDoorMD
import Derived.Test.YtjmbpjlojjgggaaGreatDoorX03
import Derived.Test.YtjmbpjlojjgggaaGreatDoorX04
namespace Go.Proofs.YtjmbpjlojjgggaaGreatDoor
open Go.Ab Go.RowKit Go.Dw Go.Shelf
theorem Aj{p:Nat->Bool}{n k:Nat}(hk:k< n)(hp:p k=true)(h:∀j,j< k->p j=false):(List.range n).find? p=some k:=by rw [List.find?_range_eq_some];exact⟨hp,by simpa using hk,fun j hj=>by simp [h j hj]⟩
theorem DD{p:Nat->Bool}{n:Nat}(h:∀j,j< n->p j=false):(List.range n).find? p=none:=by rw [List.find?_eq_none];intro x hx;simp [h x (by simpa using hx)]
theorem NW{l:List Pt}(h:∀p∈l, -4194304<=p.1/\p.1<=4194304/\ -4194304<=p.2/\p.2<=4194304)(k:Nat): -4194304<=(gp l k).1/\(gp l k).1<=4194304/\ -4194304<=(gp l k).2/\(gp l k).2<=4194304:=by
 by_cases hk:k< l.length;·exact h _ (Al hk)
 ·simp [gp,List.getD_eq_getElem?_getD,List.getElem?_eq_none (Nat.le_of_not_lt hk)]
def Qt(a b:List Pt)(k:Nat):Prop:=(gp a k).2<=(gp b k).2/\(gp b k).1<=(gp a k).1
def EB(a b:List Pt):Prop:=a.length=b.length/\∀k,k< a.length->Qt a b k
instance (a b:List Pt):Decidable (EB a b):=by unfold EB Qt;infer_instance
def hts(b:Bool)(l:List Pt):List Int:=l.map (kz b)
def Nl(a b:List Int):Prop:=a.length=b.length/\∀k,k< a.length->gi a k<=gi b k
theorem Nl.refl(a:List Int):Nl a a:=⟨rfl,fun _ _=>Int.le_refl _⟩
theorem Nl.trans{a b c:List Int}(h:Nl a b)(k:Nl b c):Nl a c:=⟨h.1.trans k.1,fun i hi=>Int.le_trans (h.2 i hi) (k.2 i (by rw [<-h.1];exact hi))⟩
theorem pV{a b:List Int}(hl:a.length=b.length)(h:∀k,k< a.length->gi a k=gi b k):a=b:=by refine List.ext_getElem hl fun i h1 h2=> ?_;have:=h i h1;rwa [kU h1,kU h2]at this
theorem yf{a b:List Pt}(hl:a.length=b.length)(h:∀k,k< a.length->gp a k=gp b k):a=b:=by refine List.ext_getElem hl fun i h1 h2=> ?_;have:=h i h1;rwa [gL h1,gL h2]at this
theorem xU(x:Int):∀(vs:List Int) (f:Int),x<=ir false f vs<->x<=f/\∀y∈vs,x<=y
 | [],f=>by simp [ir]
 |v::vs,f=>by
  have e:ir false f (v::vs)=ir false (min f v) vs:=by simp [ir,iO]
  rw [e,xU x vs];simp only [List.mem_cons,forall_eq_or_imp];constructor;·rintro⟨h1,h2⟩;exact⟨by omega,by omega,h2⟩
  ·rintro⟨h1,h2,h3⟩;exact⟨by omega,h3⟩
theorem JF{i n r j:Nat}(hj:j< n)(hd:cQ j i< r):∃k,k< fC i n r/\j=aL i r+k:=by
 unfold cQ at hd;refine⟨j- aL i r,?_,?_⟩;·unfold fC aL;omega
 ·unfold aL;omega
theorem DQ{t h:List Int}{i:Nat}{x:Int}:x<=gH t h false i<->x<=gi h i/\∀j,j< h.length->cQ j i< t.length->x<=gi h j+gi t (cQ j i):=by
 unfold gH;rw [xU];refine and_congr_right fun _=> ?_;simp only [List.mem_map,List.mem_range];constructor;·intro hh j hj hd;obtain⟨k,hk,rfl⟩:=JF hj hd;exact hh _ ⟨k,hk,by simp⟩
 ·rintro hh y ⟨k,hk,rfl⟩;obtain⟨h1,h2⟩:=B9 hk;simpa using hh _ h1 h2
theorem Ga{t h:List Int}{d:Bool}{i:Nat}(hi:i< h.length):gi (jx t h d) i=gH t h d i:=by rw [kU (by simp [jx];exact hi)];simp [jx]
theorem dG(b:Bool)(l:List Pt):(hts b l).length=l.length:=by simp [hts]
theorem jM{b:Bool}{l:List Pt}{k:Nat}(hk:k< l.length):gi (hts b l) k=kz b (gp l k):=by rw [kU (by rw [dG];exact hk),gL hk];simp [hts]
theorem JM{a b:List Pt}(h:∀inn,hts inn a=hts inn b):a=b:=by
 have hl:a.length=b.length:=by have:=congrArg List.length (h true);simpa [dG]using this
 refine yf hl fun k hk=> ?_;have h0:=congrArg (gi · k) (h true);have h1:=congrArg (gi · k) (h false);simp only [jM hk,jM (show k< b.length by omega),kz]at h0 h1;exact Prod.ext (by simpa using h0) (by simpa using h1)
theorem DI{thr:List Int->List Int}{l:List Pt}(hthr:∀inn,(thr (hts inn l)).length=l.length)(b:Bool):hts b (fS thr l)=thr (hts b l):=by
 have e0:∀inn,gi ((thr (hts inn l)).map (f8 inn))=fun k=>f8 inn (gi (thr (hts inn l)) k):=by intro inn;funext k;unfold gi;simp only [List.getD_eq_getElem?_getD,List.getElem?_map];cases (thr (hts inn l))[k]? <;> cases inn <;> simp [f8]
 refine pV (by rw [dG,hthr];simp [fS,e7]) fun k hk=> ?_;have hk':k< l.length:=by simpa [dG,fS,e7]using hk
 rw [jM (by simpa [fS,e7]using hk'),gL (by simpa [fS,e7]using hk')];have e1:=congrFun (e0 true) k;have e2:=congrFun (e0 false) k;simp only [hts]at e1 e2;cases b;·simp [fS,e7,kz,e2,hts,f8]
 ·simp [fS,e7,kz,e1,hts,f8]
theorem DH(t:List Int)(l:List Pt)(b:Bool):hts b (eS t l)=qa t (hts b l):=DI (fun inn=>by rw [qa,n9,dG]) b
theorem nU(t:List Int)(l:List Pt):(eS t l).length=l.length:=by simp [eS,fS,e7]
theorem vC{t:List Int}{l:List Pt}(h:bJ t=0)(k:bZ l=0):bS t l=0:=by rw [bS,if_pos h];exact k
theorem Ev{t:List Int}{l:List Pt}(h:bS t l=0):iD t l=eS t l:=by simp [iD,h]
def sV(t:List Int)(l:List Pt)(i:Nat)(p:Pt)(u:Nat):Pt:=
 if cQ u i< t.length then(max p.1 ((gp l u).1- gi t (cQ u i)),min p.2 ((gp l u).2+gi t (cQ u i)))else p
def jf(t:List Int)(l:List Pt)(i k:Nat):Pt:=(List.range k).foldl (sV t l i) (gp l i)
def iQ(t:List Int)(l:List Pt)(k:Nat):List Pt:=(List.range k).map fun i=>jf t l i l.length
theorem iP(t:List Int)(l:List Pt)(i k:Nat):jf t l i (k+1)=sV t l i (jf t l i k) k:=by simp [jf,List.range_succ]
theorem uC{t:List Int}{l:List Pt}{i:Nat}{x:Int}:∀k,x<=(jf t l i k).2<->x<=(gp l i).2/\∀u,u< k->cQ u i< t.length->x<=(gp l u).2+gi t (cQ u i)
  |0=>by simp [jf]
  |k+1=>by
    rw [iP,sV]
    have ih:=uC (t:=t) (l:=l) (i:=i) (x:=x) k
    by_cases hd:cQ k i< t.length
    · rw [if_pos hd]
      constructor
      · intro h
        have h1:=ih.1 (by simp only at h;omega)
        refine⟨h1.1,fun u hu hdu=> ?_⟩
        rcases Nat.lt_succ_iff_lt_or_eq.1 hu with h2 |rfl
        · exact h1.2 u h2 hdu
        · simp only at h;omega
      · rintro⟨h1,h2⟩
        have h3:=ih.2 ⟨h1,fun u hu hdu=>h2 u oM hdu⟩
        have h4:=h2 k oM hd
        simp only;omega
    · rw [if_neg hd,ih]
      refine and_congr_right fun _=>⟨fun h u hu hdu=> ?_,fun h u hu hdu=>h u oM hdu⟩
      rcases Nat.lt_succ_iff_lt_or_eq.1 hu with h2 |rfl
      · exact h u h2 hdu
      · exact absurd hdu hd
theorem uO{t:List Int}{l:List Pt}{i:Nat}{x:Int}:∀k,(jf t l i k).1<=x<->(gp l i).1<=x/\∀u,u< k->cQ u i< t.length->(gp l u).1- gi t (cQ u i)<=x
  |0=>by simp [jf]
  |k+1=>by
    rw [iP,sV]
    have ih:=uO (t:=t) (l:=l) (i:=i) (x:=x) k
    by_cases hd:cQ k i< t.length
    · rw [if_pos hd]
      constructor
      · intro h
        have h1:=ih.1 (by simp only at h;omega)
        refine⟨h1.1,fun u hu hdu=> ?_⟩
        rcases Nat.lt_succ_iff_lt_or_eq.1 hu with h2 |rfl
        · exact h1.2 u h2 hdu
        · simp only at h;omega
      · rintro⟨h1,h2⟩
        have h3:=ih.2 ⟨h1,fun u hu hdu=>h2 u oM hdu⟩
        have h4:=h2 k oM hd
        simp only;omega
    · rw [if_neg hd,ih]
      refine and_congr_right fun _=>⟨fun h u hu hdu=> ?_,fun h u hu hdu=>h u oM hdu⟩
      rcases Nat.lt_succ_iff_lt_or_eq.1 hu with h2 |rfl
      · exact h u h2 hdu
      · exact absurd hdu hd
theorem vM{a b:Int}(h:∀x,x<=a<->x<=b):a=b:=Int.le_antisymm ((h a).1 (Int.le_refl _)) ((h b).2 (Int.le_refl _))
theorem AO(t:List Int)(l:List Pt):iQ t l l.length=eS t l:=JM fun inn=>by
 rw [DH];refine pV (by simp [dG,iQ,qa,n9]) fun k hk=> ?_;have hk':k< l.length:=by simpa [dG,iQ]using hk
 have e:gp (iQ t l l.length) k=jf t l k l.length:=by rw [gL (by simpa [iQ]using hk')];simp [iQ]
 rw [jM (by simpa [iQ]using hk'),e,qa,Ga (by rw [dG];exact hk')];refine vM fun x=> ?_;rw [DQ,jM hk',dG];cases inn;·simp only [kz,Bool.false_eq_true,if_false];rw [uC];exact and_congr_right fun _=>⟨fun h j hj hd=>by rw [jM hj];exact h j hj hd,fun h j hj hd=>by have:=h j hj hd;rw [jM hj]at this;exact this⟩
 ·simp only [kz,if_true];have:=uO (t:=t) (l:=l) (i:=k) (x:= -x) l.length;constructor;·intro h;have h1:=this.1 oM;exact⟨by omega,fun j hj hd=>by rw [jM hj];have:=h1.2 j hj hd;simp only [kz,if_true];omega⟩
  ·rintro⟨h1,h2⟩;have:=this.2 ⟨by omega,fun j hj hd=>by have:=h2 j hj hd;rw [jM hj]at this;simp only [kz,if_true]at this;omega⟩;omega
end Go.Proofs.YtjmbpjlojjgggaaGreatDoor
