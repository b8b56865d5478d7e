/-
  Several texts in one: Plating shops of many plates: the objects behind an act. Conditions: told in each theorem. .. Plating shops in plain Lean: parents and kinds of plates; how long lines are. Conditions: told in each theorem.
-/
import Derived.Test.YtjmbpjlojjgggaaGreatDoorX08
import Derived.Test.YtjmbpjlojjgggaaGreatDoorAbs42
import Derived.Test.YtjmbpjlojjgggaaGreatDoorX00
import Derived.Test.YtjmbpjlojjgggaaGreatDoorX02
import Derived.Test.YtjmbpjlojjgggaaGreatDoorX03
set_option maxRecDepth 100000
namespace Go.Proofs.YtjmbpjlojjgggaaGreatDoor
open Go.Ab Go.RowKit Go.Dw Go.Shelf
def jx(S S':Sh)(nx:Nat)(δ:List (Nat×Option Ob)):Prop:=∀σ,eP S gN σ->∃(N:Nm) (h:Nat->Nat),eP S' N (bz σ δ)/\LZ S'.n N h/\(∀id,500<=id->id< 1000->h id=id\/(nx*100000<=h id/\h id< (nx+1)*100000))/\ ∀id,(id< 500\/1000<=id)->¬(nx*100000<=id/\id< (nx+1)*100000)->bz σ δ id=σ id
theorem M6{n:Nat}:LZ n gN id:=⟨fun _ _ _ _ _ _ h=>h,rfl,rfl,rfl,rfl,rfl,fun _ _=>rfl,fun _ _=>rfl⟩
theorem tX{S:Sh}{nx:Nat}{δ:List (Nat×Option Ob)}(h:∀σ,eP S gN σ->∀p∈δ,σ p.1=p.2):jx S S nx δ:=fun σ hF=>by rw [oW δ σ (h σ hF)];exact⟨gN,id,hF,M6,fun id _ _=> .inl rfl,fun _ _ _=>rfl⟩
theorem F0{S S':Sh}{nx c0 c1 c2 c3 d k:Nat}(hn:S.n<=200)(hd:d< 1000)(hnx:1<=nx)(h0:c0=nx*100000+d)(h1:c1=nx*100000+1000+d)(h2:c2=nx*100000+2000+d)(h3:c3=nx*100000+3000+d) (er:S'.r=S.r) (en:S'.n=S.n+1) (em:S'.m=S.m) (eq:S'.q=S.q) (eg:S'.g=S.g) (hk:k< S.n) (ep:∀i,i< S.n->i≠k->S'.pl i=S.pl i) : jx S S' nx [(500,some (.box 123 (cX S.r (.own c0) (.own 502) (.own 503) (.own c3)))),(501,none),(502,some (fc S')),(503,some (dM S)),(504,none),(505+2*k,some (.box 134 ((S'.pl k).c++[.own (506+2*k)]))),(506+2*k,some (gI S' k)),(c0,some (.row 131 1 (S.n+1) fun i=>[.ref (if i< S.n then 505+2*i else c1) 0])),(c1,some (.box 134 ((S'.pl S.n).c++[.own c2]))),(c2,some (gI S' S.n)),(c3,some (lU S'))]:=by
 intro σ hF;refine⟨⟨c0,502,503,c3,fun i=>if i< S.n then 505+2*i else c1,fun i=>if i< S.n then 506+2*i else c2⟩,fun id=>if id=501 then c0 else if id=504 then c3 else if id=505+2*S.n then c1 else if id=506+2*S.n then c2 else id,⟨?_,?_,?_,?_,?_,?_,?_⟩,⟨?_,?_,?_,?_,?_,?_,?_,?_⟩,?_,?_⟩;all_goals try simp only [bz]
 ·rw [ag _ _ oM,ag _ _ oM,ag _ _ oM,ag _ _ oM,ag _ _ oM,ag _ _ oM,ag _ _ oM,ag _ _ oM,ag _ _ oM,ag _ _ oM,an];rw [iD,er]
 ·rw [ag _ _ oM,ag _ _ oM,ag _ _ oM,an,vK,en]
 ·rw [ag _ _ oM,ag _ _ oM,ag _ _ oM,ag _ _ oM,ag _ _ oM,ag _ _ oM,ag _ _ oM,ag _ _ oM,an]
 ·rw [ag _ _ oM,ag _ _ oM,ag _ _ oM,ag _ _ oM,ag _ _ oM,ag _ _ oM,ag _ _ oM,an,dM,dM,eq,eg]
 ·rw [an]
 ·intro i hi;rw [en]at hi;by_cases hin:i< S.n
  ·simp only [v9,if_pos hin];by_cases hik:i=k;·subst hik;rw [ag _ _ oM,ag _ _ oM,ag _ _ oM,ag _ _ oM,ag _ _ oM,an]
   ·rw [ag _ _ oM,ag _ _ oM,ag _ _ oM,ag _ _ oM,ag _ _ oM,ag _ _ oM,ag _ _ oM,ag _ _ oM,ag _ _ oM,ag _ _ oM,ag _ _ oM,ep i hin hik];exact hF.pl i hin
  ·have hin':i=S.n:=by omega
   subst hin';simp only [v9,if_neg hin];rw [ag _ _ oM,ag _ _ oM,an]
 ·intro i hi;rw [en]at hi;by_cases hin:i< S.n
  ·simp only [if_pos hin];by_cases hik:i=k;·subst hik;rw [ag _ _ oM,ag _ _ oM,ag _ _ oM,ag _ _ oM,an]
   ·rw [ag _ _ oM,ag _ _ oM,ag _ _ oM,ag _ _ oM,ag _ _ oM,ag _ _ oM,ag _ _ oM,ag _ _ oM,ag _ _ oM,ag _ _ oM,ag _ _ oM,gI,ep i hin hik];exact hF.mp i hin
  ·have hin':i=S.n:=by omega
   subst hin';simp only [if_neg hin];rw [ag _ _ oM,an]
 ·intro i j hi hi2 hj hj2 he;rw [en]at hi2 hj2;split at he <;> split at he <;> (try omega) <;> (repeat' split at he) <;> omega
 ·rw [if_neg (by decide),if_neg (by decide),if_neg oM,if_neg oM]
 ·rfl
 ·rw [if_neg (by decide),if_neg (by decide),if_neg oM,if_neg oM]
 ·rw [if_neg (by decide),if_neg (by decide),if_neg oM,if_neg oM]
 ·rfl
 ·intro i hi;rw [en]at hi;by_cases hin:i< S.n;·rw [if_neg oM,if_neg oM,if_neg oM,if_neg oM,if_pos hin]
  ·rw [if_neg oM,if_neg oM,if_pos oM,if_neg hin]
 ·intro i hi;rw [en]at hi;by_cases hin:i< S.n;·rw [if_neg oM,if_neg oM,if_neg oM,if_neg oM,if_pos hin]
  ·rw [if_neg oM,if_neg oM,if_neg oM,if_pos oM,if_neg hin]
 ·intro id _ _;repeat' split
  all_goals omega
 ·intro id hid hx;rw [ag _ _ oM,ag _ _ oM,ag _ _ oM,ag _ _ oM,ag _ _ oM,ag _ _ oM,ag _ _ oM,ag _ _ oM,ag _ _ oM,ag _ _ oM,ag _ _ oM]
theorem DL{S S':Sh}{nx c0 c1 d k:Nat}(hn:S.n<=200)(hd:d< 1000)(hnx:1<=nx)(h0:c0=nx*100000+d)(h1:c1=nx*100000+1000+d) (er:S'.r=S.r) (en:S'.n=S.n) (em:S'.m=S.m) (et:S'.tk=S.tk) (hk:k< S.n) (ep:∀i,i< S.n->i≠k->S'.pl i=S.pl i) : jx S S' nx [(500,some (.box 123 (cX S.r (.own 501) (.own 502) (.own c0) (.own c1)))),(501,some (.row 131 1 S.n fun i=>[.ref (505+2*i) 0])),(502,some (fc S)),(503,none),(504,none),(505+2*k,some (.box 134 ((S'.pl k).c++[.own (506+2*k)]))),(506+2*k,some (gI S' k)),(c0,some (dM S')),(c1,some (lU S'))]:=by
 intro σ hF;refine⟨⟨501,502,c0,c1,fun i=>505+2*i,fun i=>506+2*i⟩,fun id=>if id=503 then c0 else if id=504 then c1 else id,⟨?_,?_,?_,?_,?_,?_,?_⟩,⟨?_,?_,?_,?_,?_,?_,?_,?_⟩,?_,?_⟩;all_goals try simp only [bz]
 ·rw [ag _ _ oM,ag _ _ oM,ag _ _ oM,ag _ _ oM,ag _ _ oM,ag _ _ oM,ag _ _ oM,ag _ _ oM,an];rw [iD,er]
 ·rw [ag _ _ oM,ag _ _ oM,ag _ _ oM,ag _ _ oM,ag _ _ oM,ag _ _ oM,ag _ _ oM,an,vK,en]
 ·rw [ag _ _ oM,ag _ _ oM,ag _ _ oM,ag _ _ oM,ag _ _ oM,ag _ _ oM,an,fc,fc,em,et]
 ·rw [ag _ _ oM,an]
 ·rw [an]
 ·intro i hi;rw [en]at hi;simp only [v9];by_cases hik:i=k;·subst hik;rw [ag _ _ oM,ag _ _ oM,ag _ _ oM,an]
  ·rw [ag _ _ oM,ag _ _ oM,ag _ _ oM,ag _ _ oM,ag _ _ oM,ag _ _ oM,ag _ _ oM,ag _ _ oM,ag _ _ oM,ep i hi hik];exact hF.pl i hi
 ·intro i hi;rw [en]at hi;by_cases hik:i=k;·subst hik;rw [ag _ _ oM,ag _ _ oM,an]
  ·rw [ag _ _ oM,ag _ _ oM,ag _ _ oM,ag _ _ oM,ag _ _ oM,ag _ _ oM,ag _ _ oM,ag _ _ oM,ag _ _ oM,gI,ep i hi hik];exact hF.mp i hi
 ·intro i j hi hi2 hj hj2 he;rw [en]at hi2 hj2;(repeat' split at he) <;> omega
 ·rw [if_neg (by decide),if_neg (by decide)]
 ·rw [if_neg (by decide),if_neg (by decide)]
 ·rw [if_neg (by decide),if_neg (by decide)]
 ·rfl
 ·rfl
 ·intro i hi;rw [en]at hi;rw [if_neg oM,if_neg oM]
 ·intro i hi;rw [en]at hi;rw [if_neg oM,if_neg oM]
 ·intro id _ _;repeat' split
  all_goals omega
 ·intro id hid hx;rw [ag _ _ oM,ag _ _ oM,ag _ _ oM,ag _ _ oM,ag _ _ oM,ag _ _ oM,ag _ _ oM,ag _ _ oM,ag _ _ oM]
theorem FZ{S S':Sh}{nx c0 d k:Nat}(hn:S.n<=200)(hd:d< 1000)(hnx:1<=nx)(h0:c0=nx*100000+d) (er:S'.r=S.r) (en:S'.n=S.n) (em:S'.m=S.m) (et:S'.tk=S.tk) (eq:S'.q=S.q) (eg:S'.g=S.g) (hk:k< S.n) (ep:∀i,i< S.n->i≠k->S'.pl i=S.pl i) : jx S S' nx [(500,some (.box 123 (cX S.r (.own 501) (.own 502) (.own 503) (.own c0)))),(501,some (.row 131 1 S.n fun i=>[.ref (505+2*i) 0])),(502,some (fc S)),(503,some (dM S)),(504,none),(505+2*k,some (.box 134 ((S'.pl k).c++[.own (506+2*k)]))),(506+2*k,some (gI S' k)),(c0,some (lU S'))]:=by
 intro σ hF;refine⟨⟨501,502,503,c0,fun i=>505+2*i,fun i=>506+2*i⟩,fun id=>if id=504 then c0 else id,⟨?_,?_,?_,?_,?_,?_,?_⟩,⟨?_,?_,?_,?_,?_,?_,?_,?_⟩,?_,?_⟩;all_goals try simp only [bz]
 ·rw [ag _ _ oM,ag _ _ oM,ag _ _ oM,ag _ _ oM,ag _ _ oM,ag _ _ oM,ag _ _ oM,an];rw [iD,er]
 ·rw [ag _ _ oM,ag _ _ oM,ag _ _ oM,ag _ _ oM,ag _ _ oM,ag _ _ oM,an,vK,en]
 ·rw [ag _ _ oM,ag _ _ oM,ag _ _ oM,ag _ _ oM,ag _ _ oM,an,fc,fc,em,et]
 ·rw [ag _ _ oM,ag _ _ oM,ag _ _ oM,ag _ _ oM,an,dM,dM,eq,eg]
 ·rw [an]
 ·intro i hi;rw [en]at hi;simp only [v9];by_cases hik:i=k;·subst hik;rw [ag _ _ oM,ag _ _ oM,an]
  ·rw [ag _ _ oM,ag _ _ oM,ag _ _ oM,ag _ _ oM,ag _ _ oM,ag _ _ oM,ag _ _ oM,ag _ _ oM,ep i hi hik];exact hF.pl i hi
 ·intro i hi;rw [en]at hi;by_cases hik:i=k;·subst hik;rw [ag _ _ oM,an]
  ·rw [ag _ _ oM,ag _ _ oM,ag _ _ oM,ag _ _ oM,ag _ _ oM,ag _ _ oM,ag _ _ oM,ag _ _ oM,gI,ep i hi hik];exact hF.mp i hi
 ·intro i j hi hi2 hj hj2 he;rw [en]at hi2 hj2;(repeat' split at he) <;> omega
 ·rw [if_neg (by decide)]
 ·rw [if_neg (by decide)]
 ·rw [if_neg (by decide)]
 ·rw [if_neg (by decide)]
 ·rfl
 ·intro i hi;rw [en]at hi;rw [if_neg oM]
 ·intro i hi;rw [en]at hi;rw [if_neg oM]
 ·intro id _ _;repeat' split
  all_goals omega
 ·intro id hid hx;rw [ag _ _ oM,ag _ _ oM,ag _ _ oM,ag _ _ oM,ag _ _ oM,ag _ _ oM,ag _ _ oM,ag _ _ oM]
theorem DJ{S S':Sh}{nx c0 c1 c2 c3 d:Nat}(hn:S.n<=200)(hd:d< 1000)(hnx:1<=nx)(h0:c0=nx*100000+d)(h1:c1=nx*100000+1000+d)(h2:c2=nx*100000+2000+d)(h3:c3=nx*100000+3000+d) (er:S'.r=S.r) (en:S'.n=S.n+1) (em:S'.m=S.m) (eq:S'.q=S.q) (eg:S'.g=S.g) (ep:∀i,i< S.n->S'.pl i=S.pl i) : jx S S' nx [(500,some (.box 123 (cX S.r (.own c0) (.own 502) (.own 503) (.own c3)))),(501,none),(502,some (fc S')),(503,some (dM S)),(504,none),(c0,some (.row 131 1 (S.n+1) fun i=>[.ref (if i< S.n then 505+2*i else c1) 0])),(c1,some (.box 134 ((S'.pl S.n).c++[.own c2]))),(c2,some (gI S' S.n)),(c3,some (lU S'))]:=by
 intro σ hF;refine⟨⟨c0,502,503,c3,fun i=>if i< S.n then 505+2*i else c1,fun i=>if i< S.n then 506+2*i else c2⟩,fun id=>if id=501 then c0 else if id=504 then c3 else if id=505+2*S.n then c1 else if id=506+2*S.n then c2 else id,⟨?_,?_,?_,?_,?_,?_,?_⟩,⟨?_,?_,?_,?_,?_,?_,?_,?_⟩,?_,?_⟩;all_goals try simp only [bz]
 ·rw [ag _ _ oM,ag _ _ oM,ag _ _ oM,ag _ _ oM,ag _ _ oM,ag _ _ oM,ag _ _ oM,ag _ _ oM,an];rw [iD,er]
 ·rw [ag _ _ oM,ag _ _ oM,ag _ _ oM,an,vK,en]
 ·rw [ag _ _ oM,ag _ _ oM,ag _ _ oM,ag _ _ oM,ag _ _ oM,ag _ _ oM,an]
 ·rw [ag _ _ oM,ag _ _ oM,ag _ _ oM,ag _ _ oM,ag _ _ oM,an,dM,dM,eq,eg]
 ·rw [an]
 ·intro i hi;rw [en]at hi;by_cases hin:i< S.n;·simp only [v9,if_pos hin];rw [ag _ _ oM,ag _ _ oM,ag _ _ oM,ag _ _ oM,ag _ _ oM,ag _ _ oM,ag _ _ oM,ag _ _ oM,ag _ _ oM,ep i hin];exact hF.pl i hin
  ·have hin':i=S.n:=by omega
   subst hin';simp only [v9,if_neg hin];rw [ag _ _ oM,ag _ _ oM,an]
 ·intro i hi;rw [en]at hi;by_cases hin:i< S.n;·simp only [if_pos hin];rw [ag _ _ oM,ag _ _ oM,ag _ _ oM,ag _ _ oM,ag _ _ oM,ag _ _ oM,ag _ _ oM,ag _ _ oM,ag _ _ oM,gI,ep i hin];exact hF.mp i hin
  ·have hin':i=S.n:=by omega
   subst hin';simp only [if_neg hin];rw [ag _ _ oM,an]
 ·intro i j hi hi2 hj hj2 he;rw [en]at hi2 hj2;split at he <;> split at he <;> (try omega) <;> (repeat' split at he) <;> omega
 ·rw [if_neg (by decide),if_neg (by decide),if_neg oM,if_neg oM]
 ·rfl
 ·rw [if_neg (by decide),if_neg (by decide),if_neg oM,if_neg oM]
 ·rw [if_neg (by decide),if_neg (by decide),if_neg oM,if_neg oM]
 ·rfl
 ·intro i hi;rw [en]at hi;by_cases hin:i< S.n;·rw [if_neg oM,if_neg oM,if_neg oM,if_neg oM,if_pos hin]
  ·rw [if_neg oM,if_neg oM,if_pos oM,if_neg hin]
 ·intro i hi;rw [en]at hi;by_cases hin:i< S.n;·rw [if_neg oM,if_neg oM,if_neg oM,if_neg oM,if_pos hin]
  ·rw [if_neg oM,if_neg oM,if_neg oM,if_pos oM,if_neg hin]
 ·intro id _ _;repeat' split
  all_goals omega
 ·intro id hid hx;rw [ag _ _ oM,ag _ _ oM,ag _ _ oM,ag _ _ oM,ag _ _ oM,ag _ _ oM,ag _ _ oM,ag _ _ oM,ag _ _ oM]
theorem DK{S S':Sh}{nx c0 c1 d:Nat}(hn:S.n<=200)(hd:d< 1000)(hnx:1<=nx)(h0:c0=nx*100000+d)(h1:c1=nx*100000+1000+d) (er:S'.r=S.r) (en:S'.n=S.n) (eq:S'.q=S.q) (eg:S'.g=S.g) (ep:∀i,i< S.n->S'.pl i=S.pl i) : jx S S' nx [(500,some (.box 123 (cX S.r (.own 501) (.own c0) (.own 503) (.own c1)))),(501,some (.row 131 1 S.n fun i=>[.ref (505+2*i) 0])),(502,none),(503,some (dM S)),(504,none),(c0,some (fc S')),(c1,some (lU S'))]:=by
 intro σ hF;refine⟨⟨501,c0,503,c1,fun i=>505+2*i,fun i=>506+2*i⟩,fun id=>if id=502 then c0 else if id=504 then c1 else id,⟨?_,?_,?_,?_,?_,?_,?_⟩,⟨?_,?_,?_,?_,?_,?_,?_,?_⟩,?_,?_⟩;all_goals try simp only [bz]
 ·rw [ag _ _ oM,ag _ _ oM,ag _ _ oM,ag _ _ oM,ag _ _ oM,ag _ _ oM,an];rw [iD,er]
 ·rw [ag _ _ oM,ag _ _ oM,ag _ _ oM,ag _ _ oM,ag _ _ oM,an,vK,en]
 ·rw [ag _ _ oM,an]
 ·rw [ag _ _ oM,ag _ _ oM,ag _ _ oM,an,dM,dM,eq,eg]
 ·rw [an]
 ·intro i hi;rw [en]at hi;simp only [v9];rw [ag _ _ oM,ag _ _ oM,ag _ _ oM,ag _ _ oM,ag _ _ oM,ag _ _ oM,ag _ _ oM,ep i hi];exact hF.pl i hi
 ·intro i hi;rw [en]at hi;rw [ag _ _ oM,ag _ _ oM,ag _ _ oM,ag _ _ oM,ag _ _ oM,ag _ _ oM,ag _ _ oM,gI,ep i hi];exact hF.mp i hi
 ·intro i j hi hi2 hj hj2 he;rw [en]at hi2 hj2;(repeat' split at he) <;> omega
 ·rw [if_neg (by decide),if_neg (by decide)]
 ·rw [if_neg (by decide),if_neg (by decide)]
 ·rfl
 ·rw [if_neg (by decide),if_neg (by decide)]
 ·rfl
 ·intro i hi;rw [en]at hi;rw [if_neg oM,if_neg oM]
 ·intro i hi;rw [en]at hi;rw [if_neg oM,if_neg oM]
 ·intro id _ _;repeat' split
  all_goals omega
 ·intro id hid hx;rw [ag _ _ oM,ag _ _ oM,ag _ _ oM,ag _ _ oM,ag _ _ oM,ag _ _ oM,ag _ _ oM]
section
variable {P:Program}{W LB:Nat->Prop}{d:Nat}{ty:TypeId}{pos:String}{af:Array Edge}{ev:Operand->V}{fo:Operand}{ar:Array Operand}{ats:Array TypeId}{nx:Nat}{S S':Sh}{a:Act}{f:FuncId}{v:V}
def uJ(P:Program)(W LB:Nat->Prop)(o:Oper)(ev:Operand->V)(nx d:Nat)(S S':Sh)(v:V):Prop:= ∃pre nw δ,aS P W LB o ev v pre nw δ/\kg nx (some d) nw/\(∀σ,eP S gN σ->∀p∈pre,σ p.1=some p.2)/\jx S S' nx δ
theorem qU:ay nx (some d) 0=nx*100000+d:=by simp [ay]
theorem uZ:ay nx (some d) 1=nx*100000+1000+d:=by simp [ay]
theorem FM:ay nx (some d) 2=nx*100000+2000+d:=by simp [ay]
theorem FN:ay nx (some d) 3=nx*100000+3000+d:=by simp [ay]
theorem dY{n:Nat}(hd:d< 1000)(hn:n<=90):kg nx (some d) ((List.range n).map (ay nx (some d))):=by
 intro id hid;obtain⟨j,hj,rfl⟩:=List.mem_map.1 hid;have hj:j< n:=by simpa using hj
 refine⟨d,rfl,?_⟩;show nx*100000<=ay nx (some d) j/\ay nx (some d) j< (nx+1)*100000/\ay nx (some d) j% 1000=d;unfold ay;simp only [Option.getD_some];omega
theorem vG(hk:∀p∈((501,.row 131 1 S.n fun i=>[.ref (505+2*i) 0])::Ar S:List (Nat×Ob)),True):∀σ,eP S gN σ->∀p∈((501,.row 131 1 S.n fun i=>[.ref (505+2*i) 0])::Ar S:List (Nat×Ob)),σ p.1=some p.2:=by
 intro σ hF p hp;simp at hp;rcases hp with h |h |h |h |h <;> subst h
 ·exact hF.p
 ·exact hF.s
 ·exact hF.t
 ·exact hF.f
 ·exact hF.a
theorem qz{k:Nat}(hk:k< S.n):∀σ,eP S gN σ->∀p∈((501,.row 131 1 S.n fun i=>[.ref (505+2*i) 0])::(Ar S++[(505+2*k,v9 S gN k),(506+2*k,gI S k)]):List (Nat×Ob)),σ p.1=some p.2:=by
 intro σ hF p hp;simp at hp;rcases hp with h |h |h |h |h |h |h <;> subst h
 ·exact hF.p
 ·exact hF.s
 ·exact hF.t
 ·exact hF.f
 ·exact hF.a
 ·exact hF.pl k hk
 ·exact hF.mp k hk
theorem oR(x:Nat->Value)(i:Nat):gL (fun i=>505+2*i) x i (Ev x i):= .c
theorem lA(k:Nat)(x:Nat->Value)(i:Nat):gL (fun i=>505+2*i) x i (y6 k x i):= .alt (nm:=fun i=>505+2*i) k
theorem QM:∀p∈Ar S,p.1≠501:=by intro p hp;simp at hp;rcases hp with h |h |h |h <;> subst h <;> simp
theorem Qg{k:Nat}:∀p∈(Ar S++[(505+2*k,v9 S gN k),(506+2*k,gI S k)]),p.1≠501:=by intro p hp;simp at hp;rcases hp with h |h |h |h |h |h <;> subst h <;> simp <;> omega
theorem og(hwl:∀b,W b->LB b)(hc:∀x,AM P f [.ref 500 0,a.v] (cG S.r S.n (bX x) S.m S.tk S.q (aU S.g) S.l) v ((cG S.r S.n (bX x) S.m S.tk S.q (aU S.g) S.l).map some) [])(hv:v.b5=true) (hf:ev fo= .fn (.func f) [] []) (hargs:ar.toList.map ev=[.ref 500 0,a.v]) (hd:d< 1000):uJ P W LB ⟨some d,.call {callee:= .value fo,args:=ar,argTypes:=ats},ty,pos,af,none⟩ ev nx d S S v:=by
 refine⟨_,_,[(500,some (iD S gN)),(501,some (.row 131 1 S.n fun i=>[.ref (505+2*i) 0])),(502,some (fc S)),(503,some (dM S)),(504,some (lU S))],
  aS.const (nm:=fun i=>505+2*i) (rx:=Ev) (δ:=fun x=>[(500,some (iD S gN)),(501,some (.row 131 1 S.n fun i=>[Ev x i])),(502,some (fc S)),(503,some (dM S)),(504,some (lU S))]) (fun x=>Qt hwl (hc x) hv hf hargs hd (by simp) rfl) QM (fun x i _=>oR x i) fun x=> .some _ (.refl _ _ _ _) (.some _ (.sD (fun i _=>oR x i) fun i _=> .ref (nm:=fun i=>505+2*i)) (.some _ (.refl _ _ _ _) (.some _ (.refl _ _ _ _) (.some _ (.refl _ _ _ _) .nil)))),
  dY hd (by simp),vG fun _ _=>trivial,tX fun σ hF p hp=> ?_⟩
 simp at hp;rcases hp with h |h |h |h |h <;> subst h
 ·exact hF.s
 ·exact hF.p
 ·exact hF.t
 ·exact hF.f
 ·exact hF.a
theorem kK{k:Nat}(hk:k< S.n)(hwl:∀b,W b->LB b)(hc:∀x,AM P f [.ref 500 0,a.v] (cJ S.r S.n k x S.m S.tk S.q (aU S.g) S.l (S.pl k)) v ((cJ S.r S.n k x S.m S.tk S.q (aU S.g) S.l (S.pl k)).map some) [])(hv:v.b5=true) (hf:ev fo= .fn (.func f) [] []) (hargs:ar.toList.map ev=[.ref 500 0,a.v]) (hd:d< 1000):uJ P W LB ⟨some d,.call {callee:= .value fo,args:=ar,argTypes:=ats},ty,pos,af,none⟩ ev nx d S S v:=by
 refine⟨_,_,[(500,some (iD S gN)),(501,some (.row 131 1 S.n fun i=>[.ref (505+2*i) 0])),(502,some (fc S)),(503,some (dM S)),(504,some (lU S)),(505+2*k,some (v9 S gN k)),(506+2*k,some (gI S k))],
  aS.const (nm:=fun i=>505+2*i) (rx:=y6 k) (δ:=fun x=>[(500,some (iD S gN)),(501,some (.row 131 1 S.n fun i=>[y6 k x i])),(502,some (fc S)),(503,some (dM S)),(504,some (lU S)),(505+2*k,some (v9 S gN k)),(506+2*k,some (gI S k))]) (fun x=>P7 hwl (hc x) hv hf hargs hd (by simp) rfl) Qg (fun x i _=>lA k x i) fun x=> .some _ (.refl _ _ _ _) (.some _ (.sD (fun i _=>lA k x i) fun i _=> .ref (nm:=fun i=>505+2*i)) (.some _ (.refl _ _ _ _) (.some _ (.refl _ _ _ _) (.some _ (.refl _ _ _ _) (.some _ (.refl _ _ _ _) (.some _ (.refl _ _ _ _) .nil)))))),
  dY hd (by simp),qz hk,tX fun σ hF p hp=> ?_⟩
 simp at hp;rcases hp with h |h |h |h |h |h |h <;> subst h
 ·exact hF.s
 ·exact hF.p
 ·exact hF.t
 ·exact hF.f
 ·exact hF.a
 ·exact hF.pl k hk
 ·exact hF.mp k hk
theorem DI{k:Nat}(hk:k< S.n){p z':Pl}{tk':Nat->aN}(hwl:∀b,W b->LB b)(hc:∀x,AM P f [.ref 500 0,a.v] (cJ S.r S.n k x S.m S.tk S.q (aU S.g) S.l (S.pl k)) v [some (.box 123 (cX S.r (.own 0) (.own 502) (.own 503) (.own 3))),none,some (.row 55 4 S.m (fun i=>(tk' i).c)),some (.row 149 2 S.q (aU S.g)),none,some (.box 134 (z'.c++[V.own 506])),some (.mp (false,z'.cnt) (aO z'.fl))] [.row 131 1 (S.n+1) (qg 505 k S.n 1 x),.box 134 (p.c++[V.own 2]),.mp (false,p.cnt) (aO p.fl),(.row 40 13 (S.l+1) bS)])(hv:v.b5=true) (hf:ev fo= .fn (.func f) [] []) (hargs:ar.toList.map ev=[.ref 500 0,a.v]) (hd:d< 1000) (hnx:1<=nx) (hn:S.n<=200):uJ P W LB ⟨some d,.call {callee:= .value fo,args:=ar,argTypes:=ats},ty,pos,af,none⟩ ev nx d S {S with n:=S.n+1,pl:=dH (bW S.pl k z') S.n p,tk:=tk',l:=S.l+1} v:=by
 have hD:=F0 (S:=S) (S':={S with n:=S.n+1,pl:=dH (bW S.pl k z') S.n p,tk:=tk',l:=S.l+1}) (nx:=nx) (d:=d) (k:=k) hn hd hnx qU uZ FM FN rfl rfl rfl rfl rfl hk (fun i hi hik=>by show dH _ _ _ i=_;rw [dH,if_pos hi,bW,if_neg hik]);have e1:dH (bW S.pl k z') S.n p k=z':=by rw [dH,if_pos hk,bW,if_pos rfl]
 have e2:dH (bW S.pl k z') S.n p S.n=p:=by rw [dH,if_neg (Nat.lt_irrefl _)]
 simp only [gI,e1,e2]at hD;have eδ:∀x:Nat->Value,gK (aI nx (some d) (Ag k)) (Ag k) ([some (.box 123 (cX S.r (.own 0) (.own 502) (.own 503) (.own 3))),none,some (.row 55 4 S.m (fun i=>(tk' i).c)),some (.row 149 2 S.q (aU S.g)),none,some (.box 134 (z'.c++[V.own 506])),some (.mp (false,z'.cnt) (aO z'.fl))]:List (Option Ob))++b6 (aI nx (some d) (Ag k)) 0 ([.row 131 1 (S.n+1) (qg 505 k S.n 1 x),.box 134 (p.c++[V.own 2]),.mp (false,p.cnt) (aO p.fl),(.row 40 13 (S.l+1) bS)]:List Ob)=[(500,some (.box 123 (cX S.r (.own (ay nx (some d) 0)) (.own 502) (.own 503) (.own (ay nx (some d) 3))))),(501,none),(502,some (.row 55 4 S.m (fun i=>(tk' i).c))),(503,some (.row 149 2 S.q (aU S.g))),(504,none),(505+2*k,some (.box 134 (z'.c++[V.own (506+2*k)]))),(506+2*k,some (.mp (false,z'.cnt) (aO z'.fl))),((ay nx (some d) 0),some (.row 131 1 (S.n+1) fun i=>[.alt (decide (i< S.n)) (y6 k x i) (.ref (ay nx (some d) 1) 0)])),((ay nx (some d) 1),some (.box 134 (p.c++[V.own (ay nx (some d) 2)]))),((ay nx (some d) 2),some (.mp (false,p.cnt) (aO p.fl))),((ay nx (some d) 3),some (.row 40 13 (S.l+1) bS))]:=fun x=>by kernel_rfl
 refine⟨_,_,[(500,some (.box 123 (cX S.r (.own (ay nx (some d) 0)) (.own 502) (.own 503) (.own (ay nx (some d) 3))))),(501,none),(502,some (.row 55 4 S.m (fun i=>(tk' i).c))),(503,some (.row 149 2 S.q (aU S.g))),(504,none),(505+2*k,some (.box 134 (z'.c++[V.own (506+2*k)]))),(506+2*k,some (.mp (false,z'.cnt) (aO z'.fl))),((ay nx (some d) 0),some (.row 131 1 (S.n+1) fun i=>[.ref (if i< S.n then 505+2*i else(ay nx (some d) 1)) 0])),((ay nx (some d) 1),some (.box 134 (p.c++[V.own (ay nx (some d) 2)]))),((ay nx (some d) 2),some (.mp (false,p.cnt) (aO p.fl))),((ay nx (some d) 3),some (.row 40 13 (S.l+1) bS))],
  aS.const (nm:=fun i=>505+2*i) (rx:=y6 k) (δ:=fun x=>[(500,some (.box 123 (cX S.r (.own (ay nx (some d) 0)) (.own 502) (.own 503) (.own (ay nx (some d) 3))))),(501,none),(502,some (.row 55 4 S.m (fun i=>(tk' i).c))),(503,some (.row 149 2 S.q (aU S.g))),(504,none),(505+2*k,some (.box 134 (z'.c++[V.own (506+2*k)]))),(506+2*k,some (.mp (false,z'.cnt) (aO z'.fl))),((ay nx (some d) 0),some (.row 131 1 (S.n+1) fun i=>[.alt (decide (i< S.n)) (y6 k x i) (.ref (ay nx (some d) 1) 0)])),((ay nx (some d) 1),some (.box 134 (p.c++[V.own (ay nx (some d) 2)]))),((ay nx (some d) 2),some (.mp (false,p.cnt) (aO p.fl))),((ay nx (some d) 3),some (.row 40 13 (S.l+1) bS))]) (fun x=>by rw [<-eδ x];exact P7 hwl (hc x) hv hf hargs hd (by simp) rfl) Qg (fun x i _=>lA k x i) fun x=>(.some _ (.refl _ _ _ _) (.none _ (.some _ (.refl _ _ _ _) (.some _ (.refl _ _ _ _) (.none _ (.some _ (.refl _ _ _ _) (.some _ (.refl _ _ _ _) (.some _ (.Ij (nm:=fun i=>505+2*i) (c:=y6 k x) fun i _=>lA k x i) (.some _ (.refl _ _ _ _) (.some _ (.refl _ _ _ _) (.some _ (.refl _ _ _ _) .nil))))))))))),
  dY hd (by simp),qz hk,hD⟩
theorem FY{p:Pl}(hwl:∀b,W b->LB b)(hc:∀x,AM P f [.ref 500 0,a.v] (cG S.r S.n (bX x) S.m S.tk S.q (aU S.g) S.l) v [some (.box 123 (cX S.r (.own 0) (.own 502) (.own 503) (.own 3))),none,some (.row 55 4 S.m (fun i=>(S.tk i).c)),some (.row 149 2 S.q (aU S.g)),none] [.row 131 1 (S.n+1) (AH S.n 1 x),.box 134 (p.c++[V.own 2]),.mp (false,p.cnt) (aO p.fl),(.row 40 13 (S.l+1) bS)])(hv:v.b5=true) (hf:ev fo= .fn (.func f) [] []) (hargs:ar.toList.map ev=[.ref 500 0,a.v]) (hd:d< 1000) (hnx:1<=nx) (hn:S.n<=200):uJ P W LB ⟨some d,.call {callee:= .value fo,args:=ar,argTypes:=ats},ty,pos,af,none⟩ ev nx d S {S with n:=S.n+1,pl:=dH S.pl S.n p,l:=S.l+1} v:=by
 have hD:=DJ (S:=S) (S':={S with n:=S.n+1,pl:=dH S.pl S.n p,l:=S.l+1}) (nx:=nx) (d:=d) hn hd hnx qU uZ FM FN rfl rfl rfl rfl rfl (fun i hi=>by show dH _ _ _ i=_;rw [dH,if_pos hi]);have e2:dH S.pl S.n p S.n=p:=by rw [dH,if_neg (Nat.lt_irrefl _)]
 simp only [gI,e2]at hD;have eδ:∀x:Nat->Value,gK (aI nx (some d) EM) EM ([some (.box 123 (cX S.r (.own 0) (.own 502) (.own 503) (.own 3))),none,some (.row 55 4 S.m (fun i=>(S.tk i).c)),some (.row 149 2 S.q (aU S.g)),none]:List (Option Ob))++b6 (aI nx (some d) EM) 0 ([.row 131 1 (S.n+1) (AH S.n 1 x),.box 134 (p.c++[V.own 2]),.mp (false,p.cnt) (aO p.fl),(.row 40 13 (S.l+1) bS)]:List Ob)=[(500,some (.box 123 (cX S.r (.own (ay nx (some d) 0)) (.own 502) (.own 503) (.own (ay nx (some d) 3))))),(501,none),(502,some (.row 55 4 S.m (fun i=>(S.tk i).c))),(503,some (.row 149 2 S.q (aU S.g))),(504,none),((ay nx (some d) 0),some (.row 131 1 (S.n+1) fun i=>[.alt (decide (i< S.n)) (Ev x i) (.ref (ay nx (some d) 1) 0)])),((ay nx (some d) 1),some (.box 134 (p.c++[V.own (ay nx (some d) 2)]))),((ay nx (some d) 2),some (.mp (false,p.cnt) (aO p.fl))),((ay nx (some d) 3),some (.row 40 13 (S.l+1) bS))]:=fun x=>by kernel_rfl
 refine⟨_,_,[(500,some (.box 123 (cX S.r (.own (ay nx (some d) 0)) (.own 502) (.own 503) (.own (ay nx (some d) 3))))),(501,none),(502,some (.row 55 4 S.m (fun i=>(S.tk i).c))),(503,some (.row 149 2 S.q (aU S.g))),(504,none),((ay nx (some d) 0),some (.row 131 1 (S.n+1) fun i=>[.ref (if i< S.n then 505+2*i else(ay nx (some d) 1)) 0])),((ay nx (some d) 1),some (.box 134 (p.c++[V.own (ay nx (some d) 2)]))),((ay nx (some d) 2),some (.mp (false,p.cnt) (aO p.fl))),((ay nx (some d) 3),some (.row 40 13 (S.l+1) bS))],
  aS.const (nm:=fun i=>505+2*i) (rx:=Ev) (δ:=fun x=>[(500,some (.box 123 (cX S.r (.own (ay nx (some d) 0)) (.own 502) (.own 503) (.own (ay nx (some d) 3))))),(501,none),(502,some (.row 55 4 S.m (fun i=>(S.tk i).c))),(503,some (.row 149 2 S.q (aU S.g))),(504,none),((ay nx (some d) 0),some (.row 131 1 (S.n+1) fun i=>[.alt (decide (i< S.n)) (Ev x i) (.ref (ay nx (some d) 1) 0)])),((ay nx (some d) 1),some (.box 134 (p.c++[V.own (ay nx (some d) 2)]))),((ay nx (some d) 2),some (.mp (false,p.cnt) (aO p.fl))),((ay nx (some d) 3),some (.row 40 13 (S.l+1) bS))]) (fun x=>by rw [<-eδ x];exact Qt hwl (hc x) hv hf hargs hd (by simp) rfl) QM (fun x i _=>oR x i) fun x=>(.some _ (.refl _ _ _ _) (.none _ (.some _ (.refl _ _ _ _) (.some _ (.refl _ _ _ _) (.none _ (.some _ (.Ij (nm:=fun i=>505+2*i) (c:=Ev x) fun i _=>oR x i) (.some _ (.refl _ _ _ _) (.some _ (.refl _ _ _ _) (.some _ (.refl _ _ _ _) .nil))))))))),
  dY hd (by simp),vG fun _ _=>trivial,hD⟩
theorem DG{tk':Nat->aN}(hwl:∀b,W b->LB b)(hc:∀x,AM P f [.ref 500 0,a.v] (cG S.r S.n (bX x) S.m S.tk S.q (aU S.g) S.l) v [some (.box 123 (cX S.r (.own 501) (.own 0) (.own 503) (.own 1))),some (.row 131 1 S.n (bX x)),none,some (.row 149 2 S.q (aU S.g)),none] [.row 55 4 (S.m+1) (fun i=>(tk' i).c),(.row 40 13 (S.l+1) bS)])(hv:v.b5=true) (hf:ev fo= .fn (.func f) [] []) (hargs:ar.toList.map ev=[.ref 500 0,a.v]) (hd:d< 1000) (hnx:1<=nx) (hn:S.n<=200):uJ P W LB ⟨some d,.call {callee:= .value fo,args:=ar,argTypes:=ats},ty,pos,af,none⟩ ev nx d S {S with m:=S.m+1,tk:=tk',l:=S.l+1} v:=by
 have hD:=DK (S:=S) (S':={S with m:=S.m+1,tk:=tk',l:=S.l+1}) (nx:=nx) (d:=d) hn hd hnx qU uZ rfl rfl rfl rfl (fun i hi=>rfl);have eδ:∀x:Nat->Value,gK (aI nx (some d) EM) EM ([some (.box 123 (cX S.r (.own 501) (.own 0) (.own 503) (.own 1))),some (.row 131 1 S.n (bX x)),none,some (.row 149 2 S.q (aU S.g)),none]:List (Option Ob))++b6 (aI nx (some d) EM) 0 ([.row 55 4 (S.m+1) (fun i=>(tk' i).c),(.row 40 13 (S.l+1) bS)]:List Ob)=[(500,some (.box 123 (cX S.r (.own 501) (.own (ay nx (some d) 0)) (.own 503) (.own (ay nx (some d) 1))))),(501,some (.row 131 1 S.n fun i=>[Ev x i])),(502,none),(503,some (.row 149 2 S.q (aU S.g))),(504,none),((ay nx (some d) 0),some (.row 55 4 (S.m+1) (fun i=>(tk' i).c))),((ay nx (some d) 1),some (.row 40 13 (S.l+1) bS))]:=fun x=>by kernel_rfl
 refine⟨_,_,[(500,some (.box 123 (cX S.r (.own 501) (.own (ay nx (some d) 0)) (.own 503) (.own (ay nx (some d) 1))))),(501,some (.row 131 1 S.n fun i=>[.ref (505+2*i) 0])),(502,none),(503,some (.row 149 2 S.q (aU S.g))),(504,none),((ay nx (some d) 0),some (.row 55 4 (S.m+1) (fun i=>(tk' i).c))),((ay nx (some d) 1),some (.row 40 13 (S.l+1) bS))],
  aS.const (nm:=fun i=>505+2*i) (rx:=Ev) (δ:=fun x=>[(500,some (.box 123 (cX S.r (.own 501) (.own (ay nx (some d) 0)) (.own 503) (.own (ay nx (some d) 1))))),(501,some (.row 131 1 S.n fun i=>[Ev x i])),(502,none),(503,some (.row 149 2 S.q (aU S.g))),(504,none),((ay nx (some d) 0),some (.row 55 4 (S.m+1) (fun i=>(tk' i).c))),((ay nx (some d) 1),some (.row 40 13 (S.l+1) bS))]) (fun x=>by rw [<-eδ x];exact Qt hwl (hc x) hv hf hargs hd (by simp) rfl) QM (fun x i _=>oR x i) fun x=>(.some _ (.refl _ _ _ _) (.some _ (.sD (fun i _=>oR x i) fun i _=> .ref (nm:=fun i=>505+2*i)) (.none _ (.some _ (.refl _ _ _ _) (.none _ (.some _ (.refl _ _ _ _) (.some _ (.refl _ _ _ _) .nil))))))),
  dY hd (by simp),vG fun _ _=>trivial,hD⟩
theorem DH{k:Nat}(hk:k< S.n){z':Pl}{g':Nat->Int×Int}(hz:z'.c=(S.pl k).c)(hwl:∀b,W b->LB b)(hc:∀x,AM P f [.ref 500 0,a.v] (cJ S.r S.n k x S.m S.tk S.q (aU S.g) S.l (S.pl k)) v [some (.box 123 (cX S.r (.own 501) (.own 502) (.own 0) (.own 1))),some (.row 131 1 S.n (de 505 k x)),some (.row 55 4 S.m (fun i=>(S.tk i).c)),none,none,some (.box 134 ((S.pl k).c++[V.own 506])),some (.mp (false,z'.cnt) (aO z'.fl))] [.row 149 2 (S.q+1) (aU g'),(.row 40 13 (S.l+1) bS)])(hv:v.b5=true) (hf:ev fo= .fn (.func f) [] []) (hargs:ar.toList.map ev=[.ref 500 0,a.v]) (hd:d< 1000) (hnx:1<=nx) (hn:S.n<=200):uJ P W LB ⟨some d,.call {callee:= .value fo,args:=ar,argTypes:=ats},ty,pos,af,none⟩ ev nx d S {S with q:=S.q+1,g:=g',pl:=bW S.pl k z',l:=S.l+1} v:=by
 have hD:=DL (S:=S) (S':={S with q:=S.q+1,g:=g',pl:=bW S.pl k z',l:=S.l+1}) (nx:=nx) (d:=d) (k:=k) hn hd hnx qU uZ rfl rfl rfl rfl hk (fun i hi hik=>by show bW _ _ _ i=_;rw [bW,if_neg hik]);have e1:bW S.pl k z' k=z':=by rw [bW,if_pos rfl]
 simp only [gI,e1]at hD;rw [hz]at hD;have eδ:∀x:Nat->Value,gK (aI nx (some d) (Ag k)) (Ag k) ([some (.box 123 (cX S.r (.own 501) (.own 502) (.own 0) (.own 1))),some (.row 131 1 S.n (de 505 k x)),some (.row 55 4 S.m (fun i=>(S.tk i).c)),none,none,some (.box 134 ((S.pl k).c++[V.own 506])),some (.mp (false,z'.cnt) (aO z'.fl))]:List (Option Ob))++b6 (aI nx (some d) (Ag k)) 0 ([.row 149 2 (S.q+1) (aU g'),(.row 40 13 (S.l+1) bS)]:List Ob)=[(500,some (.box 123 (cX S.r (.own 501) (.own 502) (.own (ay nx (some d) 0)) (.own (ay nx (some d) 1))))),(501,some (.row 131 1 S.n fun i=>[y6 k x i])),(502,some (.row 55 4 S.m (fun i=>(S.tk i).c))),(503,none),(504,none),(505+2*k,some (.box 134 ((S.pl k).c++[V.own (506+2*k)]))),(506+2*k,some (.mp (false,z'.cnt) (aO z'.fl))),((ay nx (some d) 0),some (.row 149 2 (S.q+1) (aU g'))),((ay nx (some d) 1),some (.row 40 13 (S.l+1) bS))]:=fun x=>by kernel_rfl
 refine⟨_,_,[(500,some (.box 123 (cX S.r (.own 501) (.own 502) (.own (ay nx (some d) 0)) (.own (ay nx (some d) 1))))),(501,some (.row 131 1 S.n fun i=>[.ref (505+2*i) 0])),(502,some (.row 55 4 S.m (fun i=>(S.tk i).c))),(503,none),(504,none),(505+2*k,some (.box 134 ((S.pl k).c++[V.own (506+2*k)]))),(506+2*k,some (.mp (false,z'.cnt) (aO z'.fl))),((ay nx (some d) 0),some (.row 149 2 (S.q+1) (aU g'))),((ay nx (some d) 1),some (.row 40 13 (S.l+1) bS))],
  aS.const (nm:=fun i=>505+2*i) (rx:=y6 k) (δ:=fun x=>[(500,some (.box 123 (cX S.r (.own 501) (.own 502) (.own (ay nx (some d) 0)) (.own (ay nx (some d) 1))))),(501,some (.row 131 1 S.n fun i=>[y6 k x i])),(502,some (.row 55 4 S.m (fun i=>(S.tk i).c))),(503,none),(504,none),(505+2*k,some (.box 134 ((S.pl k).c++[V.own (506+2*k)]))),(506+2*k,some (.mp (false,z'.cnt) (aO z'.fl))),((ay nx (some d) 0),some (.row 149 2 (S.q+1) (aU g'))),((ay nx (some d) 1),some (.row 40 13 (S.l+1) bS))]) (fun x=>by rw [<-eδ x];exact P7 hwl (hc x) hv hf hargs hd (by simp) rfl) Qg (fun x i _=>lA k x i) fun x=>(.some _ (.refl _ _ _ _) (.some _ (.sD (fun i _=>lA k x i) fun i _=> .ref (nm:=fun i=>505+2*i)) (.some _ (.refl _ _ _ _) (.none _ (.none _ (.some _ (.refl _ _ _ _) (.some _ (.refl _ _ _ _) (.some _ (.refl _ _ _ _) (.some _ (.refl _ _ _ _) .nil))))))))),
  dY hd (by simp),qz hk,hD⟩
theorem xj{k:Nat}(hk:k< S.n){z':Pl}(hwl:∀b,W b->LB b)(hc:∀x,AM P f [.ref 500 0,a.v] (cJ S.r S.n k x S.m S.tk S.q (aU S.g) S.l (S.pl k)) v [some (.box 123 (cX S.r (.own 501) (.own 502) (.own 503) (.own 0))),some (.row 131 1 S.n (de 505 k x)),some (.row 55 4 S.m (fun i=>(S.tk i).c)),some (.row 149 2 S.q (aU S.g)),none,some (.box 134 (z'.c++[V.own 506])),some (.mp (false,z'.cnt) (aO z'.fl))] [(.row 40 13 (S.l+1) bS)])(hv:v.b5=true) (hf:ev fo= .fn (.func f) [] []) (hargs:ar.toList.map ev=[.ref 500 0,a.v]) (hd:d< 1000) (hnx:1<=nx) (hn:S.n<=200):uJ P W LB ⟨some d,.call {callee:= .value fo,args:=ar,argTypes:=ats},ty,pos,af,none⟩ ev nx d S {S with pl:=bW S.pl k z',l:=S.l+1} v:=by
 have hD:=FZ (S:=S) (S':={S with pl:=bW S.pl k z',l:=S.l+1}) (nx:=nx) (d:=d) (k:=k) hn hd hnx qU rfl rfl rfl rfl rfl rfl hk (fun i hi hik=>by show bW _ _ _ i=_;rw [bW,if_neg hik]);have e1:bW S.pl k z' k=z':=by rw [bW,if_pos rfl]
 simp only [gI,e1]at hD;have eδ:∀x:Nat->Value,gK (aI nx (some d) (Ag k)) (Ag k) ([some (.box 123 (cX S.r (.own 501) (.own 502) (.own 503) (.own 0))),some (.row 131 1 S.n (de 505 k x)),some (.row 55 4 S.m (fun i=>(S.tk i).c)),some (.row 149 2 S.q (aU S.g)),none,some (.box 134 (z'.c++[V.own 506])),some (.mp (false,z'.cnt) (aO z'.fl))]:List (Option Ob))++b6 (aI nx (some d) (Ag k)) 0 ([(.row 40 13 (S.l+1) bS)]:List Ob)=[(500,some (.box 123 (cX S.r (.own 501) (.own 502) (.own 503) (.own (ay nx (some d) 0))))),(501,some (.row 131 1 S.n fun i=>[y6 k x i])),(502,some (.row 55 4 S.m (fun i=>(S.tk i).c))),(503,some (.row 149 2 S.q (aU S.g))),(504,none),(505+2*k,some (.box 134 (z'.c++[V.own (506+2*k)]))),(506+2*k,some (.mp (false,z'.cnt) (aO z'.fl))),((ay nx (some d) 0),some (.row 40 13 (S.l+1) bS))]:=fun x=>by kernel_rfl
 refine⟨_,_,[(500,some (.box 123 (cX S.r (.own 501) (.own 502) (.own 503) (.own (ay nx (some d) 0))))),(501,some (.row 131 1 S.n fun i=>[.ref (505+2*i) 0])),(502,some (.row 55 4 S.m (fun i=>(S.tk i).c))),(503,some (.row 149 2 S.q (aU S.g))),(504,none),(505+2*k,some (.box 134 (z'.c++[V.own (506+2*k)]))),(506+2*k,some (.mp (false,z'.cnt) (aO z'.fl))),((ay nx (some d) 0),some (.row 40 13 (S.l+1) bS))],
  aS.const (nm:=fun i=>505+2*i) (rx:=y6 k) (δ:=fun x=>[(500,some (.box 123 (cX S.r (.own 501) (.own 502) (.own 503) (.own (ay nx (some d) 0))))),(501,some (.row 131 1 S.n fun i=>[y6 k x i])),(502,some (.row 55 4 S.m (fun i=>(S.tk i).c))),(503,some (.row 149 2 S.q (aU S.g))),(504,none),(505+2*k,some (.box 134 (z'.c++[V.own (506+2*k)]))),(506+2*k,some (.mp (false,z'.cnt) (aO z'.fl))),((ay nx (some d) 0),some (.row 40 13 (S.l+1) bS))]) (fun x=>by rw [<-eδ x];exact P7 hwl (hc x) hv hf hargs hd (by simp) rfl) Qg (fun x i _=>lA k x i) fun x=>(.some _ (.refl _ _ _ _) (.some _ (.sD (fun i _=>lA k x i) fun i _=> .ref (nm:=fun i=>505+2*i)) (.some _ (.refl _ _ _ _) (.some _ (.refl _ _ _ _) (.none _ (.some _ (.refl _ _ _ _) (.some _ (.refl _ _ _ _) (.some _ (.refl _ _ _ _) .nil)))))))),
  dY hd (by simp),qz hk,hD⟩
end
theorem EY{kind cut area stock yield plate bath s0 s1 cur sec place flaw:Int}(hk:kind=3)(h:ck ⟨kind,cut,area,stock,yield,plate,bath,s0,s1,cur,sec,place,flaw⟩=true):Act.IJ ⟨kind,cut,area,stock,yield,plate,bath,s0,s1,cur,sec,place,flaw⟩:=by subst hk;simp [ck,bl]at h;exact⟨by simp;omega,by simp;omega,by simp;omega,by simp;omega⟩
theorem vr{r:Rc}{n:Nat}{z:Pl}{a:Act}(hz:z.ok)(h:dz r n z a=0):z.kind<=2/\z.ret=false/\z.grown< r.max z.kind:=by
 unfold dz at h;by_cases h1:z.ret=true;·rw [if_pos h1]at h;cases h
 rw [if_neg h1]at h;by_cases h2:uy r z=0\/256<=n;·rw [if_pos h2]at h;cases h
 have h3:uy r z≠0:=fun e=>h2 (.inl e);rw [uy,if_neg h1]at h3;have h4:z.grown< r.max z.kind:=by omega
 refine⟨?_,by simpa using h1,h4⟩;have:=hz.kind;have hg:=hz.grown;by_cases h5:z.kind=3;·rw [h5]at h4;simp [Rc.max]at h4;omega
 ·omega
section
variable {W LB:Nat->Prop}{d:Nat}{ty:TypeId}{pos:String}{af:Array Edge}{ev:Operand->V}{fo:Operand}{ar:Array Operand}{ats:Array TypeId}{nx:Nat}{S:Sh}
theorem Oh(hwl:∀b,W b->LB b)(hS:S.ok)(hl:S.l<=60)(a:Act)(hf:ev fo= .fn (.func 13) [] [])(hargs:ar.toList.map ev=[.ref 500 0,a.v])(hd:d< 1000)(hnx:1<=nx) :
    uJ Tryz.prog W LB ⟨some d,.call {callee:= .value fo,args:=ar,argTypes:=ats},ty,pos,af,none⟩ ev nx d S (bO S a).1 (.tup [.i (bO S a).2.1,.i (bO S a).2.2]):=by
  have hn:S.n<=200:=by have:=hS.n;omega
  have hq:S.q<=60:=by have:=hS.q;omega
  have hm:=hS.m
  by_cases hv:ck a=false
  · rw [show bO S a=(S,0,2) by rw [bO,if_pos hv]]
    exact og hwl (fun x=>Ms S.r S.n x S.m S.tk S.q S.g S.l a oM hv) rfl hf hargs hd
  have hv:ck a=true:=by simpa using hv
  obtain⟨kind,cut,area,stock,yield,plate,bath,s0,s1,cur,sec,place,flaw⟩:=a
  obtain⟨A,hA⟩:∃A:Act,A=⟨kind,cut,area,stock,yield,plate,bath,s0,s1,cur,sec,place,flaw⟩:=⟨_,rfl⟩
  by_cases k1:kind=1
  · subst k1
    rw [<-hA,show bO S A=({S with n:=S.n+1,pl:=dH S.pl S.n (ov A),l:=S.l+1},(S.n:Int),0) by rw [bO,if_neg (by rw [hA,hv];simp),if_pos (by rw [hA])]]
    try rw [hA]
    exact FY hwl (fun x=>s8 S.r S.n x S.m S.tk S.q S.g S.l _ oM hv (z9 S.r S.n x S.m S.tk S.q S.g S.l _ hn)) rfl hf hargs hd hnx hn
  by_cases k2:kind=2
  · subst k2
    by_cases c:S.m< 8
    · rw [<-hA,show bO S A=({S with m:=S.m+1,tk:=lZ S.m S.tk A,l:=S.l+1},(S.m:Int),0) by rw [bO,if_neg (by rw [hA,hv];simp),if_neg (by rw [hA];simp),if_pos (by rw [hA]),if_pos c],hA]
      exact DG hwl (fun x=>zI S.r S.n x S.m S.tk S.q S.g S.l _ oM hv (Je S.r S.n x S.m S.tk S.q S.g S.l _ c)) rfl hf hargs hd hnx hn
    · rw [<-hA,show bO S A=(S,0,11) by rw [bO,if_neg (by rw [hA,hv];simp),if_neg (by rw [hA];simp),if_pos (by rw [hA]),if_neg c]]
      exact og hwl (fun x=>zH S.r S.n x S.m S.tk S.q S.g S.l (by simp) oM hv (Fx S.r S.n x S.m S.tk S.q S.g S.l _ c)) rfl hf hargs hd
  by_cases k3:kind=3
  · subst k3
    have hg:=EY rfl hv
    have e0:bO S A=if ¬(0<=A.plate/\A.plate< S.n)then(S,(0:Int),(5:Int))else if ¬(0<=A.bath/\A.bath< S.m)then(S,0,5)else if dz S.r S.n (S.pl A.plate.toNat) A≠0 then(S,0,dz S.r S.n (S.pl A.plate.toNat) A)else if dP S.r (S.pl A.plate.toNat) (S.tk A.bath.toNat) A≠0 then(S,0,dP S.r (S.pl A.plate.toNat) (S.tk A.bath.toNat) A)
        else({S with n:=S.n+1,pl:=dH (bW S.pl A.plate.toNat (S.pl A.plate.toNat).under) S.n ((S.pl A.plate.toNat).over A.plate (dc (S.pl A.plate.toNat) (S.tk A.bath.toNat) A)),tk:=mh S.tk A.bath.toNat ((S.tk A.bath.toNat).used A),l:=S.l+1},(S.n:Int),0):=by
      rw [bO,if_neg (by rw [hA,hv];simp),if_neg (by rw [hA];simp),if_neg (by rw [hA];simp),if_pos (by rw [hA])]
    by_cases c:0<=plate/\plate< S.n
    · obtain⟨k,hk⟩:∃k:Nat,plate=k:=⟨plate.toNat,by omega⟩
      have hkn:k< S.n:=by omega
      have hkt:A.plate.toNat=k:=by rw [hA];show plate.toNat=k;omega
      have hz:=hS.pl k hkn
      rw [if_neg (by rw [hA];exact not_not_intro c),hkt]at e0
      by_cases c2:0<=bath/\bath< S.m
      · obtain⟨ht,hc1,hc2⟩:=hS.tk bath.toNat oM
        have hcc:0<=(S.tk bath.toNat).charge/\(S.tk bath.toNat).charge<=1000000000000000:=⟨hc1,by omega⟩
        rw [if_neg (by rw [hA];exact not_not_intro c2)]at e0
        by_cases c3:dz S.r S.n (S.pl k) A=0
        · obtain⟨z1,z2,z3⟩:=vr hz c3
          rw [if_neg (by rw [c3];simp)]at e0
          by_cases c4:dP S.r (S.pl k) (S.tk A.bath.toNat) A=0
          · rw [if_neg (by rw [c4];simp)]at e0
            rw [<-hA,e0]
            try rw [hA]
            rw [hA]at c3 c4
            exact DI hkn hwl (fun x=>zN S.r S.n k x S.m S.tk S.q S.g S.l (S.pl k) _ _ _ oM hv (JK S.r hS.r S.n k x S.m S.tk S.q S.g S.l (S.pl k) hz z1 _ hg hk hkn hn c2 hm ht hcc c3 c4)) rfl hf hargs hd hnx hn
          · rw [if_pos c4]at e0
            rw [<-hA,e0]
            try rw [hA]
            rw [hA]at c3 c4
            exact kK hkn hwl (fun x=>mI S.r S.n k x S.m S.tk S.q S.g S.l (S.pl k) c4 oM hv (Gu S.r hS.r S.n k x S.m S.tk S.q S.g S.l (S.pl k) hz z1 _ hg hk hkn oM c2 hm ht c3 c4)) rfl hf hargs hd
        · rw [if_pos c3]at e0
          rw [<-hA,e0]
          try rw [hA]
          rw [hA]at c3
          exact kK hkn hwl (fun x=>mI S.r S.n k x S.m S.tk S.q S.g S.l (S.pl k) c3 oM hv (Gt S.r hS.r S.n k x S.m S.tk S.q S.g S.l (S.pl k) hz _ hg hk hkn oM c2 hm c3)) rfl hf hargs hd
      · rw [if_pos (by rw [hA];exact c2)]at e0
        rw [<-hA,e0]
        try rw [hA]
        exact kK hkn hwl (fun x=>mI S.r S.n k x S.m S.tk S.q S.g S.l (S.pl k) (by simp) oM hv (Gs S.r S.n k x S.m S.tk S.q S.g S.l (S.pl k) _ hk hkn oM c2 hm)) rfl hf hargs hd
    · rw [if_pos (by rw [hA];exact c)]at e0
      rw [<-hA,e0]
      try rw [hA]
      exact og hwl (fun x=>zM S.r S.n x S.m S.tk S.q S.g S.l (by simp) oM hv (Gv S.r S.n x S.m S.tk S.q S.g S.l _ c oM hm)) rfl hf hargs hd
  have e0:bO S A=if ¬(0<=A.plate/\A.plate< S.n)then(S,(0:Int),(5:Int))
      else if A.kind=4 then
        if(S.pl A.plate.toNat).ret then(S,0,10)
        else({S with q:=S.q+1,g:=jA S.g S.q (A.plate,A.place),pl:=bW S.pl A.plate.toNat ((S.pl A.plate.toNat).j9 S.q),l:=S.l+1},(S.q:Int),0)
      else if A.kind=5 then
        if ¬(0<=A.flaw/\A.flaw< S.q)then(S,0,5)
        else if(S.pl A.plate.toNat).ret then(S,0,10)
        else if(S.pl A.plate.toNat).fl A.flaw=false then(S,0,19)
        else({S with pl:=bW S.pl A.plate.toNat ((S.pl A.plate.toNat).vf A.flaw),l:=S.l+1},0,0)
      else if(S.pl A.plate.toNat).ret then(S,0,10)
      else({S with pl:=bW S.pl A.plate.toNat {S.pl A.plate.toNat with ret:=true},l:=S.l+1},0,0):=by
    rw [bO,if_neg (by rw [hA,hv];simp),if_neg (by rw [hA];exact k1),if_neg (by rw [hA];exact k2),if_neg (by rw [hA];exact k3)]
  by_cases c:0<=plate/\plate< S.n
  · obtain⟨k,hk⟩:∃k:Nat,plate=k:=⟨plate.toNat,by omega⟩
    have hkn:k< S.n:=by omega
    have hkt:A.plate.toNat=k:=by rw [hA];show plate.toNat=k;omega
    rw [if_neg (by rw [hA];exact not_not_intro c),hkt]at e0
    by_cases k4:kind=4
    · rw [if_pos (by rw [hA];exact k4)]at e0
      subst k4
      by_cases c2:(S.pl k).ret=true
      · rw [if_pos c2]at e0
        rw [<-hA,e0]
        try rw [hA]
        exact kK hkn hwl (fun x=>zK S.r S.n k x S.m S.tk S.q S.g S.l (S.pl k) (by simp) oM hv (Gd S.r S.n k x S.m S.tk S.q S.g S.l (S.pl k) _ hk hkn c2 oM)) rfl hf hargs hd
      · have c2':(S.pl k).ret=false:=by simpa using c2
        rw [if_neg c2]at e0
        rw [<-hA,e0]
        try rw [hA]
        exact DH hkn rfl hwl (fun x=>zL S.r S.n k x S.m S.tk S.q S.g S.l (S.pl k) _ _ oM hv (JC S.r S.n k x S.m S.tk S.q S.g S.l (S.pl k) _ hk hkn oM oM c2')) rfl hf hargs hd hnx hn
    rw [if_neg (by rw [hA];exact k4)]at e0
    by_cases k5:kind=5
    · rw [if_pos (by rw [hA];exact k5)]at e0
      subst k5
      by_cases c1:0<=flaw/\flaw< S.q
      · rw [if_neg (by rw [hA];exact not_not_intro c1)]at e0
        by_cases c2:(S.pl k).ret=true
        · rw [if_pos c2]at e0
          rw [<-hA,e0]
          try rw [hA]
          exact kK hkn hwl (fun x=>mJ S.r S.n k x S.m S.tk S.q S.g S.l (S.pl k) (by simp) oM hv (G7 S.r S.n k x S.m S.tk S.q S.g S.l (S.pl k) _ hk hkn oM c1 c2 oM)) rfl hf hargs hd
        · have c2':(S.pl k).ret=false:=by simpa using c2
          rw [if_neg c2]at e0
          by_cases c3:(S.pl k).fl A.flaw=false
          · rw [if_pos c3]at e0
            rw [<-hA,e0]
            try rw [hA]
            rw [hA]at c3
            exact kK hkn hwl (fun x=>mJ S.r S.n k x S.m S.tk S.q S.g S.l (S.pl k) (by simp) oM hv (G5 S.r S.n k x S.m S.tk S.q S.g S.l (S.pl k) _ hk hkn oM c1 c2' c3 oM)) rfl hf hargs hd
          · have c3':(S.pl k).fl A.flaw=true:=by simpa using c3
            rw [if_neg c3]at e0
            rw [<-hA,e0]
            try rw [hA]
            rw [hA]at c3'
            exact xj hkn hwl (fun x=>zP S.r S.n k x S.m S.tk S.q S.g S.l (S.pl k) _ oM hv (J5 S.r S.n k x S.m S.tk S.q S.g S.l (S.pl k) _ hk hkn oM oM c2' c1 c3')) rfl hf hargs hd hnx hn
      · rw [if_pos (by rw [hA];exact c1)]at e0
        rw [<-hA,e0]
        try rw [hA]
        exact kK hkn hwl (fun x=>mJ S.r S.n k x S.m S.tk S.q S.g S.l (S.pl k) (by simp) oM hv (G4 S.r S.n k x S.m S.tk S.q S.g S.l (S.pl k) _ hk hkn oM c1 oM)) rfl hf hargs hd
    rw [if_neg (by rw [hA];exact k5)]at e0
    have k6:kind=6:=by
      simp [ck,k1,k2,k3,k4,k5]at hv
      exact hv
    subst k6
    by_cases c2:(S.pl k).ret=true
    · rw [if_pos c2]at e0
      rw [<-hA,e0]
      try rw [hA]
      exact kK hkn hwl (fun x=>vh S.r S.n k x S.m S.tk S.q S.g S.l (S.pl k) (by simp) oM hv (AD S.r S.n k x S.m S.tk S.q S.g S.l (S.pl k) _ hk hkn c2 oM)) rfl hf hargs hd
    · have c2':(S.pl k).ret=false:=by simpa using c2
      rw [if_neg c2]at e0
      rw [<-hA,e0]
      try rw [hA]
      exact xj hkn hwl (fun x=>vi S.r S.n k x S.m S.tk S.q S.g S.l (S.pl k) _ oM hv (El S.r S.n k x S.m S.tk S.q S.g S.l (S.pl k) _ hk hkn oM c2')) rfl hf hargs hd hnx hn
  · rw [if_pos (by rw [hA];exact c)]at e0
    rw [<-hA,e0]
    try rw [hA]
    by_cases k4:kind=4
    · subst k4
      exact og hwl (fun x=>zJ S.r S.n x S.m S.tk S.q S.g S.l (by simp) oM hv (Gc S.r S.n x S.m S.tk S.q S.g S.l _ c oM)) rfl hf hargs hd
    by_cases k5:kind=5
    · subst k5
      exact og hwl (fun x=>zO S.r S.n x S.m S.tk S.q S.g S.l (by simp) oM hv (G6 S.r S.n x S.m S.tk S.q S.g S.l _ c oM)) rfl hf hargs hd
    have k6:kind=6:=by
      simp [ck,k1,k2,k3,k4,k5]at hv
      exact hv
    subst k6
    exact og hwl (fun x=>vg S.r S.n x S.m S.tk S.q S.g S.l (by simp) oM hv (AB S.r S.n x S.m S.tk S.q S.g S.l _ c oM)) rfl hf hargs hd
end
def bV(r:Rc):Sh:=⟨r,0,fun _=>⟨0,0,0,0,0,0,false,0,fun _=>false⟩,0,fun _=>⟨0,0,0,0⟩,0,fun _=>(0,0),0⟩
theorem qu{r:Rc}(h:r.ok):(bV r).ok:=⟨h,Nat.le_refl _,fun i hi=>absurd hi (Nat.not_lt_zero _),Nat.zero_le _,fun i hi=>absurd hi (Nat.not_lt_zero _),Nat.le_refl _⟩
theorem EZ{a:Act}(h:ck a=true)(hk:a.kind=1):1<=a.area/\a.area<=1048576:=by rw [ck,if_pos hk]at h;simp [bl]at h;omega
theorem E2{a:Act}(h:ck a=true)(hk:a.kind=2):(0<=a.stock/\a.stock<=1099511627776)/\1<=a.yield/\a.yield<=1000:=by rw [ck,if_neg oM,if_pos hk]at h;simp [bl]at h;omega
theorem Rc.max_le{r:Rc}(h:r.ok)(k:Nat):r.max k<=16:=by
 have h1:=h.mo;have h2:=h.st
 match k with
 |0=>simp [Rc.max]
 |1=>simp [Rc.max];omega
 |2=>simp [Rc.max];omega
 |k+3=>simp [Rc.max]
theorem qD{S:Sh}(h:S.ok)(a:Act):(bO S a).1.ok:=by
  unfold bO
  by_cases hv:ck a=false
  · rw [if_pos hv];exact h
  rw [if_neg hv]
  have hv:ck a=true:=by simpa using hv
  have tk1:∀i,i< S.m->(S.tk i).ok/\0<=(S.tk i).charge/\(S.tk i).charge<=2199023255552*((S.l+1:Nat):Int):=fun i hi=>by
    obtain⟨h1,h2,h3⟩:=h.tk i hi
    exact⟨h1,h2,by omega⟩
  have hn:=h.n
  have hq:=h.q
  have hset:∀(k:Nat) (z:Pl),z.ok->∀i,i< S.n->(bW S.pl k z i).ok:=fun k z hz i hi=>by
    unfold bW;split
    · exact hz
    · exact h.pl i hi
  by_cases k1:a.kind=1
  · rw [if_pos k1]
    refine⟨h.r,by show S.n+1<=S.l+1;omega,fun i hi=> ?_,h.m,tk1,by show S.q<=S.l+1;omega⟩
    show(dH S.pl S.n (ov a) i).ok
    unfold dH;split
    · rename_i hi';exact h.pl i hi'
    · exact⟨by simp [ov],EZ hv k1,by simp [ov]⟩
  rw [if_neg k1]
  by_cases k2:a.kind=2
  · rw [if_pos k2]
    by_cases c:S.m< 8
    · rw [if_pos c]
      obtain⟨b1,b2⟩:=E2 hv k2
      refine⟨h.r,by show S.n<=S.l+1;omega,h.pl,c,fun i hi=> ?_,by show S.q<=S.l+1;omega⟩
      show(lZ S.m S.tk a i).ok/\0<=(lZ S.m S.tk a i).charge/\(lZ S.m S.tk a i).charge<=2199023255552*((S.l+1:Nat):Int)
      unfold lZ;split
      · rename_i hi';exact tk1 i hi'
      · refine⟨⟨b2,b1.1,by simp [wV],by simp [wV];exact b1.2⟩,by simp [wV],by simp [wV];omega⟩
    · rw [if_neg c];exact h
  rw [if_neg k2]
  by_cases k3:a.kind=3
  · rw [if_pos k3]
    by_cases c1:0<=a.plate/\a.plate< S.n
    · rw [if_neg (not_not_intro c1)]
      by_cases c2:0<=a.bath/\a.bath< S.m
      · rw [if_neg (not_not_intro c2)]
        by_cases c3:dz S.r S.n (S.pl a.plate.toNat) a=0
        · rw [if_neg (by rw [c3];simp)]
          by_cases c4:dP S.r (S.pl a.plate.toNat) (S.tk a.bath.toNat) a=0
          · rw [if_neg (by rw [c4];simp)]
            have hz:=h.pl a.plate.toNat oM
            obtain⟨ht,hc1,hc2⟩:=h.tk a.bath.toNat oM
            obtain⟨z1,z2,z3⟩:=vr hz c3
            have hmx:=Rc.max_le h.r (S.pl a.plate.toNat).kind
            have hga:a.IJ:=EY k3 hv
            obtain⟨q1,q2,q3,q4,q5⟩:=BR hga ht.yield
            obtain⟨q6,q7⟩:=BS hga
            have hms:iX (S.tk a.bath.toNat).yield a<=(S.tk a.bath.toNat).stock:=by
              unfold dP at c4
              split at c4
              · cases c4
              · split at c4
                · cases c4
                · omega
            have hgn:=hz.grown
            refine⟨h.r,by show S.n+1<=S.l+1;omega,fun i hi=> ?_,h.m,fun i hi=> ?_,by show S.q<=S.l+1;omega⟩
            · show(dH (bW S.pl a.plate.toNat (S.pl a.plate.toNat).under) S.n _ i).ok
              unfold dH;split
              · rename_i hi'
                refine hset _ (S.pl a.plate.toNat).under ⟨hz.kind,hz.area,?_⟩ i hi'
                show 0<=(S.pl a.plate.toNat).grown+1/\(S.pl a.plate.toNat).grown+1<=1000
                omega
              · refine⟨?_,hz.area,by simp [Pl.over]⟩
                show(S.pl a.plate.toNat).kind+1<=3
                omega
            · show(mh S.tk a.bath.toNat _ i).ok/\0<=(mh S.tk a.bath.toNat _ i).charge/\(mh S.tk a.bath.toNat _ i).charge<=2199023255552*((S.l+1:Nat):Int)
              unfold mh;split
              · have w1:=ht.stock;have w2:=ht.laid;have w3:=ht.sum
                refine⟨⟨ht.yield,?_,?_,?_⟩,?_,?_⟩
                · show 0<=(S.tk a.bath.toNat).stock- iX (S.tk a.bath.toNat).yield a;omega
                · show 0<=(S.tk a.bath.toNat).laid+iX (S.tk a.bath.toNat).yield a;omega
                · show(S.tk a.bath.toNat).stock- iX (S.tk a.bath.toNat).yield a+((S.tk a.bath.toNat).laid+iX (S.tk a.bath.toNat).yield a)<=1099511627776;omega
                · show 0<=(S.tk a.bath.toNat).charge+Gn a;unfold Gn;omega
                · show(S.tk a.bath.toNat).charge+Gn a<=_;unfold Gn;omega
              · exact tk1 i hi
          · rw [if_pos c4];exact h
        · rw [if_pos c3];exact h
      · rw [if_pos c2];exact h
    · rw [if_pos c1];exact h
  rw [if_neg k3]
  by_cases c1:0<=a.plate/\a.plate< S.n
  · rw [if_neg (not_not_intro c1)]
    have hz:=h.pl a.plate.toNat oM
    by_cases k4:a.kind=4
    · rw [if_pos k4]
      split
      · exact h
      · exact⟨h.r,by show S.n<=S.l+1;omega,hset _ _ ⟨hz.kind,hz.area,hz.grown⟩,h.m,tk1,by show S.q+1<=S.l+1;omega⟩
    rw [if_neg k4]
    by_cases k5:a.kind=5
    · rw [if_pos k5]
      split
      · exact h
      split
      · exact h
      split
      · exact h
      · exact⟨h.r,by show S.n<=S.l+1;omega,hset _ _ ⟨hz.kind,hz.area,hz.grown⟩,h.m,tk1,by show S.q<=S.l+1;omega⟩
    rw [if_neg k5]
    split
    · exact h
    · exact⟨h.r,by show S.n<=S.l+1;omega,hset _ _ ⟨hz.kind,hz.area,hz.grown⟩,h.m,tk1,by show S.q<=S.l+1;omega⟩
  · rw [if_pos c1];exact h
theorem iE{S:Sh}{a:Act}(p:Sh×Int×Int->Prop)(hE:∀e:Int,e≠0->p (S,0,e))
    (hL:ck a=true->a.kind=1->p ({S with n:=S.n+1,pl:=dH S.pl S.n (ov a),l:=S.l+1},S.n,0))
    (hB:ck a=true->a.kind=2->S.m< 8->p ({S with m:=S.m+1,tk:=lZ S.m S.tk a,l:=S.l+1},S.m,0))
    (hG:ck a=true->a.kind=3->(0<=a.plate/\a.plate< S.n)->(0<=a.bath/\a.bath< S.m)->dz S.r S.n (S.pl a.plate.toNat) a=0->dP S.r (S.pl a.plate.toNat) (S.tk a.bath.toNat) a=0->
      p ({S with n:=S.n+1,pl:=dH (bW S.pl a.plate.toNat (S.pl a.plate.toNat).under) S.n ((S.pl a.plate.toNat).over a.plate (dc (S.pl a.plate.toNat) (S.tk a.bath.toNat) a)),tk:=mh S.tk a.bath.toNat ((S.tk a.bath.toNat).used a),l:=S.l+1},S.n,0))
    (hF:ck a=true->a.kind=4->(0<=a.plate/\a.plate< S.n)->(S.pl a.plate.toNat).ret=false->p ({S with q:=S.q+1,g:=jA S.g S.q (a.plate,a.place),pl:=bW S.pl a.plate.toNat ((S.pl a.plate.toNat).j9 S.q),l:=S.l+1},S.q,0))
    (hM:ck a=true->a.kind=5->(0<=a.plate/\a.plate< S.n)->(0<=a.flaw/\a.flaw< S.q)->(S.pl a.plate.toNat).ret=false->(S.pl a.plate.toNat).fl a.flaw=true->p ({S with pl:=bW S.pl a.plate.toNat ((S.pl a.plate.toNat).vf a.flaw),l:=S.l+1},0,0))
    (hR:ck a=true->a.kind=6->(0<=a.plate/\a.plate< S.n)->(S.pl a.plate.toNat).ret=false->p ({S with pl:=bW S.pl a.plate.toNat {S.pl a.plate.toNat with ret:=true},l:=S.l+1},0,0)):p (bO S a):=by
  unfold bO
  by_cases hv:ck a=false
  · rw [if_pos hv];exact hE 2 (by decide)
  rw [if_neg hv]
  have hv:ck a=true:=by simpa using hv
  by_cases k1:a.kind=1
  · rw [if_pos k1];exact hL hv k1
  rw [if_neg k1]
  by_cases k2:a.kind=2
  · rw [if_pos k2]
    by_cases c:S.m< 8
    · rw [if_pos c];exact hB hv k2 c
    · rw [if_neg c];exact hE 11 (by decide)
  rw [if_neg k2]
  by_cases k3:a.kind=3
  · rw [if_pos k3]
    by_cases c1:0<=a.plate/\a.plate< S.n
    · rw [if_neg (not_not_intro c1)]
      by_cases c2:0<=a.bath/\a.bath< S.m
      · rw [if_neg (not_not_intro c2)]
        by_cases c3:dz S.r S.n (S.pl a.plate.toNat) a=0
        · rw [if_neg (not_not_intro c3)]
          by_cases c4:dP S.r (S.pl a.plate.toNat) (S.tk a.bath.toNat) a=0
          · rw [if_neg (not_not_intro c4)];exact hG hv k3 c1 c2 c3 c4
          · rw [if_pos c4];exact hE _ c4
        · rw [if_pos c3];exact hE _ c3
      · rw [if_pos c2];exact hE 5 (by decide)
    · rw [if_pos c1];exact hE 5 (by decide)
  rw [if_neg k3]
  by_cases c1:0<=a.plate/\a.plate< S.n
  · rw [if_neg (not_not_intro c1)]
    by_cases k4:a.kind=4
    · rw [if_pos k4]
      by_cases c2:(S.pl a.plate.toNat).ret=true
      · rw [if_pos c2];exact hE 10 (by decide)
      · rw [if_neg c2];exact hF hv k4 c1 (by simpa using c2)
    rw [if_neg k4]
    by_cases k5:a.kind=5
    · rw [if_pos k5]
      by_cases c3:0<=a.flaw/\a.flaw< S.q
      · rw [if_neg (not_not_intro c3)]
        by_cases c2:(S.pl a.plate.toNat).ret=true
        · rw [if_pos c2];exact hE 10 (by decide)
        · rw [if_neg c2]
          by_cases c4:(S.pl a.plate.toNat).fl a.flaw=false
          · rw [if_pos c4];exact hE 19 (by decide)
          · rw [if_neg c4];exact hM hv k5 c1 c3 (by simpa using c2) (by simpa using c4)
      · rw [if_pos c3];exact hE 5 (by decide)
    rw [if_neg k5]
    by_cases c2:(S.pl a.plate.toNat).ret=true
    · rw [if_pos c2];exact hE 10 (by decide)
    · rw [if_neg c2]
      exact hR hv (by simp [ck,k1,k2,k3,k4,k5]at hv;exact hv) c1 (by simpa using c2)
  · rw [if_pos c1];exact hE 5 (by decide)
theorem Ie(S:Sh)(a:Act):(bO S a).1.l<=S.l+1:= iE (fun x=>x.1.l<=S.l+1) (fun _ _=>Nat.le_succ _) (fun _ _=>Nat.le_refl _) (fun _ _ _=>Nat.le_refl _) (fun _ _ _ _ _ _=>Nat.le_refl _) (fun _ _ _ _=>Nat.le_refl _) (fun _ _ _ _ _ _=>Nat.le_refl _) (fun _ _ _ _=>Nat.le_refl _)
theorem Nq(S:Sh)(a:Act):(bO S a).1.r=S.r:= iE (fun x=>x.1.r=S.r) (fun _ _=>rfl) (fun _ _=>rfl) (fun _ _ _=>rfl) (fun _ _ _ _ _ _=>rfl) (fun _ _ _ _=>rfl) (fun _ _ _ _ _ _=>rfl) (fun _ _ _ _=>rfl)
def cD(S:Sh)(l:List Act):Sh:=l.foldl (fun S a=>(bO S a).1) S
theorem Cu{S:Sh}(h:S.ok):∀l,(cD S l).ok/\(cD S l).l<=S.l+l.length/\(cD S l).r=S.r:=by
 intro l;induction l generalizing S with
 |nil=>exact⟨h,Nat.le_refl _,rfl⟩
 |cons a l ih=>obtain⟨h1,h2,h3⟩:=ih (qD h a);have:=Ie S a;refine⟨h1,?_,h3.trans (Nq S a)⟩;show(cD (bO S a).1 l).l<=_;simp only [List.length_cons];omega
theorem Eu(S:Sh)(l:List Act)(a:Act):cD S (l++[a])=(bO (cD S l) a).1:=by simp [cD]
def xz(p:Pl):V:= .fset false fun k=>match k with | .i n=>p.fl n | .s _=>false
def JF(S:Sh):V:= .ptr (cX S.r (.sl 1 S.n fun i=>[.ptr ((S.pl i).c++[xz (S.pl i)])]) (.sl 4 S.m fun i=>(S.tk i).c) (.sl 2 S.q (aU S.g)) (.sl 13 S.l bS))
theorem Gl{S:Sh}{σ:Nat->Option Ob}(h:eP S gN σ):Fz σ (.ref 500 0) (JF S):=by
 refine Fz.refs (t:=123) (cs:=cX S.r (.own 501) (.own 502) (.own 503) (.own 504)) h.s ?_;refine iG.append (iG.b5 (l:= .b true::S.r.c) rfl) ⟨Fz.rows (e:=131) (sz:=1) (r:=fun i=>[.ref (gN.pl i) 0]) h.p fun i hi=>⟨?_,trivial⟩,Fz.rows (e:=55) (sz:=4) (r:=fun i=>(S.tk i).c) h.t fun i _=>iG.b5 rfl,Fz.rows (e:=149) (sz:=2) (r:=aU S.g) h.f fun i _=>iG.b5 rfl,Fz.rows (e:=40) (sz:=13) (r:=bS) h.a fun i _=>iG.b5 rfl,trivial⟩;refine Fz.refs (t:=134) (cs:=(S.pl i).c++[V.own (gN.mp i)]) (h.pl i hi) (iG.append (iG.b5 (l:=(S.pl i).c) rfl) ⟨?_,trivial⟩);exact .mp _ _ false (aO (S.pl i).fl) _ (h.mp i hi) fun k hk=>by
  cases k with
  |s b=>cases hk
  |i n=>exact⟨e8 _ _,fun u hu=> .inr (by rw [cP]at hu;split at hu <;> simp at hu;exact hu.symm)⟩
open Classical in
theorem Ft{P:Program}{N:Nat}{C:Cx P N}{Q:Exit->S->Prop}{s:S}{ι:Type}{c:Code}(hd:C.dfs=pz)(I:ι->S)(ok:ι->Prop)(μ:ι->Nat)(x0:ι)(hx:ok x0)(h0:Bp s (I x0))(round:∀x,ok x->AW C c (dR (fun s'=>∃y,ok y/\Bp s' (I y)/\μ y< μ x) Q) (I x)):AW C (.loop c) Q s:=by
 intro a w g;have pr:∃q:Go.Act->World->Nat->Prop,q=fun a' w' n=>∃x,ok x/\μ x=n/\Gm C (I x) a' w'/\aZ C.W w w':=⟨_,rfl⟩;obtain⟨q,hq⟩:=pr;have hqi:∀a' w' n,q a' w' n<->∃x,ok x/\μ x=n/\Gm C (I x) a' w'/\aZ C.W w w':=fun a' w' n=>by rw [hq]
 refine wpIn_loop (fun a' w'=>∃n,q a' w' n) (fun a' w'=>if h:∃n,q a' w' n then(least _ h).choose else 0) ⟨μ x0,(hqi _ _ _).2 ⟨x0,hx,rfl,h0 _ _ C a w hd g,aZ.refl _ _⟩⟩ ?_;rintro a' w' hex;have hl:=(least _ hex).choose_spec;obtain⟨x,hok,hμ,g',t'⟩:=(hqi _ _ _).1 hl.1;refine wpIn_mono (round x hok a' w' g') ?_;rintro e a'' w'' ⟨s'',r,g'',t''⟩;cases e with
 |normal=>obtain⟨y,hy,hle,hlt⟩:=r;have hqy:q a'' w'' (μ y):=(hqi _ _ _).2 ⟨y,hy,rfl,hle _ _ C _ _ hd g'',t'.trans t''⟩;refine⟨⟨μ y,hqy⟩,?_⟩;rw [dif_pos ⟨μ y,hqy⟩,dif_pos hex];have h1:=(least _ ⟨μ y,hqy⟩).choose_spec.2 (μ y) hqy;omega
 |_=>exact⟨s'',r,g'',t'.trans t''⟩
theorem M1{tm:Nat->V}{σ:Nat->Option Ob}{nx s p t f a:Nat}{r:Rc}{tl:List (Nat×V)}(hne:(decide ([s,p,t,f,a].Nodup))=true)(h0:σ s=some (.box 123 (cX r (.own p) (.own t) (.own f) (.own a))))(h1:∃g,σ p=some (.row 131 1 0 g))(h2:∃g,σ t=some (.row 55 4 0 g))(h3:∃g,σ f=some (.row 149 2 0 g))(h4:∃g,σ a=some (.row 40 13 0 g)) (htm:∀h:Nat->Nat,h 500=s->lX (fun p=>tm p.1=p.2.bx h) tl):Bp ⟨tm,σ,nx⟩ ⟨gJ tl,gH (bV r) fun _=>none,1⟩:=by
 have hne:=of_decide_eq_true hne;simp at hne;obtain⟨g1,h1⟩:=h1;obtain⟨g2,h2⟩:=h2;obtain⟨g3,h3⟩:=h3;obtain⟨g4,h4⟩:=h4;obtain⟨h',hh⟩:∃h':Nat->Nat,∀id,h' id=if id=500 then s else if id=501 then p else if id=502 then t else if id=503 then f else if id=504 then a else nx*100000+id:=⟨_,fun _=>rfl⟩
 have hc:∀id o,gH (bV r) (fun _=>none) id=some o->id=500\/id=501\/id=502\/id=503\/id=504:=by
  intro id o ho;have hz:¬(id- 505) / 2< (bV r).n:=Nat.not_lt_zero _;unfold gH at ho;simp only [if_neg hz]at ho;repeat' split at ho
  all_goals first |omega |cases ho
 have q0:h' 500=s:=by rw [hh];rfl
 have q1:h' 501=p:=by rw [hh];rfl
 have q2:h' 502=t:=by rw [hh];rfl
 have q3:h' 503=f:=by rw [hh];rfl
 have q4:h' 504=a:=by rw [hh];rfl
 refine B0 h' (fun id o ho=> ?_) (fun i j hi hj he=> ?_) (fun id hid=> ?_) (htm h' q0)
 ·have hA:=iL (S:=bV r) (Nat.zero_le _) fun _=>none;rcases hc id o ho with rfl |rfl |rfl |rfl |rfl
  ·have:=hA.s;rw [ho]at this;injection this with this;subst this
   refine⟨_,by rw [q0];exact h0,?_⟩;show eF (.box _ _) (.box _ (V.aV h' (cX r (.own 501) (.own 502) (.own 503) (.own 504))));rw [show V.aV h' (cX r (.own 501) (.own 502) (.own 503) (.own 504))=cX r (.own (h' 501)) (.own (h' 502)) (.own (h' 503)) (.own (h' 504))from rfl,q1,q2,q3,q4];exact⟨rfl,rfl⟩
  ·have:=hA.p;rw [show gN.p=501 from rfl,ho]at this;injection this with this;subst this
   refine⟨_,by rw [q1];exact h1,?_⟩;exact⟨rfl,rfl,rfl,fun i hi=>absurd hi (Nat.not_lt_zero _)⟩
  ·have:=hA.t;rw [show gN.t=502 from rfl,ho]at this;injection this with this;subst this
   refine⟨_,by rw [q2];exact h2,?_⟩;exact⟨rfl,rfl,rfl,fun i hi=>absurd hi (Nat.not_lt_zero _)⟩
  ·have:=hA.f;rw [show gN.f=503 from rfl,ho]at this;injection this with this;subst this
   refine⟨_,by rw [q3];exact h3,?_⟩;exact⟨rfl,rfl,rfl,fun i hi=>absurd hi (Nat.not_lt_zero _)⟩
  ·have:=hA.a;rw [show gN.a=504 from rfl,ho]at this;injection this with this;subst this
   refine⟨_,by rw [q4];exact h4,?_⟩;exact⟨rfl,rfl,rfl,fun i hi=>absurd hi (Nat.not_lt_zero _)⟩
 ·have e:∀i,gH (bV r) (fun _=>none) i≠none->i=500\/i=501\/i=502\/i=503\/i=504:=fun i hi=>by
   cases ho:gH (bV r) (fun _=>none) i with
   |none=>exact absurd ho hi
   |some o=>exact hc i o ho
  rcases e i hi with rfl |rfl |rfl |rfl |rfl <;> rcases e j hj with rfl |rfl |rfl |rfl |rfl <;> first |rfl | (simp only [q0,q1,q2,q3,q4]at he;omega)
 ·rw [hh,if_neg oM,if_neg oM,if_neg oM,if_neg oM,if_neg oM];omega
theorem CY{P:Program}{N:Nat}{C:Cx P N}{ops:Array Oper}{nx d:Nat}{o:Oper}{os:List Oper}{tm:Nat->V}{σ:Nat->Option Ob}{ks:List (List Nat×List Nat)}{K:(Nat->V)->(Nat->Option Ob)->List (List Nat×List Nat)->Prop}{S S':Sh}{v:V} (h:uJ P C.W C.LB o (ev tm) nx d S S' v) (hg:o.guard=none) (ho:o.dst=some d) (hF:eP S gN σ) (hk:∀δ ks',jx S S' nx δ->bB C ops nx os (bL tm d v) (bz σ δ) ks' K):bB C ops nx (o::os) tm σ ks K:=by obtain⟨pre,nw,δ,hA,hnw,hpre,hD⟩:=h;refine cC hg hA (hpre σ hF) (by rw [ho];exact hnw) ?_;rw [ho];exact hk δ _ hD
def fJ(l:List Act)(k:Nat):Act:=l.getD k ⟨0,0,0,0,0,0,0,0,0,0,0,0,0⟩
theorem yA{l:List Act}{k:Nat}(h:k< l.length):l.take (k+1)=l.take k++[fJ l k]:=by rw [List.take_add_one,List.getElem?_eq_getElem h,fJ,List.getD_eq_getElem?_getD,List.getElem?_eq_getElem h];rfl
abbrev qL(l:List Act):V:= .sl 13 l.length fun i=>(fJ l i).c
abbrev OI(S:Sh)(i:Nat):List V:=(S.pl i).c++[xz (S.pl i)]
def fD(S:Sh):V:= .sl 7 S.n fun i=>(S.pl i).c
theorem qI(S:Sh)(hn:S.n<=200):AC Tryz.prog 16 [JF S] (.own 0) [.row 51 7 S.n fun i=>(S.pl i).c]:=by
 refine ff ah b9 Tryz.func16 Tryz.ntmps16 fun C hC hF=> ?_;refine yS ah 2 1 [] ?_;refine sK fun K hK=>sK fun K hK=>wR 3 ?_;refine aY ah 1 [] ?_;refine eC (dL S.r (.sl 1 S.n fun i=>[.ptr ((S.pl i).c++[xz (S.pl i)])]) (.sl 4 S.m fun i=>(S.tk i).c) (.sl 2 S.q (aU S.g)) (.sl 13 S.l bS)) ?_;refine nK hK ?_;clear hK K;refine aB (t:=false) kR rfl ?_;refine ak ?_;refine aj (hK _ ?_);clear hK K;refine yS ah 4 1 [] ?_;refine sK fun K hK=>yS ah 5 6 [] ?_;refine aq ?_;refine gF (fZ 3 51 7 (fun i=>(S.pl i).c) kR rfl) ?_;refine b8 (ι:=Nat) (fun k=>[(3,.own 5),(11,.sl 1 S.n fun i=>[.ptr (OI S i)]),(12,.i S.n),(13,.i (k:Nat))]) (fun k=>[(5,.row 51 7 k fun i=>(S.pl i).c)]) (fun k=>k<=S.n) (fun k=>S.n- k) 0 (Nat.zero_le _) ?_ ?_;·refine aA (sl:=[(5,Ob.row 51 7 0 fun(i:Nat)=>Pl.c (Sh.pl S i))]) [(5,500003)] (.cons kR (.cons kR (.cons kR (.cons kR .nil)))) (.cons oS .nil) kR kR
 intro k hk;refine yS ah 2 1 [] ?_;refine sK fun K hK=> ?_;refine av (t:=decide ((↑k:Int)< (↑(Sh.n S):Int))) kR (fun c1=> ?_) (fun c1=> ?_)
 ·have hk1:k< S.n:=by simpa using c1
  refine ak ?_;refine aj (hK _ ?_);clear hK K;refine sK fun K hK=> ?_;refine aq ?_;refine yS ah 3 3 [(0,.c ((0:Int)<=(↑k:Int)/\(↑k:Int)< (↑(Sh.n S):Int)) oM)] ?_;refine wR 4 (aX ah 8 [(6,.r (PR.mk (some (23:Nat)) (some (k+1<=(1099511627776:Nat))) (V.own 300023) [((5:Nat),none),((300023:Nat),some (Ob.row 51 7 (k+1) (aC k (fun(i:Nat)=>Pl.c (Sh.pl S i)) fun(i:Nat)=>List.take (7:Nat) (List.drop (i*7) [V.i (↑(Pl.kind (Sh.pl S k)):Int),V.i (Pl.par (Sh.pl S k)),V.i (Pl.cut (Sh.pl S k)),V.i (Pl.area (Sh.pl S k)),V.i (Pl.aF (Sh.pl S k)),V.i (Pl.grown (Sh.pl S k)),V.b (Pl.ret (Sh.pl S k))]))))] false))] ⟨oM,tI⟩ (aa (bG (aj (hK _ ?_)))));clear hK K;refine wR 5 ?_;refine aY ah 2 [(0,.c (iR ((↑k:Int)+1)) oM)] ?_;refine aa (aj ?_);refine⟨k+1,by omega,?_,by omega⟩;refine aA (tl:=[(3,V.own 5),(11,V.sl 1 (Sh.n S) fun(i:Nat)=>[V.ptr (OI S i)]),(12,V.i (↑(Sh.n S):Int)),(13,V.i (↑(k+1):Int))]) (sl:=[(5,Ob.row 51 7 (k+1) fun(i:Nat)=>Pl.c (Sh.pl S i))]) [(5,300023)] (.cons kR (.cons kR (.cons kR (.cons kR .nil)))) (.cons ⟨Ob.row 51 7 (k+1) (aC k (fun(i:Nat)=>Pl.c (Sh.pl S i)) fun(i:Nat)=>List.take (7:Nat) (List.drop (i*7) [V.i (↑(Pl.kind (Sh.pl S k)):Int),V.i (Pl.par (Sh.pl S k)),V.i (Pl.cut (Sh.pl S k)),V.i (Pl.area (Sh.pl S k)),V.i (Pl.aF (Sh.pl S k)),V.i (Pl.grown (Sh.pl S k)),V.b (Pl.ret (Sh.pl S k))])),kR,.row kR ?_⟩ .nil) kR kR
  ·intro i hi;by_cases h:i< k;·simp only [aC,if_pos h];rfl
   ·have:i=k:=by omega
    subst this;simp only [aC,if_neg h,Nat.sub_self];rfl
 ·have hk1:k=S.n:=by simp at c1;omega
  subst hk1;refine aP ?_;refine bK ?_;refine bK ?_;refine bu ?_;refine aj ?_;clear hK K;refine hK _ ?_;clear hK K;refine yS ah 3 2 [] ?_;refine ax ?_;refine eJ [(0,5)] [(2,V.own 0)] (.inr rfl) (.cons kR .nil) (.cons oS .nil) kR kR kR kR
theorem CN(S:Sh)(hn:S.n<=200):AC Tryz.prog 16 [JF S] (fD S) []:= AC.iQ (e:=51) (sz:=7) (n:=S.n) (row:=fun i=>(S.pl i).c) (v:= .own 0) (qI S hn) rfl (fun _ _=>rfl) (fun _=>rfl) rfl rfl
theorem CM(S:Sh)(f:Int)(h:0<=f/\f< S.q)(hq:S.q<=1000):AC Tryz.prog 27 [JF S,.i f] (.tup [.i (S.g f.toNat).1,.i (S.g f.toNat).2,.i 0]) []:=by
 refine ff ah b9 Tryz.func27 Tryz.ntmps27 fun C hC hF=> ?_;refine yS ah 2 3 [] ?_;refine sK fun K hK=>sK fun K hK=>wR 3 ?_;refine aY ah 1 [] ?_;refine eC (dL S.r (.sl 1 S.n fun i=>[.ptr ((S.pl i).c++[xz (S.pl i)])]) (.sl 4 S.m fun i=>(S.tk i).c) (.sl 2 S.q (aU S.g)) (.sl 13 S.l bS)) ?_;refine nK hK ?_;clear hK K;refine aB (t:=false) kR rfl ?_;refine ak ?_;refine aj (hK _ ?_);clear hK K;refine sK fun K hK=>yS ah 4 11 [] ?_;refine av (t:=decide (f< 0) || decide ((↑(Sh.q S):Int)<=f)) kR (fun c1=> ?_) (fun c1=> ?_);·simp at c1;omega
 refine ak ?_;refine aj (hK _ ?_);clear hK K;refine sK fun K hK=>wD 5 ?_;refine aY ah 19 [(5,.c ((0:Int)<=f/\f< (↑(Sh.q S):Int)) oM),(7,.c ((0:Int)<=f/\f< (↑(Sh.q S):Int)) oM)] ?_;refine aa ⟨kR,(aj (hK _ ?_))⟩;clear hK K;refine ax ?_;refine rP (V.tup [V.i (Prod.fst (Sh.g S (Int.toNat f))),V.i (Prod.snd (Sh.g S (Int.toNat f))),V.i 0])
def tN(S:Sh):Prop:=∀i,i< S.n->(S.pl i).par< (i:Int)/\ -1<=(S.pl i).par
def dh(S:Sh):Prop:=∀i,i< S.n->((S.pl i).kind=0/\(S.pl i).par= -1)\/(0< (S.pl i).kind/\(S.pl i).kind<=3/\0<=(S.pl i).par/\(S.pl i).par< (i:Int)/\(S.pl (S.pl i).par.toNat).kind+1=(S.pl i).kind)
theorem dh.par{S:Sh}(h:dh S):tN S:=fun i hi=>by rcases h i hi with⟨_,h1⟩ | ⟨_,_,h1,h2,_⟩ <;> omega
theorem dh.of{S T:Sh}(h:dh S)(hn:T.n=S.n)(hk:∀i,i< S.n->(T.pl i).kind=(S.pl i).kind/\(T.pl i).par=(S.pl i).par):dh T:=fun i hi=>by
 rw [hn]at hi;obtain⟨e1,e2⟩:=hk i hi;rw [e1,e2];rcases h i hi with h1 | ⟨h1,h2,h3,h4,h5⟩;·exact .inl h1
 ·exact .inr ⟨h1,h2,h3,h4,by rw [(hk (S.pl i).par.toNat oM).1];exact h5⟩
theorem dh.app{S T:Sh}(h:dh S){p:Pl}(hn:T.n=S.n+1)(hk:∀i,i< S.n->(T.pl i).kind=(S.pl i).kind/\(T.pl i).par=(S.pl i).par)(hp:T.pl S.n=p) (hq:(p.kind=0/\p.par= -1)\/(0< p.kind/\p.kind<=3/\0<=p.par/\p.par< (S.n:Int)/\(S.pl p.par.toNat).kind+1=p.kind)):dh T:=fun i hi=>by
 by_cases q:i< S.n
 ·obtain⟨e1,e2⟩:=hk i q;rw [e1,e2];rcases h i q with h1 | ⟨h1,h2,h3,h4,h5⟩;·exact .inl h1
  ·exact .inr ⟨h1,h2,h3,h4,by rw [(hk (S.pl i).par.toNat oM).1];exact h5⟩
 ·have:i=S.n:=by omega
  subst this;rw [hp];rcases hq with h1 | ⟨h1,h2,h3,h4,h5⟩;·exact .inl h1
  ·exact .inr ⟨h1,h2,h3,h4,by rw [(hk p.par.toNat oM).1];exact h5⟩
theorem qA(f:Nat->Pl)(k:Nat)(p:Pl)(h1:p.kind=(f k).kind)(h2:p.par=(f k).par)(i:Nat):(bW f k p i).kind=(f i).kind/\(bW f k p i).par=(f i).par:=by
 unfold bW;split;·rename_i h;subst h;exact⟨h1,h2⟩
 ·exact⟨rfl,rfl⟩
theorem qk{f:Nat->Pl}{n i:Nat}{p:Pl}(h:i< n):dH f n p i=f i:=by unfold dH;rw [if_pos h]
theorem n7{f:Nat->Pl}{n:Nat}{p:Pl}:dH f n p n=p:=by unfold dH;rw [if_neg (Nat.lt_irrefl n)]
theorem CF{S:Sh}(h:S.ok)(hk:dh S)(a:Act):dh (bO S a).1:=by
 refine iE (fun x=>dh x.1) (fun _ _=>hk) (fun _ _=> ?_) (fun _ _ _=>hk.of rfl fun _ _=>⟨rfl,rfl⟩) (fun _ _ c1 c2 c3 c4=> ?_) (fun _ _ _ _=> ?_) (fun _ _ _ _ _ _=> ?_) (fun _ _ _ _=> ?_);·exact hk.app (p:=ov a) rfl (fun i hi=>by rw [show(Sh.pl _ i)=dH S.pl S.n (ov a) i from rfl,qk hi];exact⟨rfl,rfl⟩) n7 (.inl ⟨rfl,rfl⟩)
 ·obtain⟨z1,z2,z3⟩:=vr (h.pl a.plate.toNat oM) c3;refine hk.app (p:=(S.pl a.plate.toNat).over a.plate (dc (S.pl a.plate.toNat) (S.tk a.bath.toNat) a)) rfl (fun i hi=> ?_) n7 (.inr ⟨?_,?_,c1.1,c1.2,rfl⟩);·rw [show(Sh.pl _ i)=dH (bW S.pl a.plate.toNat (S.pl a.plate.toNat).under) S.n _ i from rfl,qk hi];exact qA S.pl a.plate.toNat (S.pl a.plate.toNat).under rfl rfl i
  ·show 0< (S.pl a.plate.toNat).kind+1;omega
  ·show(S.pl a.plate.toNat).kind+1<=3;omega
 ·exact hk.of rfl fun i _=>qA S.pl a.plate.toNat ((S.pl a.plate.toNat).j9 S.q) rfl rfl i
 ·exact hk.of rfl fun i _=>qA S.pl a.plate.toNat ((S.pl a.plate.toNat).vf a.flaw) rfl rfl i
 ·exact hk.of rfl fun i _=>qA S.pl a.plate.toNat {S.pl a.plate.toNat with ret:=true} rfl rfl i
theorem B9(r:Rc):dh (bV r):=fun i hi=>absurd hi (Nat.not_lt_zero _)
theorem Kt{S:Sh}(h:S.ok)(hk:dh S):∀l,dh (cD S l):=by
 intro l;induction l generalizing S with
 |nil=>exact hk
 |cons a l ih=>exact ih (qD h a) (CF h hk a)
end Go.Proofs.YtjmbpjlojjgggaaGreatDoor
