/-
  Several texts in one: Plating shops of many plates: the objects behind an act. Conditions: told in each theorem. .. TopStruck in plain Lean: a lacquer for each groove, and its father. Conditions: told in each theorem.
-/
import Derived.Test.YtjmbpjlojjgggaaGreatDoorX07
import Derived.Test.YtjmbpjlojjgggaaGreatDoorAbs42
import Derived.Test.YtjmbpjlojjgggaaGreatDoorX00
import Derived.Test.YtjmbpjlojjgggaaGreatDoorX02
namespace Go.Proofs.YtjmbpjlojjgggaaGreatDoor
open Go.Ab Go.RowKit Go.Dw Go.Shelf
def DoneAt(S S':Sh)(nx:Nat)(δ:List (Nat×Option Ob)):Prop:=∀σ,FamAt S nm0 σ→∃(N:Nm) (h:Nat→Nat),FamAt S' N (upds σ δ)∧NmOk S'.n N h∧(∀id,500≤id→id< 1000→h id=id∨(nx*100000≤h id∧h id< (nx+1)*100000))∧
 ∀id,(id< 500∨1000≤id)→¬(nx*100000≤id∧id< (nx+1)*100000)→upds σ δ id=σ id
theorem nm0_ok{n:Nat}:NmOk n nm0 id:=⟨fun _ _ _ _ _ _ h=>h,rfl,rfl,rfl,rfl,rfl,fun _ _=>rfl,fun _ _=>rfl⟩
theorem done_same{S:Sh}{nx:Nat}{δ:List (Nat×Option Ob)}(h:∀σ,FamAt S nm0 σ→∀p∈δ,σ p.1=p.2):DoneAt S S nx δ:=fun σ hF=>by
 rw [upds_same δ σ (h σ hF)]
 exact⟨nm0,id,hF,nm0_ok,fun id _ _=> .inl rfl,fun _ _ _=>rfl⟩
theorem done_add{S S':Sh}{nx c0 c1 c2 c3 d k:Nat}(hn:S.n≤200)(hd:d< 1000)(hnx:1≤nx)(h0:c0=nx*100000+d)(h1:c1=nx*100000+1000+d)(h2:c2=nx*100000+2000+d)(h3:c3=nx*100000+3000+d)
  (er:S'.r=S.r) (en:S'.n=S.n+1) (em:S'.m=S.m) (eq:S'.q=S.q) (eg:S'.g=S.g) (hk:k< S.n) (ep:∀i,i< S.n→i≠k→S'.pl i=S.pl i) :
  DoneAt S S' nx [(500,some (.box 123 (shC S.r (.own c0) (.own 502) (.own 503) (.own c3)))),(501,none),(502,some (tankO S')),(503,some (flawO S)),(504,none),(505+2*k,some (.box 134 ((S'.pl k).c++[.own (506+2*k)]))),(506+2*k,some (mapO S' k)),
   (c0,some (.row 131 1 (S.n+1) fun i=>[.ref (if i< S.n then 505+2*i else c1) 0])),(c1,some (.box 134 ((S'.pl S.n).c++[.own c2]))),(c2,some (mapO S' S.n)),(c3,some (actO S'))]:=by
 intro σ hF
 refine⟨⟨c0,502,503,c3,fun i=>if i< S.n then 505+2*i else c1,fun i=>if i< S.n then 506+2*i else c2⟩,fun id=>if id=501 then c0 else if id=504 then c3 else if id=505+2*S.n then c1 else if id=506+2*S.n then c2 else id,⟨?_,?_,?_,?_,?_,?_,?_⟩,⟨?_,?_,?_,?_,?_,?_,?_,?_⟩,?_,?_⟩
 all_goals try simp only [upds]
 ·
  rw [upd_ne _ _ oM,upd_ne _ _ oM,upd_ne _ _ oM,upd_ne _ _ oM,upd_ne _ _ oM,upd_ne _ _ oM,upd_ne _ _ oM,upd_ne _ _ oM,upd_ne _ _ oM,upd_ne _ _ oM,upd_same]
  rw [shopO,er]
 ·
  rw [upd_ne _ _ oM,upd_ne _ _ oM,upd_ne _ _ oM,upd_same,rowO,en]
 ·
  rw [upd_ne _ _ oM,upd_ne _ _ oM,upd_ne _ _ oM,upd_ne _ _ oM,upd_ne _ _ oM,upd_ne _ _ oM,upd_ne _ _ oM,upd_ne _ _ oM,upd_same]
 ·
  rw [upd_ne _ _ oM,upd_ne _ _ oM,upd_ne _ _ oM,upd_ne _ _ oM,upd_ne _ _ oM,upd_ne _ _ oM,upd_ne _ _ oM,upd_same,flawO,flawO,eq,eg]
 ·
  rw [upd_same]
 ·
  intro i hi
  rw [en]at hi
  by_cases hin:i< S.n
  ·
   simp only [plO,if_pos hin]
   by_cases hik:i=k
   ·
    subst hik
    rw [upd_ne _ _ oM,upd_ne _ _ oM,upd_ne _ _ oM,upd_ne _ _ oM,upd_ne _ _ oM,upd_same]
   ·
    rw [upd_ne _ _ oM,upd_ne _ _ oM,upd_ne _ _ oM,upd_ne _ _ oM,upd_ne _ _ oM,upd_ne _ _ oM,upd_ne _ _ oM,upd_ne _ _ oM,upd_ne _ _ oM,upd_ne _ _ oM,upd_ne _ _ oM,ep i hin hik]
    exact hF.pl i hin
  ·
   have hin':i=S.n:=by omega
   subst hin'
   simp only [plO,if_neg hin]
   rw [upd_ne _ _ oM,upd_ne _ _ oM,upd_same]
 ·
  intro i hi
  rw [en]at hi
  by_cases hin:i< S.n
  ·
   simp only [if_pos hin]
   by_cases hik:i=k
   ·
    subst hik
    rw [upd_ne _ _ oM,upd_ne _ _ oM,upd_ne _ _ oM,upd_ne _ _ oM,upd_same]
   ·
    rw [upd_ne _ _ oM,upd_ne _ _ oM,upd_ne _ _ oM,upd_ne _ _ oM,upd_ne _ _ oM,upd_ne _ _ oM,upd_ne _ _ oM,upd_ne _ _ oM,upd_ne _ _ oM,upd_ne _ _ oM,upd_ne _ _ oM,mapO,ep i hin hik]
    exact hF.mp i hin
  ·
   have hin':i=S.n:=by omega
   subst hin'
   simp only [if_neg hin]
   rw [upd_ne _ _ oM,upd_same]
 ·
  intro i j hi hi2 hj hj2 he
  rw [en]at hi2 hj2
  split at he <;> split at he <;> (try omega) <;> (repeat' split at he) <;> omega
 ·
  rw [if_neg (by decide),if_neg (by decide),if_neg oM,if_neg oM]
 ·
  rfl
 ·
  rw [if_neg (by decide),if_neg (by decide),if_neg oM,if_neg oM]
 ·
  rw [if_neg (by decide),if_neg (by decide),if_neg oM,if_neg oM]
 ·
  rfl
 ·
  intro i hi
  rw [en]at hi
  by_cases hin:i< S.n
  ·
   rw [if_neg oM,if_neg oM,if_neg oM,if_neg oM,if_pos hin]
  ·
   rw [if_neg oM,if_neg oM,if_pos oM,if_neg hin]
 ·
  intro i hi
  rw [en]at hi
  by_cases hin:i< S.n
  ·
   rw [if_neg oM,if_neg oM,if_neg oM,if_neg oM,if_pos hin]
  ·
   rw [if_neg oM,if_neg oM,if_neg oM,if_pos oM,if_neg hin]
 ·
  intro id _ _
  repeat' split
  all_goals omega
 ·
  intro id hid hx
  rw [upd_ne _ _ oM,upd_ne _ _ oM,upd_ne _ _ oM,upd_ne _ _ oM,upd_ne _ _ oM,upd_ne _ _ oM,upd_ne _ _ oM,upd_ne _ _ oM,upd_ne _ _ oM,upd_ne _ _ oM,upd_ne _ _ oM]
theorem done_flaw{S S':Sh}{nx c0 c1 d k:Nat}(hn:S.n≤200)(hd:d< 1000)(hnx:1≤nx)(h0:c0=nx*100000+d)(h1:c1=nx*100000+1000+d)
  (er:S'.r=S.r) (en:S'.n=S.n) (em:S'.m=S.m) (et:S'.tk=S.tk) (hk:k< S.n) (ep:∀i,i< S.n→i≠k→S'.pl i=S.pl i) :
  DoneAt S S' nx [(500,some (.box 123 (shC S.r (.own 501) (.own 502) (.own c0) (.own c1)))),(501,some (.row 131 1 S.n fun i=>[.ref (505+2*i) 0])),(502,some (tankO S)),(503,none),(504,none),(505+2*k,some (.box 134 ((S'.pl k).c++[.own (506+2*k)]))),(506+2*k,some (mapO S' k)),(c0,some (flawO S')),(c1,some (actO S'))]:=by
 intro σ hF
 refine⟨⟨501,502,c0,c1,fun i=>505+2*i,fun i=>506+2*i⟩,fun id=>if id=503 then c0 else if id=504 then c1 else id,⟨?_,?_,?_,?_,?_,?_,?_⟩,⟨?_,?_,?_,?_,?_,?_,?_,?_⟩,?_,?_⟩
 all_goals try simp only [upds]
 ·
  rw [upd_ne _ _ oM,upd_ne _ _ oM,upd_ne _ _ oM,upd_ne _ _ oM,upd_ne _ _ oM,upd_ne _ _ oM,upd_ne _ _ oM,upd_ne _ _ oM,upd_same]
  rw [shopO,er]
 ·
  rw [upd_ne _ _ oM,upd_ne _ _ oM,upd_ne _ _ oM,upd_ne _ _ oM,upd_ne _ _ oM,upd_ne _ _ oM,upd_ne _ _ oM,upd_same,rowO,en]
 ·
  rw [upd_ne _ _ oM,upd_ne _ _ oM,upd_ne _ _ oM,upd_ne _ _ oM,upd_ne _ _ oM,upd_ne _ _ oM,upd_same,tankO,tankO,em,et]
 ·
  rw [upd_ne _ _ oM,upd_same]
 ·
  rw [upd_same]
 ·
  intro i hi
  rw [en]at hi
  simp only [plO]
  by_cases hik:i=k
  ·
   subst hik
   rw [upd_ne _ _ oM,upd_ne _ _ oM,upd_ne _ _ oM,upd_same]
  ·
   rw [upd_ne _ _ oM,upd_ne _ _ oM,upd_ne _ _ oM,upd_ne _ _ oM,upd_ne _ _ oM,upd_ne _ _ oM,upd_ne _ _ oM,upd_ne _ _ oM,upd_ne _ _ oM,ep i hi hik]
   exact hF.pl i hi
 ·
  intro i hi
  rw [en]at hi
  by_cases hik:i=k
  ·
   subst hik
   rw [upd_ne _ _ oM,upd_ne _ _ oM,upd_same]
  ·
   rw [upd_ne _ _ oM,upd_ne _ _ oM,upd_ne _ _ oM,upd_ne _ _ oM,upd_ne _ _ oM,upd_ne _ _ oM,upd_ne _ _ oM,upd_ne _ _ oM,upd_ne _ _ oM,mapO,ep i hi hik]
   exact hF.mp i hi
 ·
  intro i j hi hi2 hj hj2 he
  rw [en]at hi2 hj2
  (repeat' split at he) <;> omega
 ·
  rw [if_neg (by decide),if_neg (by decide)]
 ·
  rw [if_neg (by decide),if_neg (by decide)]
 ·
  rw [if_neg (by decide),if_neg (by decide)]
 ·
  rfl
 ·
  rfl
 ·
  intro i hi
  rw [en]at hi
  rw [if_neg oM,if_neg oM]
 ·
  intro i hi
  rw [en]at hi
  rw [if_neg oM,if_neg oM]
 ·
  intro id _ _
  repeat' split
  all_goals omega
 ·
  intro id hid hx
  rw [upd_ne _ _ oM,upd_ne _ _ oM,upd_ne _ _ oM,upd_ne _ _ oM,upd_ne _ _ oM,upd_ne _ _ oM,upd_ne _ _ oM,upd_ne _ _ oM,upd_ne _ _ oM]
theorem done_act{S S':Sh}{nx c0 d k:Nat}(hn:S.n≤200)(hd:d< 1000)(hnx:1≤nx)(h0:c0=nx*100000+d)
  (er:S'.r=S.r) (en:S'.n=S.n) (em:S'.m=S.m) (et:S'.tk=S.tk) (eq:S'.q=S.q) (eg:S'.g=S.g) (hk:k< S.n) (ep:∀i,i< S.n→i≠k→S'.pl i=S.pl i) :
  DoneAt S S' nx [(500,some (.box 123 (shC S.r (.own 501) (.own 502) (.own 503) (.own c0)))),(501,some (.row 131 1 S.n fun i=>[.ref (505+2*i) 0])),(502,some (tankO S)),(503,some (flawO S)),(504,none),(505+2*k,some (.box 134 ((S'.pl k).c++[.own (506+2*k)]))),(506+2*k,some (mapO S' k)),(c0,some (actO S'))]:=by
 intro σ hF
 refine⟨⟨501,502,503,c0,fun i=>505+2*i,fun i=>506+2*i⟩,fun id=>if id=504 then c0 else id,⟨?_,?_,?_,?_,?_,?_,?_⟩,⟨?_,?_,?_,?_,?_,?_,?_,?_⟩,?_,?_⟩
 all_goals try simp only [upds]
 ·
  rw [upd_ne _ _ oM,upd_ne _ _ oM,upd_ne _ _ oM,upd_ne _ _ oM,upd_ne _ _ oM,upd_ne _ _ oM,upd_ne _ _ oM,upd_same]
  rw [shopO,er]
 ·
  rw [upd_ne _ _ oM,upd_ne _ _ oM,upd_ne _ _ oM,upd_ne _ _ oM,upd_ne _ _ oM,upd_ne _ _ oM,upd_same,rowO,en]
 ·
  rw [upd_ne _ _ oM,upd_ne _ _ oM,upd_ne _ _ oM,upd_ne _ _ oM,upd_ne _ _ oM,upd_same,tankO,tankO,em,et]
 ·
  rw [upd_ne _ _ oM,upd_ne _ _ oM,upd_ne _ _ oM,upd_ne _ _ oM,upd_same,flawO,flawO,eq,eg]
 ·
  rw [upd_same]
 ·
  intro i hi
  rw [en]at hi
  simp only [plO]
  by_cases hik:i=k
  ·
   subst hik
   rw [upd_ne _ _ oM,upd_ne _ _ oM,upd_same]
  ·
   rw [upd_ne _ _ oM,upd_ne _ _ oM,upd_ne _ _ oM,upd_ne _ _ oM,upd_ne _ _ oM,upd_ne _ _ oM,upd_ne _ _ oM,upd_ne _ _ oM,ep i hi hik]
   exact hF.pl i hi
 ·
  intro i hi
  rw [en]at hi
  by_cases hik:i=k
  ·
   subst hik
   rw [upd_ne _ _ oM,upd_same]
  ·
   rw [upd_ne _ _ oM,upd_ne _ _ oM,upd_ne _ _ oM,upd_ne _ _ oM,upd_ne _ _ oM,upd_ne _ _ oM,upd_ne _ _ oM,upd_ne _ _ oM,mapO,ep i hi hik]
   exact hF.mp i hi
 ·
  intro i j hi hi2 hj hj2 he
  rw [en]at hi2 hj2
  (repeat' split at he) <;> omega
 ·
  rw [if_neg (by decide)]
 ·
  rw [if_neg (by decide)]
 ·
  rw [if_neg (by decide)]
 ·
  rw [if_neg (by decide)]
 ·
  rfl
 ·
  intro i hi
  rw [en]at hi
  rw [if_neg oM]
 ·
  intro i hi
  rw [en]at hi
  rw [if_neg oM]
 ·
  intro id _ _
  repeat' split
  all_goals omega
 ·
  intro id hid hx
  rw [upd_ne _ _ oM,upd_ne _ _ oM,upd_ne _ _ oM,upd_ne _ _ oM,upd_ne _ _ oM,upd_ne _ _ oM,upd_ne _ _ oM,upd_ne _ _ oM]
theorem done_add5{S S':Sh}{nx c0 c1 c2 c3 d:Nat}(hn:S.n≤200)(hd:d< 1000)(hnx:1≤nx)(h0:c0=nx*100000+d)(h1:c1=nx*100000+1000+d)(h2:c2=nx*100000+2000+d)(h3:c3=nx*100000+3000+d)
  (er:S'.r=S.r) (en:S'.n=S.n+1) (em:S'.m=S.m) (eq:S'.q=S.q) (eg:S'.g=S.g) (ep:∀i,i< S.n→S'.pl i=S.pl i) :
  DoneAt S S' nx [(500,some (.box 123 (shC S.r (.own c0) (.own 502) (.own 503) (.own c3)))),(501,none),(502,some (tankO S')),(503,some (flawO S)),(504,none),
   (c0,some (.row 131 1 (S.n+1) fun i=>[.ref (if i< S.n then 505+2*i else c1) 0])),(c1,some (.box 134 ((S'.pl S.n).c++[.own c2]))),(c2,some (mapO S' S.n)),(c3,some (actO S'))]:=by
 intro σ hF
 refine⟨⟨c0,502,503,c3,fun i=>if i< S.n then 505+2*i else c1,fun i=>if i< S.n then 506+2*i else c2⟩,fun id=>if id=501 then c0 else if id=504 then c3 else if id=505+2*S.n then c1 else if id=506+2*S.n then c2 else id,⟨?_,?_,?_,?_,?_,?_,?_⟩,⟨?_,?_,?_,?_,?_,?_,?_,?_⟩,?_,?_⟩
 all_goals try simp only [upds]
 ·
  rw [upd_ne _ _ oM,upd_ne _ _ oM,upd_ne _ _ oM,upd_ne _ _ oM,upd_ne _ _ oM,upd_ne _ _ oM,upd_ne _ _ oM,upd_ne _ _ oM,upd_same]
  rw [shopO,er]
 ·
  rw [upd_ne _ _ oM,upd_ne _ _ oM,upd_ne _ _ oM,upd_same,rowO,en]
 ·
  rw [upd_ne _ _ oM,upd_ne _ _ oM,upd_ne _ _ oM,upd_ne _ _ oM,upd_ne _ _ oM,upd_ne _ _ oM,upd_same]
 ·
  rw [upd_ne _ _ oM,upd_ne _ _ oM,upd_ne _ _ oM,upd_ne _ _ oM,upd_ne _ _ oM,upd_same,flawO,flawO,eq,eg]
 ·
  rw [upd_same]
 ·
  intro i hi
  rw [en]at hi
  by_cases hin:i< S.n
  ·
   simp only [plO,if_pos hin]
   rw [upd_ne _ _ oM,upd_ne _ _ oM,upd_ne _ _ oM,upd_ne _ _ oM,upd_ne _ _ oM,upd_ne _ _ oM,upd_ne _ _ oM,upd_ne _ _ oM,upd_ne _ _ oM,ep i hin]
   exact hF.pl i hin
  ·
   have hin':i=S.n:=by omega
   subst hin'
   simp only [plO,if_neg hin]
   rw [upd_ne _ _ oM,upd_ne _ _ oM,upd_same]
 ·
  intro i hi
  rw [en]at hi
  by_cases hin:i< S.n
  ·
   simp only [if_pos hin]
   rw [upd_ne _ _ oM,upd_ne _ _ oM,upd_ne _ _ oM,upd_ne _ _ oM,upd_ne _ _ oM,upd_ne _ _ oM,upd_ne _ _ oM,upd_ne _ _ oM,upd_ne _ _ oM,mapO,ep i hin]
   exact hF.mp i hin
  ·
   have hin':i=S.n:=by omega
   subst hin'
   simp only [if_neg hin]
   rw [upd_ne _ _ oM,upd_same]
 ·
  intro i j hi hi2 hj hj2 he
  rw [en]at hi2 hj2
  split at he <;> split at he <;> (try omega) <;> (repeat' split at he) <;> omega
 ·
  rw [if_neg (by decide),if_neg (by decide),if_neg oM,if_neg oM]
 ·
  rfl
 ·
  rw [if_neg (by decide),if_neg (by decide),if_neg oM,if_neg oM]
 ·
  rw [if_neg (by decide),if_neg (by decide),if_neg oM,if_neg oM]
 ·
  rfl
 ·
  intro i hi
  rw [en]at hi
  by_cases hin:i< S.n
  ·
   rw [if_neg oM,if_neg oM,if_neg oM,if_neg oM,if_pos hin]
  ·
   rw [if_neg oM,if_neg oM,if_pos oM,if_neg hin]
 ·
  intro i hi
  rw [en]at hi
  by_cases hin:i< S.n
  ·
   rw [if_neg oM,if_neg oM,if_neg oM,if_neg oM,if_pos hin]
  ·
   rw [if_neg oM,if_neg oM,if_neg oM,if_pos oM,if_neg hin]
 ·
  intro id _ _
  repeat' split
  all_goals omega
 ·
  intro id hid hx
  rw [upd_ne _ _ oM,upd_ne _ _ oM,upd_ne _ _ oM,upd_ne _ _ oM,upd_ne _ _ oM,upd_ne _ _ oM,upd_ne _ _ oM,upd_ne _ _ oM,upd_ne _ _ oM]
theorem done_bath{S S':Sh}{nx c0 c1 d:Nat}(hn:S.n≤200)(hd:d< 1000)(hnx:1≤nx)(h0:c0=nx*100000+d)(h1:c1=nx*100000+1000+d)
  (er:S'.r=S.r) (en:S'.n=S.n) (eq:S'.q=S.q) (eg:S'.g=S.g) (ep:∀i,i< S.n→S'.pl i=S.pl i) :
  DoneAt S S' nx [(500,some (.box 123 (shC S.r (.own 501) (.own c0) (.own 503) (.own c1)))),(501,some (.row 131 1 S.n fun i=>[.ref (505+2*i) 0])),(502,none),(503,some (flawO S)),(504,none),(c0,some (tankO S')),(c1,some (actO S'))]:=by
 intro σ hF
 refine⟨⟨501,c0,503,c1,fun i=>505+2*i,fun i=>506+2*i⟩,fun id=>if id=502 then c0 else if id=504 then c1 else id,⟨?_,?_,?_,?_,?_,?_,?_⟩,⟨?_,?_,?_,?_,?_,?_,?_,?_⟩,?_,?_⟩
 all_goals try simp only [upds]
 ·
  rw [upd_ne _ _ oM,upd_ne _ _ oM,upd_ne _ _ oM,upd_ne _ _ oM,upd_ne _ _ oM,upd_ne _ _ oM,upd_same]
  rw [shopO,er]
 ·
  rw [upd_ne _ _ oM,upd_ne _ _ oM,upd_ne _ _ oM,upd_ne _ _ oM,upd_ne _ _ oM,upd_same,rowO,en]
 ·
  rw [upd_ne _ _ oM,upd_same]
 ·
  rw [upd_ne _ _ oM,upd_ne _ _ oM,upd_ne _ _ oM,upd_same,flawO,flawO,eq,eg]
 ·
  rw [upd_same]
 ·
  intro i hi
  rw [en]at hi
  simp only [plO]
  rw [upd_ne _ _ oM,upd_ne _ _ oM,upd_ne _ _ oM,upd_ne _ _ oM,upd_ne _ _ oM,upd_ne _ _ oM,upd_ne _ _ oM,ep i hi]
  exact hF.pl i hi
 ·
  intro i hi
  rw [en]at hi
  rw [upd_ne _ _ oM,upd_ne _ _ oM,upd_ne _ _ oM,upd_ne _ _ oM,upd_ne _ _ oM,upd_ne _ _ oM,upd_ne _ _ oM,mapO,ep i hi]
  exact hF.mp i hi
 ·
  intro i j hi hi2 hj hj2 he
  rw [en]at hi2 hj2
  (repeat' split at he) <;> omega
 ·
  rw [if_neg (by decide),if_neg (by decide)]
 ·
  rw [if_neg (by decide),if_neg (by decide)]
 ·
  rfl
 ·
  rw [if_neg (by decide),if_neg (by decide)]
 ·
  rfl
 ·
  intro i hi
  rw [en]at hi
  rw [if_neg oM,if_neg oM]
 ·
  intro i hi
  rw [en]at hi
  rw [if_neg oM,if_neg oM]
 ·
  intro id _ _
  repeat' split
  all_goals omega
 ·
  intro id hid hx
  rw [upd_ne _ _ oM,upd_ne _ _ oM,upd_ne _ _ oM,upd_ne _ _ oM,upd_ne _ _ oM,upd_ne _ _ oM,upd_ne _ _ oM]
end Go.Proofs.YtjmbpjlojjgggaaGreatDoor

namespace Go.Proofs.YtjmbpjlojjgggaaGreatDoor
open Go.Ab Go.RowKit Go.Dw Go.Shelf
section
variable {P:Program}{W LB:Nat→Prop}{d:Nat}{ty:TypeId}{pos:String}{af:Array Edge}{ev:Operand→V}{fo:Operand}{ar:Array Operand}{ats:Array TypeId}{nx:Nat}{S S':Sh}{a:Act}{f:FuncId}{v:V}
def Does(P:Program)(W LB:Nat→Prop)(o:Oper)(ev:Operand→V)(nx d:Nat)(S S':Sh)(v:V):Prop:=
 ∃pre nw δ,AStep P W LB o ev v pre nw δ∧nwOk nx (some d) nw∧(∀σ,FamAt S nm0 σ→∀p∈pre,σ p.1=some p.2)∧DoneAt S S' nx δ
theorem callG0:callG nx (some d) 0=nx*100000+d:=by simp [callG]
theorem callG1:callG nx (some d) 1=nx*100000+1000+d:=by simp [callG]
theorem callG2:callG nx (some d) 2=nx*100000+2000+d:=by simp [callG]
theorem callG3:callG nx (some d) 3=nx*100000+3000+d:=by simp [callG]
theorem nwOk_calls{n:Nat}(hd:d< 1000)(hn:n≤90):nwOk nx (some d) ((List.range n).map (callG nx (some d))):=by
 intro id hid
 obtain⟨j,hj,rfl⟩:=List.mem_map.1 hid
 have hj:j< n:=by simpa using hj
 refine⟨d,rfl,?_⟩
 show nx*100000≤callG nx (some d) j∧callG nx (some d) j< (nx+1)*100000∧callG nx (some d) j% 1000=d
 unfold callG
 simp only [Option.getD_some]
 omega
theorem pre5_at(hk:∀p∈((501,.row 131 1 S.n fun i=>[.ref (505+2*i) 0])::preA S:List (Nat×Ob)),True):∀σ,FamAt S nm0 σ→∀p∈((501,.row 131 1 S.n fun i=>[.ref (505+2*i) 0])::preA S:List (Nat×Ob)),σ p.1=some p.2:=by
 intro σ hF p hp
 simp at hp
 rcases hp with h |h |h |h |h <;> subst h
 ·
  exact hF.p
 ·
  exact hF.s
 ·
  exact hF.t
 ·
  exact hF.f
 ·
  exact hF.a
theorem pre7_at{k:Nat}(hk:k< S.n):∀σ,FamAt S nm0 σ→∀p∈((501,.row 131 1 S.n fun i=>[.ref (505+2*i) 0])::(preA S++[(505+2*k,plO S nm0 k),(506+2*k,mapO S k)]):List (Nat×Ob)),σ p.1=some p.2:=by
 intro σ hF p hp
 simp at hp
 rcases hp with h |h |h |h |h |h |h <;> subst h
 ·
  exact hF.p
 ·
  exact hF.s
 ·
  exact hF.t
 ·
  exact hF.f
 ·
  exact hF.a
 ·
  exact hF.pl k hk
 ·
  exact hF.mp k hk
theorem tells5(x:Nat→Value)(i:Nat):Tells (fun i=>505+2*i) x i (rx5 x i):= .c
theorem tells7(k:Nat)(x:Nat→Value)(i:Nat):Tells (fun i=>505+2*i) x i (rx7 k x i):= .alt (nm:=fun i=>505+2*i) k
theorem ne5:∀p∈preA S,p.1≠501:=by intro p hp;simp at hp;rcases hp with h |h |h |h <;> subst h <;> simp
theorem ne7{k:Nat}:∀p∈(preA S++[(505+2*k,plO S nm0 k),(506+2*k,mapO S k)]),p.1≠501:=by
 intro p hp;simp at hp;rcases hp with h |h |h |h |h |h <;> subst h <;> simp <;> omega
theorem does5E(hwl:∀b,W b→LB b)(hc:∀x,AM P f [.ref 500 0,a.v] (ins5 S.r S.n (rowC x) S.m S.tk S.q (flC S.g) S.l) v ((ins5 S.r S.n (rowC x) S.m S.tk S.q (flC S.g) S.l).map some) [])(hv:v.idf=true)
  (hf:ev fo= .fn (.func f) [] []) (hargs:ar.toList.map ev=[.ref 500 0,a.v]) (hd:d< 1000):Does P W LB ⟨some d,.call {callee:= .value fo,args:=ar,argTypes:=ats},ty,pos,af,none⟩ ev nx d S S v:=by
 refine⟨_,_,[(500,some (shopO S nm0)),(501,some (.row 131 1 S.n fun i=>[.ref (505+2*i) 0])),(502,some (tankO S)),(503,some (flawO S)),(504,some (actO S))],
  AStep.const (nm:=fun i=>505+2*i) (rx:=rx5) (δ:=fun x=>[(500,some (shopO S nm0)),(501,some (.row 131 1 S.n fun i=>[rx5 x i])),(502,some (tankO S)),(503,some (flawO S)),(504,some (actO S))])
   (fun x=>as5 hwl (hc x) hv hf hargs hd (by simp) rfl) ne5 (fun x i _=>tells5 x i) fun x=> .some _ (.refl _ _ _ _) (.some _ (.tells (fun i _=>tells5 x i) fun i _=> .ref (nm:=fun i=>505+2*i)) (.some _ (.refl _ _ _ _) (.some _ (.refl _ _ _ _) (.some _ (.refl _ _ _ _) .nil)))),
  nwOk_calls hd (by simp),pre5_at fun _ _=>trivial,done_same fun σ hF p hp=> ?_⟩
 simp at hp
 rcases hp with h |h |h |h |h <;> subst h
 ·
  exact hF.s
 ·
  exact hF.p
 ·
  exact hF.t
 ·
  exact hF.f
 ·
  exact hF.a
theorem does7E{k:Nat}(hk:k< S.n)(hwl:∀b,W b→LB b)(hc:∀x,AM P f [.ref 500 0,a.v] (ins7 S.r S.n k x S.m S.tk S.q (flC S.g) S.l (S.pl k)) v ((ins7 S.r S.n k x S.m S.tk S.q (flC S.g) S.l (S.pl k)).map some) [])(hv:v.idf=true)
  (hf:ev fo= .fn (.func f) [] []) (hargs:ar.toList.map ev=[.ref 500 0,a.v]) (hd:d< 1000):Does P W LB ⟨some d,.call {callee:= .value fo,args:=ar,argTypes:=ats},ty,pos,af,none⟩ ev nx d S S v:=by
 refine⟨_,_,[(500,some (shopO S nm0)),(501,some (.row 131 1 S.n fun i=>[.ref (505+2*i) 0])),(502,some (tankO S)),(503,some (flawO S)),(504,some (actO S)),(505+2*k,some (plO S nm0 k)),(506+2*k,some (mapO S k))],
  AStep.const (nm:=fun i=>505+2*i) (rx:=rx7 k) (δ:=fun x=>[(500,some (shopO S nm0)),(501,some (.row 131 1 S.n fun i=>[rx7 k x i])),(502,some (tankO S)),(503,some (flawO S)),(504,some (actO S)),(505+2*k,some (plO S nm0 k)),(506+2*k,some (mapO S k))])
   (fun x=>as7 hwl (hc x) hv hf hargs hd (by simp) rfl) ne7 (fun x i _=>tells7 k x i) fun x=> .some _ (.refl _ _ _ _) (.some _ (.tells (fun i _=>tells7 k x i) fun i _=> .ref (nm:=fun i=>505+2*i)) (.some _ (.refl _ _ _ _) (.some _ (.refl _ _ _ _) (.some _ (.refl _ _ _ _) (.some _ (.refl _ _ _ _) (.some _ (.refl _ _ _ _) .nil)))))),
  nwOk_calls hd (by simp),pre7_at hk,done_same fun σ hF p hp=> ?_⟩
 simp at hp
 rcases hp with h |h |h |h |h |h |h <;> subst h
 ·
  exact hF.s
 ·
  exact hF.p
 ·
  exact hF.t
 ·
  exact hF.f
 ·
  exact hF.a
 ·
  exact hF.pl k hk
 ·
  exact hF.mp k hk
set_option maxRecDepth 100000 in
theorem does_grow{k:Nat}(hk:k< S.n){p z':Pl}{tk':Nat→Tk4}(hwl:∀b,W b→LB b)(hc:∀x,AM P f [.ref 500 0,a.v] (ins7 S.r S.n k x S.m S.tk S.q (flC S.g) S.l (S.pl k)) v [some (.box 123 (shC S.r (.own 0) (.own 502) (.own 503) (.own 3))),none,some (.row 55 4 S.m (fun i=>(tk' i).c)),some (.row 149 2 S.q (flC S.g)),none,some (.box 134 (z'.c++[V.own 506])),some (.mp (false,z'.cnt) (setF z'.fl))] [.row 131 1 (S.n+1) (rowY 505 k S.n 1 x),.box 134 (p.c++[V.own 2]),.mp (false,p.cnt) (setF p.fl),(.row 40 13 (S.l+1) anyR)])(hv:v.idf=true)
  (hf:ev fo= .fn (.func f) [] []) (hargs:ar.toList.map ev=[.ref 500 0,a.v]) (hd:d< 1000) (hnx:1≤nx) (hn:S.n≤200):Does P W LB ⟨some d,.call {callee:= .value fo,args:=ar,argTypes:=ats},ty,pos,af,none⟩ ev nx d S {S with n:=S.n+1,pl:=appP (setP S.pl k z') S.n p,tk:=tk',l:=S.l+1} v:=by
 have hD:=done_add (S:=S) (S':={S with n:=S.n+1,pl:=appP (setP S.pl k z') S.n p,tk:=tk',l:=S.l+1}) (nx:=nx) (d:=d) (k:=k) hn hd hnx callG0 callG1 callG2 callG3 rfl rfl rfl rfl rfl hk (fun i hi hik=>by show appP _ _ _ i=_;rw [appP,if_pos hi,setP,if_neg hik])
 have e1:appP (setP S.pl k z') S.n p k=z':=by rw [appP,if_pos hk,setP,if_pos rfl]
 have e2:appP (setP S.pl k z') S.n p S.n=p:=by rw [appP,if_neg (Nat.lt_irrefl _)]
 simp only [mapO,e1,e2]at hD
 have eδ:∀x:Nat→Value,outD (nameG nx (some d) (ns7 k)) (ns7 k) ([some (.box 123 (shC S.r (.own 0) (.own 502) (.own 503) (.own 3))),none,some (.row 55 4 S.m (fun i=>(tk' i).c)),some (.row 149 2 S.q (flC S.g)),none,some (.box 134 (z'.c++[V.own 506])),some (.mp (false,z'.cnt) (setF z'.fl))]:List (Option Ob))++callD (nameG nx (some d) (ns7 k)) 0 ([.row 131 1 (S.n+1) (rowY 505 k S.n 1 x),.box 134 (p.c++[V.own 2]),.mp (false,p.cnt) (setF p.fl),(.row 40 13 (S.l+1) anyR)]:List Ob)=[(500,some (.box 123 (shC S.r (.own (callG nx (some d) 0)) (.own 502) (.own 503) (.own (callG nx (some d) 3))))),(501,none),(502,some (.row 55 4 S.m (fun i=>(tk' i).c))),(503,some (.row 149 2 S.q (flC S.g))),(504,none),(505+2*k,some (.box 134 (z'.c++[V.own (506+2*k)]))),(506+2*k,some (.mp (false,z'.cnt) (setF z'.fl))),((callG nx (some d) 0),some (.row 131 1 (S.n+1) fun i=>[.alt (decide (i< S.n)) (rx7 k x i) (.ref (callG nx (some d) 1) 0)])),((callG nx (some d) 1),some (.box 134 (p.c++[V.own (callG nx (some d) 2)]))),((callG nx (some d) 2),some (.mp (false,p.cnt) (setF p.fl))),((callG nx (some d) 3),some (.row 40 13 (S.l+1) anyR))]:=fun x=>by kernel_rfl
 refine⟨_,_,[(500,some (.box 123 (shC S.r (.own (callG nx (some d) 0)) (.own 502) (.own 503) (.own (callG nx (some d) 3))))),(501,none),(502,some (.row 55 4 S.m (fun i=>(tk' i).c))),(503,some (.row 149 2 S.q (flC S.g))),(504,none),(505+2*k,some (.box 134 (z'.c++[V.own (506+2*k)]))),(506+2*k,some (.mp (false,z'.cnt) (setF z'.fl))),((callG nx (some d) 0),some (.row 131 1 (S.n+1) fun i=>[.ref (if i< S.n then 505+2*i else(callG nx (some d) 1)) 0])),((callG nx (some d) 1),some (.box 134 (p.c++[V.own (callG nx (some d) 2)]))),((callG nx (some d) 2),some (.mp (false,p.cnt) (setF p.fl))),((callG nx (some d) 3),some (.row 40 13 (S.l+1) anyR))],
  AStep.const (nm:=fun i=>505+2*i) (rx:=rx7 k) (δ:=fun x=>[(500,some (.box 123 (shC S.r (.own (callG nx (some d) 0)) (.own 502) (.own 503) (.own (callG nx (some d) 3))))),(501,none),(502,some (.row 55 4 S.m (fun i=>(tk' i).c))),(503,some (.row 149 2 S.q (flC S.g))),(504,none),(505+2*k,some (.box 134 (z'.c++[V.own (506+2*k)]))),(506+2*k,some (.mp (false,z'.cnt) (setF z'.fl))),((callG nx (some d) 0),some (.row 131 1 (S.n+1) fun i=>[.alt (decide (i< S.n)) (rx7 k x i) (.ref (callG nx (some d) 1) 0)])),((callG nx (some d) 1),some (.box 134 (p.c++[V.own (callG nx (some d) 2)]))),((callG nx (some d) 2),some (.mp (false,p.cnt) (setF p.fl))),((callG nx (some d) 3),some (.row 40 13 (S.l+1) anyR))])
   (fun x=>by rw [←eδ x];exact as7 hwl (hc x) hv hf hargs hd (by simp) rfl) ne7 (fun x i _=>tells7 k x i) fun x=>(.some _ (.refl _ _ _ _) (.none _ (.some _ (.refl _ _ _ _) (.some _ (.refl _ _ _ _) (.none _ (.some _ (.refl _ _ _ _) (.some _ (.refl _ _ _ _) (.some _ (.tells1 (nm:=fun i=>505+2*i) (c:=rx7 k x) fun i _=>tells7 k x i) (.some _ (.refl _ _ _ _) (.some _ (.refl _ _ _ _) (.some _ (.refl _ _ _ _) .nil))))))))))),
  nwOk_calls hd (by simp),pre7_at hk,hD⟩
set_option maxRecDepth 100000 in
theorem does_add{p:Pl}(hwl:∀b,W b→LB b)(hc:∀x,AM P f [.ref 500 0,a.v] (ins5 S.r S.n (rowC x) S.m S.tk S.q (flC S.g) S.l) v [some (.box 123 (shC S.r (.own 0) (.own 502) (.own 503) (.own 3))),none,some (.row 55 4 S.m (fun i=>(S.tk i).c)),some (.row 149 2 S.q (flC S.g)),none] [.row 131 1 (S.n+1) (rowZ S.n 1 x),.box 134 (p.c++[V.own 2]),.mp (false,p.cnt) (setF p.fl),(.row 40 13 (S.l+1) anyR)])(hv:v.idf=true)
  (hf:ev fo= .fn (.func f) [] []) (hargs:ar.toList.map ev=[.ref 500 0,a.v]) (hd:d< 1000) (hnx:1≤nx) (hn:S.n≤200):Does P W LB ⟨some d,.call {callee:= .value fo,args:=ar,argTypes:=ats},ty,pos,af,none⟩ ev nx d S {S with n:=S.n+1,pl:=appP S.pl S.n p,l:=S.l+1} v:=by
 have hD:=done_add5 (S:=S) (S':={S with n:=S.n+1,pl:=appP S.pl S.n p,l:=S.l+1}) (nx:=nx) (d:=d) hn hd hnx callG0 callG1 callG2 callG3 rfl rfl rfl rfl rfl (fun i hi=>by show appP _ _ _ i=_;rw [appP,if_pos hi])
 have e2:appP S.pl S.n p S.n=p:=by rw [appP,if_neg (Nat.lt_irrefl _)]
 simp only [mapO,e2]at hD
 have eδ:∀x:Nat→Value,outD (nameG nx (some d) ns5) ns5 ([some (.box 123 (shC S.r (.own 0) (.own 502) (.own 503) (.own 3))),none,some (.row 55 4 S.m (fun i=>(S.tk i).c)),some (.row 149 2 S.q (flC S.g)),none]:List (Option Ob))++callD (nameG nx (some d) ns5) 0 ([.row 131 1 (S.n+1) (rowZ S.n 1 x),.box 134 (p.c++[V.own 2]),.mp (false,p.cnt) (setF p.fl),(.row 40 13 (S.l+1) anyR)]:List Ob)=[(500,some (.box 123 (shC S.r (.own (callG nx (some d) 0)) (.own 502) (.own 503) (.own (callG nx (some d) 3))))),(501,none),(502,some (.row 55 4 S.m (fun i=>(S.tk i).c))),(503,some (.row 149 2 S.q (flC S.g))),(504,none),((callG nx (some d) 0),some (.row 131 1 (S.n+1) fun i=>[.alt (decide (i< S.n)) (rx5 x i) (.ref (callG nx (some d) 1) 0)])),((callG nx (some d) 1),some (.box 134 (p.c++[V.own (callG nx (some d) 2)]))),((callG nx (some d) 2),some (.mp (false,p.cnt) (setF p.fl))),((callG nx (some d) 3),some (.row 40 13 (S.l+1) anyR))]:=fun x=>by kernel_rfl
 refine⟨_,_,[(500,some (.box 123 (shC S.r (.own (callG nx (some d) 0)) (.own 502) (.own 503) (.own (callG nx (some d) 3))))),(501,none),(502,some (.row 55 4 S.m (fun i=>(S.tk i).c))),(503,some (.row 149 2 S.q (flC S.g))),(504,none),((callG nx (some d) 0),some (.row 131 1 (S.n+1) fun i=>[.ref (if i< S.n then 505+2*i else(callG nx (some d) 1)) 0])),((callG nx (some d) 1),some (.box 134 (p.c++[V.own (callG nx (some d) 2)]))),((callG nx (some d) 2),some (.mp (false,p.cnt) (setF p.fl))),((callG nx (some d) 3),some (.row 40 13 (S.l+1) anyR))],
  AStep.const (nm:=fun i=>505+2*i) (rx:=rx5) (δ:=fun x=>[(500,some (.box 123 (shC S.r (.own (callG nx (some d) 0)) (.own 502) (.own 503) (.own (callG nx (some d) 3))))),(501,none),(502,some (.row 55 4 S.m (fun i=>(S.tk i).c))),(503,some (.row 149 2 S.q (flC S.g))),(504,none),((callG nx (some d) 0),some (.row 131 1 (S.n+1) fun i=>[.alt (decide (i< S.n)) (rx5 x i) (.ref (callG nx (some d) 1) 0)])),((callG nx (some d) 1),some (.box 134 (p.c++[V.own (callG nx (some d) 2)]))),((callG nx (some d) 2),some (.mp (false,p.cnt) (setF p.fl))),((callG nx (some d) 3),some (.row 40 13 (S.l+1) anyR))])
   (fun x=>by rw [←eδ x];exact as5 hwl (hc x) hv hf hargs hd (by simp) rfl) ne5 (fun x i _=>tells5 x i) fun x=>(.some _ (.refl _ _ _ _) (.none _ (.some _ (.refl _ _ _ _) (.some _ (.refl _ _ _ _) (.none _ (.some _ (.tells1 (nm:=fun i=>505+2*i) (c:=rx5 x) fun i _=>tells5 x i) (.some _ (.refl _ _ _ _) (.some _ (.refl _ _ _ _) (.some _ (.refl _ _ _ _) .nil))))))))),
  nwOk_calls hd (by simp),pre5_at fun _ _=>trivial,hD⟩
set_option maxRecDepth 100000 in
theorem does_bath{tk':Nat→Tk4}(hwl:∀b,W b→LB b)(hc:∀x,AM P f [.ref 500 0,a.v] (ins5 S.r S.n (rowC x) S.m S.tk S.q (flC S.g) S.l) v [some (.box 123 (shC S.r (.own 501) (.own 0) (.own 503) (.own 1))),some (.row 131 1 S.n (rowC x)),none,some (.row 149 2 S.q (flC S.g)),none] [.row 55 4 (S.m+1) (fun i=>(tk' i).c),(.row 40 13 (S.l+1) anyR)])(hv:v.idf=true)
  (hf:ev fo= .fn (.func f) [] []) (hargs:ar.toList.map ev=[.ref 500 0,a.v]) (hd:d< 1000) (hnx:1≤nx) (hn:S.n≤200):Does P W LB ⟨some d,.call {callee:= .value fo,args:=ar,argTypes:=ats},ty,pos,af,none⟩ ev nx d S {S with m:=S.m+1,tk:=tk',l:=S.l+1} v:=by
 have hD:=done_bath (S:=S) (S':={S with m:=S.m+1,tk:=tk',l:=S.l+1}) (nx:=nx) (d:=d) hn hd hnx callG0 callG1 rfl rfl rfl rfl (fun i hi=>rfl)
 have eδ:∀x:Nat→Value,outD (nameG nx (some d) ns5) ns5 ([some (.box 123 (shC S.r (.own 501) (.own 0) (.own 503) (.own 1))),some (.row 131 1 S.n (rowC x)),none,some (.row 149 2 S.q (flC S.g)),none]:List (Option Ob))++callD (nameG nx (some d) ns5) 0 ([.row 55 4 (S.m+1) (fun i=>(tk' i).c),(.row 40 13 (S.l+1) anyR)]:List Ob)=[(500,some (.box 123 (shC S.r (.own 501) (.own (callG nx (some d) 0)) (.own 503) (.own (callG nx (some d) 1))))),(501,some (.row 131 1 S.n fun i=>[rx5 x i])),(502,none),(503,some (.row 149 2 S.q (flC S.g))),(504,none),((callG nx (some d) 0),some (.row 55 4 (S.m+1) (fun i=>(tk' i).c))),((callG nx (some d) 1),some (.row 40 13 (S.l+1) anyR))]:=fun x=>by kernel_rfl
 refine⟨_,_,[(500,some (.box 123 (shC S.r (.own 501) (.own (callG nx (some d) 0)) (.own 503) (.own (callG nx (some d) 1))))),(501,some (.row 131 1 S.n fun i=>[.ref (505+2*i) 0])),(502,none),(503,some (.row 149 2 S.q (flC S.g))),(504,none),((callG nx (some d) 0),some (.row 55 4 (S.m+1) (fun i=>(tk' i).c))),((callG nx (some d) 1),some (.row 40 13 (S.l+1) anyR))],
  AStep.const (nm:=fun i=>505+2*i) (rx:=rx5) (δ:=fun x=>[(500,some (.box 123 (shC S.r (.own 501) (.own (callG nx (some d) 0)) (.own 503) (.own (callG nx (some d) 1))))),(501,some (.row 131 1 S.n fun i=>[rx5 x i])),(502,none),(503,some (.row 149 2 S.q (flC S.g))),(504,none),((callG nx (some d) 0),some (.row 55 4 (S.m+1) (fun i=>(tk' i).c))),((callG nx (some d) 1),some (.row 40 13 (S.l+1) anyR))])
   (fun x=>by rw [←eδ x];exact as5 hwl (hc x) hv hf hargs hd (by simp) rfl) ne5 (fun x i _=>tells5 x i) fun x=>(.some _ (.refl _ _ _ _) (.some _ (.tells (fun i _=>tells5 x i) fun i _=> .ref (nm:=fun i=>505+2*i)) (.none _ (.some _ (.refl _ _ _ _) (.none _ (.some _ (.refl _ _ _ _) (.some _ (.refl _ _ _ _) .nil))))))),
  nwOk_calls hd (by simp),pre5_at fun _ _=>trivial,hD⟩
set_option maxRecDepth 100000 in
theorem does_flaw{k:Nat}(hk:k< S.n){z':Pl}{g':Nat→Int×Int}(hz:z'.c=(S.pl k).c)(hwl:∀b,W b→LB b)(hc:∀x,AM P f [.ref 500 0,a.v] (ins7 S.r S.n k x S.m S.tk S.q (flC S.g) S.l (S.pl k)) v [some (.box 123 (shC S.r (.own 501) (.own 502) (.own 0) (.own 1))),some (.row 131 1 S.n (rowX 505 k x)),some (.row 55 4 S.m (fun i=>(S.tk i).c)),none,none,some (.box 134 ((S.pl k).c++[V.own 506])),some (.mp (false,z'.cnt) (setF z'.fl))] [.row 149 2 (S.q+1) (flC g'),(.row 40 13 (S.l+1) anyR)])(hv:v.idf=true)
  (hf:ev fo= .fn (.func f) [] []) (hargs:ar.toList.map ev=[.ref 500 0,a.v]) (hd:d< 1000) (hnx:1≤nx) (hn:S.n≤200):Does P W LB ⟨some d,.call {callee:= .value fo,args:=ar,argTypes:=ats},ty,pos,af,none⟩ ev nx d S {S with q:=S.q+1,g:=g',pl:=setP S.pl k z',l:=S.l+1} v:=by
 have hD:=done_flaw (S:=S) (S':={S with q:=S.q+1,g:=g',pl:=setP S.pl k z',l:=S.l+1}) (nx:=nx) (d:=d) (k:=k) hn hd hnx callG0 callG1 rfl rfl rfl rfl hk (fun i hi hik=>by show setP _ _ _ i=_;rw [setP,if_neg hik])
 have e1:setP S.pl k z' k=z':=by rw [setP,if_pos rfl]
 simp only [mapO,e1]at hD
 rw [hz]at hD
 have eδ:∀x:Nat→Value,outD (nameG nx (some d) (ns7 k)) (ns7 k) ([some (.box 123 (shC S.r (.own 501) (.own 502) (.own 0) (.own 1))),some (.row 131 1 S.n (rowX 505 k x)),some (.row 55 4 S.m (fun i=>(S.tk i).c)),none,none,some (.box 134 ((S.pl k).c++[V.own 506])),some (.mp (false,z'.cnt) (setF z'.fl))]:List (Option Ob))++callD (nameG nx (some d) (ns7 k)) 0 ([.row 149 2 (S.q+1) (flC g'),(.row 40 13 (S.l+1) anyR)]:List Ob)=[(500,some (.box 123 (shC S.r (.own 501) (.own 502) (.own (callG nx (some d) 0)) (.own (callG nx (some d) 1))))),(501,some (.row 131 1 S.n fun i=>[rx7 k x i])),(502,some (.row 55 4 S.m (fun i=>(S.tk i).c))),(503,none),(504,none),(505+2*k,some (.box 134 ((S.pl k).c++[V.own (506+2*k)]))),(506+2*k,some (.mp (false,z'.cnt) (setF z'.fl))),((callG nx (some d) 0),some (.row 149 2 (S.q+1) (flC g'))),((callG nx (some d) 1),some (.row 40 13 (S.l+1) anyR))]:=fun x=>by kernel_rfl
 refine⟨_,_,[(500,some (.box 123 (shC S.r (.own 501) (.own 502) (.own (callG nx (some d) 0)) (.own (callG nx (some d) 1))))),(501,some (.row 131 1 S.n fun i=>[.ref (505+2*i) 0])),(502,some (.row 55 4 S.m (fun i=>(S.tk i).c))),(503,none),(504,none),(505+2*k,some (.box 134 ((S.pl k).c++[V.own (506+2*k)]))),(506+2*k,some (.mp (false,z'.cnt) (setF z'.fl))),((callG nx (some d) 0),some (.row 149 2 (S.q+1) (flC g'))),((callG nx (some d) 1),some (.row 40 13 (S.l+1) anyR))],
  AStep.const (nm:=fun i=>505+2*i) (rx:=rx7 k) (δ:=fun x=>[(500,some (.box 123 (shC S.r (.own 501) (.own 502) (.own (callG nx (some d) 0)) (.own (callG nx (some d) 1))))),(501,some (.row 131 1 S.n fun i=>[rx7 k x i])),(502,some (.row 55 4 S.m (fun i=>(S.tk i).c))),(503,none),(504,none),(505+2*k,some (.box 134 ((S.pl k).c++[V.own (506+2*k)]))),(506+2*k,some (.mp (false,z'.cnt) (setF z'.fl))),((callG nx (some d) 0),some (.row 149 2 (S.q+1) (flC g'))),((callG nx (some d) 1),some (.row 40 13 (S.l+1) anyR))])
   (fun x=>by rw [←eδ x];exact as7 hwl (hc x) hv hf hargs hd (by simp) rfl) ne7 (fun x i _=>tells7 k x i) fun x=>(.some _ (.refl _ _ _ _) (.some _ (.tells (fun i _=>tells7 k x i) fun i _=> .ref (nm:=fun i=>505+2*i)) (.some _ (.refl _ _ _ _) (.none _ (.none _ (.some _ (.refl _ _ _ _) (.some _ (.refl _ _ _ _) (.some _ (.refl _ _ _ _) (.some _ (.refl _ _ _ _) .nil))))))))),
  nwOk_calls hd (by simp),pre7_at hk,hD⟩
set_option maxRecDepth 100000 in
theorem does_act{k:Nat}(hk:k< S.n){z':Pl}(hwl:∀b,W b→LB b)(hc:∀x,AM P f [.ref 500 0,a.v] (ins7 S.r S.n k x S.m S.tk S.q (flC S.g) S.l (S.pl k)) v [some (.box 123 (shC S.r (.own 501) (.own 502) (.own 503) (.own 0))),some (.row 131 1 S.n (rowX 505 k x)),some (.row 55 4 S.m (fun i=>(S.tk i).c)),some (.row 149 2 S.q (flC S.g)),none,some (.box 134 (z'.c++[V.own 506])),some (.mp (false,z'.cnt) (setF z'.fl))] [(.row 40 13 (S.l+1) anyR)])(hv:v.idf=true)
  (hf:ev fo= .fn (.func f) [] []) (hargs:ar.toList.map ev=[.ref 500 0,a.v]) (hd:d< 1000) (hnx:1≤nx) (hn:S.n≤200):Does P W LB ⟨some d,.call {callee:= .value fo,args:=ar,argTypes:=ats},ty,pos,af,none⟩ ev nx d S {S with pl:=setP S.pl k z',l:=S.l+1} v:=by
 have hD:=done_act (S:=S) (S':={S with pl:=setP S.pl k z',l:=S.l+1}) (nx:=nx) (d:=d) (k:=k) hn hd hnx callG0 rfl rfl rfl rfl rfl rfl hk (fun i hi hik=>by show setP _ _ _ i=_;rw [setP,if_neg hik])
 have e1:setP S.pl k z' k=z':=by rw [setP,if_pos rfl]
 simp only [mapO,e1]at hD
 have eδ:∀x:Nat→Value,outD (nameG nx (some d) (ns7 k)) (ns7 k) ([some (.box 123 (shC S.r (.own 501) (.own 502) (.own 503) (.own 0))),some (.row 131 1 S.n (rowX 505 k x)),some (.row 55 4 S.m (fun i=>(S.tk i).c)),some (.row 149 2 S.q (flC S.g)),none,some (.box 134 (z'.c++[V.own 506])),some (.mp (false,z'.cnt) (setF z'.fl))]:List (Option Ob))++callD (nameG nx (some d) (ns7 k)) 0 ([(.row 40 13 (S.l+1) anyR)]:List Ob)=[(500,some (.box 123 (shC S.r (.own 501) (.own 502) (.own 503) (.own (callG nx (some d) 0))))),(501,some (.row 131 1 S.n fun i=>[rx7 k x i])),(502,some (.row 55 4 S.m (fun i=>(S.tk i).c))),(503,some (.row 149 2 S.q (flC S.g))),(504,none),(505+2*k,some (.box 134 (z'.c++[V.own (506+2*k)]))),(506+2*k,some (.mp (false,z'.cnt) (setF z'.fl))),((callG nx (some d) 0),some (.row 40 13 (S.l+1) anyR))]:=fun x=>by kernel_rfl
 refine⟨_,_,[(500,some (.box 123 (shC S.r (.own 501) (.own 502) (.own 503) (.own (callG nx (some d) 0))))),(501,some (.row 131 1 S.n fun i=>[.ref (505+2*i) 0])),(502,some (.row 55 4 S.m (fun i=>(S.tk i).c))),(503,some (.row 149 2 S.q (flC S.g))),(504,none),(505+2*k,some (.box 134 (z'.c++[V.own (506+2*k)]))),(506+2*k,some (.mp (false,z'.cnt) (setF z'.fl))),((callG nx (some d) 0),some (.row 40 13 (S.l+1) anyR))],
  AStep.const (nm:=fun i=>505+2*i) (rx:=rx7 k) (δ:=fun x=>[(500,some (.box 123 (shC S.r (.own 501) (.own 502) (.own 503) (.own (callG nx (some d) 0))))),(501,some (.row 131 1 S.n fun i=>[rx7 k x i])),(502,some (.row 55 4 S.m (fun i=>(S.tk i).c))),(503,some (.row 149 2 S.q (flC S.g))),(504,none),(505+2*k,some (.box 134 (z'.c++[V.own (506+2*k)]))),(506+2*k,some (.mp (false,z'.cnt) (setF z'.fl))),((callG nx (some d) 0),some (.row 40 13 (S.l+1) anyR))])
   (fun x=>by rw [←eδ x];exact as7 hwl (hc x) hv hf hargs hd (by simp) rfl) ne7 (fun x i _=>tells7 k x i) fun x=>(.some _ (.refl _ _ _ _) (.some _ (.tells (fun i _=>tells7 k x i) fun i _=> .ref (nm:=fun i=>505+2*i)) (.some _ (.refl _ _ _ _) (.some _ (.refl _ _ _ _) (.none _ (.some _ (.refl _ _ _ _) (.some _ (.refl _ _ _ _) (.some _ (.refl _ _ _ _) .nil)))))))),
  nwOk_calls hd (by simp),pre7_at hk,hD⟩
end
end Go.Proofs.YtjmbpjlojjgggaaGreatDoor

namespace Go.Proofs.YtjmbpjlojjgggaaGreatDoor
open Go.Ab Go.RowKit Go.Dw Go.Shelf
theorem actB_g{kind cut area stock yield plate bath s0 s1 cur sec place flaw:Int}(hk:kind=3)(h:actB ⟨kind,cut,area,stock,yield,plate,bath,s0,s1,cur,sec,place,flaw⟩=true):Act.gok ⟨kind,cut,area,stock,yield,plate,bath,s0,s1,cur,sec,place,flaw⟩:=by
 subst hk
 simp [actB,betB]at h
 exact⟨by simp;omega,by simp;omega,by simp;omega,by simp;omega⟩
theorem here_ok{r:Rc}{n:Nat}{z:Pl}{a:Act}(hz:z.ok)(h:hereE r n z a=0):z.kind≤2∧z.ret=false∧z.grown< r.max z.kind:=by
 unfold hereE at h
 by_cases h1:z.ret=true
 ·
  rw [if_pos h1]at h;cases h
 rw [if_neg h1]at h
 by_cases h2:roomP r z=0∨256≤n
 ·
  rw [if_pos h2]at h;cases h
 have h3:roomP r z≠0:=fun e=>h2 (.inl e)
 rw [roomP,if_neg h1]at h3
 have h4:z.grown< r.max z.kind:=by omega
 refine⟨?_,by simpa using h1,h4⟩
 have:=hz.kind
 have hg:=hz.grown
 by_cases h5:z.kind=3
 ·
  rw [h5]at h4;simp [Rc.max]at h4;omega
 ·
  omega
section
variable {W LB:Nat→Prop}{d:Nat}{ty:TypeId}{pos:String}{af:Array Edge}{ev:Operand→V}{fo:Operand}{ar:Array Operand}{ats:Array TypeId}{nx:Nat}{S:Sh}
theorem as_do(hwl:∀b,W b→LB b)(hS:S.ok)(hl:S.l≤60)(a:Act)(hf:ev fo= .fn (.func 13) [] [])(hargs:ar.toList.map ev=[.ref 500 0,a.v])(hd:d< 1000)(hnx:1≤nx) :
  Does Tryz.prog W LB ⟨some d,.call {callee:= .value fo,args:=ar,argTypes:=ats},ty,pos,af,none⟩ ev nx d S (stepS S a).1 (.tup [.i (stepS S a).2.1,.i (stepS S a).2.2]):=by
 have hn:S.n≤200:=by have:=hS.n;omega
 have hq:S.q≤60:=by have:=hS.q;omega
 have hm:=hS.m
 by_cases hv:actB a=false
 ·
  rw [show stepS S a=(S,0,2) by rw [stepS,if_pos hv]]
  exact does5E hwl (fun x=>doV_am S.r S.n x S.m S.tk S.q S.g S.l a oM hv) rfl hf hargs hd
 have hv:actB a=true:=by simpa using hv
 obtain⟨kind,cut,area,stock,yield,plate,bath,s0,s1,cur,sec,place,flaw⟩:=a
 obtain⟨A,hA⟩:∃A:Act,A=⟨kind,cut,area,stock,yield,plate,bath,s0,s1,cur,sec,place,flaw⟩:=⟨_,rfl⟩
 by_cases k1:kind=1
 ·
  subst k1
  rw [←hA,show stepS S A=({S with n:=S.n+1,pl:=appP S.pl S.n (lacP A),l:=S.l+1},(S.n:Int),0) by rw [stepS,if_neg (by rw [hA,hv];simp),if_pos (by rw [hA])]]
  try rw [hA]
  exact does_add hwl (fun x=>do_lacquer_ok S.r S.n x S.m S.tk S.q S.g S.l _ oM hv (lacquer_am S.r S.n x S.m S.tk S.q S.g S.l _ hn)) rfl hf hargs hd hnx hn
 by_cases k2:kind=2
 ·
  subst k2
  by_cases c:S.m< 8
  ·
   rw [←hA,show stepS S A=({S with m:=S.m+1,tk:=bathF S.m S.tk A,l:=S.l+1},(S.m:Int),0) by rw [stepS,if_neg (by rw [hA,hv];simp),if_neg (by rw [hA];simp),if_pos (by rw [hA]),if_pos c],hA]
   exact does_bath hwl (fun x=>do_bath_ok S.r S.n x S.m S.tk S.q S.g S.l _ oM hv (bath_am S.r S.n x S.m S.tk S.q S.g S.l _ c)) rfl hf hargs hd hnx hn
  ·
   rw [←hA,show stepS S A=(S,0,11) by rw [stepS,if_neg (by rw [hA,hv];simp),if_neg (by rw [hA];simp),if_pos (by rw [hA]),if_neg c]]
   exact does5E hwl (fun x=>do_bath_e5 S.r S.n x S.m S.tk S.q S.g S.l (by simp) oM hv (bathN_am S.r S.n x S.m S.tk S.q S.g S.l _ c)) rfl hf hargs hd
 by_cases k3:kind=3
 ·
  subst k3
  have hg:=actB_g rfl hv
  have e0:stepS S A=if ¬(0≤A.plate∧A.plate< S.n)then(S,(0:Int),(5:Int))else if ¬(0≤A.bath∧A.bath< S.m)then(S,0,5)else if hereE S.r S.n (S.pl A.plate.toNat) A≠0 then(S,0,hereE S.r S.n (S.pl A.plate.toNat) A)else if layE S.r (S.pl A.plate.toNat) (S.tk A.bath.toNat) A≠0 then(S,0,layE S.r (S.pl A.plate.toNat) (S.tk A.bath.toNat) A)
    else({S with n:=S.n+1,pl:=appP (setP S.pl A.plate.toNat (S.pl A.plate.toNat).under) S.n ((S.pl A.plate.toNat).over A.plate (layT (S.pl A.plate.toNat) (S.tk A.bath.toNat) A)),tk:=tkSet S.tk A.bath.toNat ((S.tk A.bath.toNat).used A),l:=S.l+1},(S.n:Int),0):=by
   rw [stepS,if_neg (by rw [hA,hv];simp),if_neg (by rw [hA];simp),if_neg (by rw [hA];simp),if_pos (by rw [hA])]
  by_cases c:0≤plate∧plate< S.n
  ·
   obtain⟨k,hk⟩:∃k:Nat,plate=k:=⟨plate.toNat,by omega⟩
   have hkn:k< S.n:=by omega
   have hkt:A.plate.toNat=k:=by rw [hA];show plate.toNat=k;omega
   have hz:=hS.pl k hkn
   rw [if_neg (by rw [hA];exact not_not_intro c),hkt]at e0
   by_cases c2:0≤bath∧bath< S.m
   ·
    obtain⟨ht,hc1,hc2⟩:=hS.tk bath.toNat oM
    have hcc:0≤(S.tk bath.toNat).charge∧(S.tk bath.toNat).charge≤1000000000000000:=⟨hc1,by omega⟩
    rw [if_neg (by rw [hA];exact not_not_intro c2)]at e0
    by_cases c3:hereE S.r S.n (S.pl k) A=0
    ·
     obtain⟨z1,z2,z3⟩:=here_ok hz c3
     rw [if_neg (by rw [c3];simp)]at e0
     by_cases c4:layE S.r (S.pl k) (S.tk A.bath.toNat) A=0
     ·
      rw [if_neg (by rw [c4];simp)]at e0
      rw [←hA,e0]
      try rw [hA]
      rw [hA]at c3 c4
      exact does_grow hkn hwl (fun x=>do_grow_ok S.r S.n k x S.m S.tk S.q S.g S.l (S.pl k) _ _ _ oM hv (grow_am S.r hS.r S.n k x S.m S.tk S.q S.g S.l (S.pl k) hz z1 _ hg hk hkn hn c2 hm ht hcc c3 c4)) rfl hf hargs hd hnx hn
     ·
      rw [if_pos c4]at e0
      rw [←hA,e0]
      try rw [hA]
      rw [hA]at c3 c4
      exact does7E hkn hwl (fun x=>do_grow_e7 S.r S.n k x S.m S.tk S.q S.g S.l (S.pl k) c4 oM hv (growL_am S.r hS.r S.n k x S.m S.tk S.q S.g S.l (S.pl k) hz z1 _ hg hk hkn oM c2 hm ht c3 c4)) rfl hf hargs hd
    ·
     rw [if_pos c3]at e0
     rw [←hA,e0]
     try rw [hA]
     rw [hA]at c3
     exact does7E hkn hwl (fun x=>do_grow_e7 S.r S.n k x S.m S.tk S.q S.g S.l (S.pl k) c3 oM hv (growE_am S.r hS.r S.n k x S.m S.tk S.q S.g S.l (S.pl k) hz _ hg hk hkn oM c2 hm c3)) rfl hf hargs hd
   ·
    rw [if_pos (by rw [hA];exact c2)]at e0
    rw [←hA,e0]
    try rw [hA]
    exact does7E hkn hwl (fun x=>do_grow_e7 S.r S.n k x S.m S.tk S.q S.g S.l (S.pl k) (by simp) oM hv (growB_am S.r S.n k x S.m S.tk S.q S.g S.l (S.pl k) _ hk hkn oM c2 hm)) rfl hf hargs hd
  ·
   rw [if_pos (by rw [hA];exact c)]at e0
   rw [←hA,e0]
   try rw [hA]
   exact does5E hwl (fun x=>do_grow_e5 S.r S.n x S.m S.tk S.q S.g S.l (by simp) oM hv (growN_am S.r S.n x S.m S.tk S.q S.g S.l _ c oM hm)) rfl hf hargs hd
 have e0:stepS S A=if ¬(0≤A.plate∧A.plate< S.n)then(S,(0:Int),(5:Int))
   else if A.kind=4 then
    if(S.pl A.plate.toNat).ret then(S,0,10)
    else({S with q:=S.q+1,g:=appG S.g S.q (A.plate,A.place),pl:=setP S.pl A.plate.toNat ((S.pl A.plate.toNat).addF S.q),l:=S.l+1},(S.q:Int),0)
   else if A.kind=5 then
    if ¬(0≤A.flaw∧A.flaw< S.q)then(S,0,5)
    else if(S.pl A.plate.toNat).ret then(S,0,10)
    else if(S.pl A.plate.toNat).fl A.flaw=false then(S,0,19)
    else({S with pl:=setP S.pl A.plate.toNat ((S.pl A.plate.toNat).delF A.flaw),l:=S.l+1},0,0)
   else if(S.pl A.plate.toNat).ret then(S,0,10)
   else({S with pl:=setP S.pl A.plate.toNat {S.pl A.plate.toNat with ret:=true},l:=S.l+1},0,0):=by
  rw [stepS,if_neg (by rw [hA,hv];simp),if_neg (by rw [hA];exact k1),if_neg (by rw [hA];exact k2),if_neg (by rw [hA];exact k3)]
 by_cases c:0≤plate∧plate< S.n
 ·
  obtain⟨k,hk⟩:∃k:Nat,plate=k:=⟨plate.toNat,by omega⟩
  have hkn:k< S.n:=by omega
  have hkt:A.plate.toNat=k:=by rw [hA];show plate.toNat=k;omega
  rw [if_neg (by rw [hA];exact not_not_intro c),hkt]at e0
  by_cases k4:kind=4
  ·
   rw [if_pos (by rw [hA];exact k4)]at e0
   subst k4
   by_cases c2:(S.pl k).ret=true
   ·
    rw [if_pos c2]at e0
    rw [←hA,e0]
    try rw [hA]
    exact does7E hkn hwl (fun x=>do_flaw_e7 S.r S.n k x S.m S.tk S.q S.g S.l (S.pl k) (by simp) oM hv (flawR_am S.r S.n k x S.m S.tk S.q S.g S.l (S.pl k) _ hk hkn c2 oM)) rfl hf hargs hd
   ·
    have c2':(S.pl k).ret=false:=by simpa using c2
    rw [if_neg c2]at e0
    rw [←hA,e0]
    try rw [hA]
    exact does_flaw hkn rfl hwl (fun x=>do_flaw_ok S.r S.n k x S.m S.tk S.q S.g S.l (S.pl k) _ _ oM hv (flaw_am S.r S.n k x S.m S.tk S.q S.g S.l (S.pl k) _ hk hkn oM oM c2')) rfl hf hargs hd hnx hn
  rw [if_neg (by rw [hA];exact k4)]at e0
  by_cases k5:kind=5
  ·
   rw [if_pos (by rw [hA];exact k5)]at e0
   subst k5
   by_cases c1:0≤flaw∧flaw< S.q
   ·
    rw [if_neg (by rw [hA];exact not_not_intro c1)]at e0
    by_cases c2:(S.pl k).ret=true
    ·
     rw [if_pos c2]at e0
     rw [←hA,e0]
     try rw [hA]
     exact does7E hkn hwl (fun x=>do_mend_e7 S.r S.n k x S.m S.tk S.q S.g S.l (S.pl k) (by simp) oM hv (mendR_am S.r S.n k x S.m S.tk S.q S.g S.l (S.pl k) _ hk hkn oM c1 c2 oM)) rfl hf hargs hd
    ·
     have c2':(S.pl k).ret=false:=by simpa using c2
     rw [if_neg c2]at e0
     by_cases c3:(S.pl k).fl A.flaw=false
     ·
      rw [if_pos c3]at e0
      rw [←hA,e0]
      try rw [hA]
      rw [hA]at c3
      exact does7E hkn hwl (fun x=>do_mend_e7 S.r S.n k x S.m S.tk S.q S.g S.l (S.pl k) (by simp) oM hv (mendL_am S.r S.n k x S.m S.tk S.q S.g S.l (S.pl k) _ hk hkn oM c1 c2' c3 oM)) rfl hf hargs hd
     ·
      have c3':(S.pl k).fl A.flaw=true:=by simpa using c3
      rw [if_neg c3]at e0
      rw [←hA,e0]
      try rw [hA]
      rw [hA]at c3'
      exact does_act hkn hwl (fun x=>do_mend_ok S.r S.n k x S.m S.tk S.q S.g S.l (S.pl k) _ oM hv (mend_am S.r S.n k x S.m S.tk S.q S.g S.l (S.pl k) _ hk hkn oM oM c2' c1 c3')) rfl hf hargs hd hnx hn
   ·
    rw [if_pos (by rw [hA];exact c1)]at e0
    rw [←hA,e0]
    try rw [hA]
    exact does7E hkn hwl (fun x=>do_mend_e7 S.r S.n k x S.m S.tk S.q S.g S.l (S.pl k) (by simp) oM hv (mendF_am S.r S.n k x S.m S.tk S.q S.g S.l (S.pl k) _ hk hkn oM c1 oM)) rfl hf hargs hd
  rw [if_neg (by rw [hA];exact k5)]at e0
  have k6:kind=6:=by
   simp [actB,k1,k2,k3,k4,k5]at hv
   exact hv
  subst k6
  by_cases c2:(S.pl k).ret=true
  ·
   rw [if_pos c2]at e0
   rw [←hA,e0]
   try rw [hA]
   exact does7E hkn hwl (fun x=>do_retire_e7 S.r S.n k x S.m S.tk S.q S.g S.l (S.pl k) (by simp) oM hv (retireR_am S.r S.n k x S.m S.tk S.q S.g S.l (S.pl k) _ hk hkn c2 oM)) rfl hf hargs hd
  ·
   have c2':(S.pl k).ret=false:=by simpa using c2
   rw [if_neg c2]at e0
   rw [←hA,e0]
   try rw [hA]
   exact does_act hkn hwl (fun x=>do_retire_ok S.r S.n k x S.m S.tk S.q S.g S.l (S.pl k) _ oM hv (retire_am S.r S.n k x S.m S.tk S.q S.g S.l (S.pl k) _ hk hkn oM c2')) rfl hf hargs hd hnx hn
 ·
  rw [if_pos (by rw [hA];exact c)]at e0
  rw [←hA,e0]
  try rw [hA]
  by_cases k4:kind=4
  ·
   subst k4
   exact does5E hwl (fun x=>do_flaw_e5 S.r S.n x S.m S.tk S.q S.g S.l (by simp) oM hv (flawN_am S.r S.n x S.m S.tk S.q S.g S.l _ c oM)) rfl hf hargs hd
  by_cases k5:kind=5
  ·
   subst k5
   exact does5E hwl (fun x=>do_mend_e5 S.r S.n x S.m S.tk S.q S.g S.l (by simp) oM hv (mendN_am S.r S.n x S.m S.tk S.q S.g S.l _ c oM)) rfl hf hargs hd
  have k6:kind=6:=by
   simp [actB,k1,k2,k3,k4,k5]at hv
   exact hv
  subst k6
  exact does5E hwl (fun x=>do_retire_e5 S.r S.n x S.m S.tk S.q S.g S.l (by simp) oM hv (retireN_am S.r S.n x S.m S.tk S.q S.g S.l _ c oM)) rfl hf hargs hd
end
end Go.Proofs.YtjmbpjlojjgggaaGreatDoor

namespace Go.Proofs.YtjmbpjlojjgggaaGreatDoor
open Go.Ab Go.RowKit Go.Dw Go.Shelf
def newS(r:Rc):Sh:=⟨r,0,fun _=>⟨0,0,0,0,0,0,false,0,fun _=>false⟩,0,fun _=>⟨0,0,0,0⟩,0,fun _=>(0,0),0⟩
theorem newS_ok{r:Rc}(h:r.ok):(newS r).ok:=⟨h,Nat.le_refl _,fun i hi=>absurd hi (Nat.not_lt_zero _),Nat.zero_le _,fun i hi=>absurd hi (Nat.not_lt_zero _),Nat.le_refl _⟩
theorem act_area{a:Act}(h:actB a=true)(hk:a.kind=1):1≤a.area∧a.area≤1048576:=by
 rw [actB,if_pos hk]at h;simp [betB]at h;omega
theorem act_bath{a:Act}(h:actB a=true)(hk:a.kind=2):(0≤a.stock∧a.stock≤1099511627776)∧1≤a.yield∧a.yield≤1000:=by
 rw [actB,if_neg oM,if_pos hk]at h;simp [betB]at h;omega
theorem Rc.max_le{r:Rc}(h:r.ok)(k:Nat):r.max k≤16:=by
 have h1:=h.mo;have h2:=h.st
 match k with
 |0=>simp [Rc.max]
 |1=>simp [Rc.max];omega
 |2=>simp [Rc.max];omega
 |k+3=>simp [Rc.max]
theorem step_ok{S:Sh}(h:S.ok)(a:Act):(stepS S a).1.ok:=by
 unfold stepS
 by_cases hv:actB a=false
 ·
  rw [if_pos hv];exact h
 rw [if_neg hv]
 have hv:actB a=true:=by simpa using hv
 have tk1:∀i,i< S.m→(S.tk i).ok∧0≤(S.tk i).charge∧(S.tk i).charge≤2199023255552*((S.l+1:Nat):Int):=fun i hi=>by
  obtain⟨h1,h2,h3⟩:=h.tk i hi
  exact⟨h1,h2,by omega⟩
 have hn:=h.n
 have hq:=h.q
 have hset:∀(k:Nat) (z:Pl),z.ok→∀i,i< S.n→(setP S.pl k z i).ok:=fun k z hz i hi=>by
  unfold setP;split
  ·
   exact hz
  ·
   exact h.pl i hi
 by_cases k1:a.kind=1
 ·
  rw [if_pos k1]
  refine⟨h.r,by show S.n+1≤S.l+1;omega,fun i hi=> ?_,h.m,tk1,by show S.q≤S.l+1;omega⟩
  show(appP S.pl S.n (lacP a) i).ok
  unfold appP;split
  ·
   rename_i hi';exact h.pl i hi'
  ·
   exact⟨by simp [lacP],act_area hv k1,by simp [lacP]⟩
 rw [if_neg k1]
 by_cases k2:a.kind=2
 ·
  rw [if_pos k2]
  by_cases c:S.m< 8
  ·
   rw [if_pos c]
   obtain⟨b1,b2⟩:=act_bath hv k2
   refine⟨h.r,by show S.n≤S.l+1;omega,h.pl,c,fun i hi=> ?_,by show S.q≤S.l+1;omega⟩
   show(bathF S.m S.tk a i).ok∧0≤(bathF S.m S.tk a i).charge∧(bathF S.m S.tk a i).charge≤2199023255552*((S.l+1:Nat):Int)
   unfold bathF;split
   ·
    rename_i hi';exact tk1 i hi'
   ·
    refine⟨⟨b2,b1.1,by simp [bathT],by simp [bathT];exact b1.2⟩,by simp [bathT],by simp [bathT];omega⟩
  ·
   rw [if_neg c];exact h
 rw [if_neg k2]
 by_cases k3:a.kind=3
 ·
  rw [if_pos k3]
  by_cases c1:0≤a.plate∧a.plate< S.n
  ·
   rw [if_neg (not_not_intro c1)]
   by_cases c2:0≤a.bath∧a.bath< S.m
   ·
    rw [if_neg (not_not_intro c2)]
    by_cases c3:hereE S.r S.n (S.pl a.plate.toNat) a=0
    ·
     rw [if_neg (by rw [c3];simp)]
     by_cases c4:layE S.r (S.pl a.plate.toNat) (S.tk a.bath.toNat) a=0
     ·
      rw [if_neg (by rw [c4];simp)]
      have hz:=h.pl a.plate.toNat oM
      obtain⟨ht,hc1,hc2⟩:=h.tk a.bath.toNat oM
      obtain⟨z1,z2,z3⟩:=here_ok hz c3
      have hmx:=Rc.max_le h.r (S.pl a.plate.toNat).kind
      have hga:a.gok:=actB_g k3 hv
      obtain⟨q1,q2,q3,q4,q5⟩:=gm_bd hga ht.yield
      obtain⟨q6,q7⟩:=gr_bd hga
      have hms:gMe (S.tk a.bath.toNat).yield a≤(S.tk a.bath.toNat).stock:=by
       unfold layE at c4
       split at c4
       ·
        cases c4
       ·
        split at c4
        ·
         cases c4
        ·
         omega
      have hgn:=hz.grown
      refine⟨h.r,by show S.n+1≤S.l+1;omega,fun i hi=> ?_,h.m,fun i hi=> ?_,by show S.q≤S.l+1;omega⟩
      ·
       show(appP (setP S.pl a.plate.toNat (S.pl a.plate.toNat).under) S.n _ i).ok
       unfold appP;split
       ·
        rename_i hi'
        refine hset _ (S.pl a.plate.toNat).under ⟨hz.kind,hz.area,?_⟩ i hi'
        show 0≤(S.pl a.plate.toNat).grown+1∧(S.pl a.plate.toNat).grown+1≤1000
        omega
       ·
        refine⟨?_,hz.area,by simp [Pl.over]⟩
        show(S.pl a.plate.toNat).kind+1≤3
        omega
      ·
       show(tkSet S.tk a.bath.toNat _ i).ok∧0≤(tkSet S.tk a.bath.toNat _ i).charge∧(tkSet S.tk a.bath.toNat _ i).charge≤2199023255552*((S.l+1:Nat):Int)
       unfold tkSet;split
       ·
        have w1:=ht.stock;have w2:=ht.laid;have w3:=ht.sum
        refine⟨⟨ht.yield,?_,?_,?_⟩,?_,?_⟩
        ·
         show 0≤(S.tk a.bath.toNat).stock- gMe (S.tk a.bath.toNat).yield a;omega
        ·
         show 0≤(S.tk a.bath.toNat).laid+gMe (S.tk a.bath.toNat).yield a;omega
        ·
         show(S.tk a.bath.toNat).stock- gMe (S.tk a.bath.toNat).yield a+((S.tk a.bath.toNat).laid+gMe (S.tk a.bath.toNat).yield a)≤1099511627776;omega
        ·
         show 0≤(S.tk a.bath.toNat).charge+gCh a;unfold gCh;omega
        ·
         show(S.tk a.bath.toNat).charge+gCh a≤_;unfold gCh;omega
       ·
        exact tk1 i hi
     ·
      rw [if_pos c4];exact h
    ·
     rw [if_pos c3];exact h
   ·
    rw [if_pos c2];exact h
  ·
   rw [if_pos c1];exact h
 rw [if_neg k3]
 by_cases c1:0≤a.plate∧a.plate< S.n
 ·
  rw [if_neg (not_not_intro c1)]
  have hz:=h.pl a.plate.toNat oM
  by_cases k4:a.kind=4
  ·
   rw [if_pos k4]
   split
   ·
    exact h
   ·
    exact⟨h.r,by show S.n≤S.l+1;omega,hset _ _ ⟨hz.kind,hz.area,hz.grown⟩,h.m,tk1,by show S.q+1≤S.l+1;omega⟩
  rw [if_neg k4]
  by_cases k5:a.kind=5
  ·
   rw [if_pos k5]
   split
   ·
    exact h
   split
   ·
    exact h
   split
   ·
    exact h
   ·
    exact⟨h.r,by show S.n≤S.l+1;omega,hset _ _ ⟨hz.kind,hz.area,hz.grown⟩,h.m,tk1,by show S.q≤S.l+1;omega⟩
  rw [if_neg k5]
  split
  ·
   exact h
  ·
   exact⟨h.r,by show S.n≤S.l+1;omega,hset _ _ ⟨hz.kind,hz.area,hz.grown⟩,h.m,tk1,by show S.q≤S.l+1;omega⟩
 ·
  rw [if_pos c1];exact h
theorem step_cases{S:Sh}{a:Act}(p:Sh×Int×Int→Prop)(hE:∀e:Int,e≠0→p (S,0,e))
  (hL:actB a=true→a.kind=1→p ({S with n:=S.n+1,pl:=appP S.pl S.n (lacP a),l:=S.l+1},S.n,0))
  (hB:actB a=true→a.kind=2→S.m< 8→p ({S with m:=S.m+1,tk:=bathF S.m S.tk a,l:=S.l+1},S.m,0))
  (hG:actB a=true→a.kind=3→(0≤a.plate∧a.plate< S.n)→(0≤a.bath∧a.bath< S.m)→hereE S.r S.n (S.pl a.plate.toNat) a=0→layE S.r (S.pl a.plate.toNat) (S.tk a.bath.toNat) a=0→
   p ({S with n:=S.n+1,pl:=appP (setP S.pl a.plate.toNat (S.pl a.plate.toNat).under) S.n ((S.pl a.plate.toNat).over a.plate (layT (S.pl a.plate.toNat) (S.tk a.bath.toNat) a)),tk:=tkSet S.tk a.bath.toNat ((S.tk a.bath.toNat).used a),l:=S.l+1},S.n,0))
  (hF:actB a=true→a.kind=4→(0≤a.plate∧a.plate< S.n)→(S.pl a.plate.toNat).ret=false→p ({S with q:=S.q+1,g:=appG S.g S.q (a.plate,a.place),pl:=setP S.pl a.plate.toNat ((S.pl a.plate.toNat).addF S.q),l:=S.l+1},S.q,0))
  (hM:actB a=true→a.kind=5→(0≤a.plate∧a.plate< S.n)→(0≤a.flaw∧a.flaw< S.q)→(S.pl a.plate.toNat).ret=false→(S.pl a.plate.toNat).fl a.flaw=true→p ({S with pl:=setP S.pl a.plate.toNat ((S.pl a.plate.toNat).delF a.flaw),l:=S.l+1},0,0))
  (hR:actB a=true→a.kind=6→(0≤a.plate∧a.plate< S.n)→(S.pl a.plate.toNat).ret=false→p ({S with pl:=setP S.pl a.plate.toNat {S.pl a.plate.toNat with ret:=true},l:=S.l+1},0,0)):p (stepS S a):=by
 unfold stepS
 by_cases hv:actB a=false
 ·
  rw [if_pos hv];exact hE 2 (by decide)
 rw [if_neg hv]
 have hv:actB a=true:=by simpa using hv
 by_cases k1:a.kind=1
 ·
  rw [if_pos k1];exact hL hv k1
 rw [if_neg k1]
 by_cases k2:a.kind=2
 ·
  rw [if_pos k2]
  by_cases c:S.m< 8
  ·
   rw [if_pos c];exact hB hv k2 c
  ·
   rw [if_neg c];exact hE 11 (by decide)
 rw [if_neg k2]
 by_cases k3:a.kind=3
 ·
  rw [if_pos k3]
  by_cases c1:0≤a.plate∧a.plate< S.n
  ·
   rw [if_neg (not_not_intro c1)]
   by_cases c2:0≤a.bath∧a.bath< S.m
   ·
    rw [if_neg (not_not_intro c2)]
    by_cases c3:hereE S.r S.n (S.pl a.plate.toNat) a=0
    ·
     rw [if_neg (not_not_intro c3)]
     by_cases c4:layE S.r (S.pl a.plate.toNat) (S.tk a.bath.toNat) a=0
     ·
      rw [if_neg (not_not_intro c4)];exact hG hv k3 c1 c2 c3 c4
     ·
      rw [if_pos c4];exact hE _ c4
    ·
     rw [if_pos c3];exact hE _ c3
   ·
    rw [if_pos c2];exact hE 5 (by decide)
  ·
   rw [if_pos c1];exact hE 5 (by decide)
 rw [if_neg k3]
 by_cases c1:0≤a.plate∧a.plate< S.n
 ·
  rw [if_neg (not_not_intro c1)]
  by_cases k4:a.kind=4
  ·
   rw [if_pos k4]
   by_cases c2:(S.pl a.plate.toNat).ret=true
   ·
    rw [if_pos c2];exact hE 10 (by decide)
   ·
    rw [if_neg c2];exact hF hv k4 c1 (by simpa using c2)
  rw [if_neg k4]
  by_cases k5:a.kind=5
  ·
   rw [if_pos k5]
   by_cases c3:0≤a.flaw∧a.flaw< S.q
   ·
    rw [if_neg (not_not_intro c3)]
    by_cases c2:(S.pl a.plate.toNat).ret=true
    ·
     rw [if_pos c2];exact hE 10 (by decide)
    ·
     rw [if_neg c2]
     by_cases c4:(S.pl a.plate.toNat).fl a.flaw=false
     ·
      rw [if_pos c4];exact hE 19 (by decide)
     ·
      rw [if_neg c4];exact hM hv k5 c1 c3 (by simpa using c2) (by simpa using c4)
   ·
    rw [if_pos c3];exact hE 5 (by decide)
  rw [if_neg k5]
  by_cases c2:(S.pl a.plate.toNat).ret=true
  ·
   rw [if_pos c2];exact hE 10 (by decide)
  ·
   rw [if_neg c2]
   exact hR hv (by simp [actB,k1,k2,k3,k4,k5]at hv;exact hv) c1 (by simpa using c2)
 ·
  rw [if_pos c1];exact hE 5 (by decide)
theorem step_l(S:Sh)(a:Act):(stepS S a).1.l≤S.l+1:=
 step_cases (fun x=>x.1.l≤S.l+1) (fun _ _=>Nat.le_succ _) (fun _ _=>Nat.le_refl _) (fun _ _ _=>Nat.le_refl _) (fun _ _ _ _ _ _=>Nat.le_refl _) (fun _ _ _ _=>Nat.le_refl _) (fun _ _ _ _ _ _=>Nat.le_refl _) (fun _ _ _ _=>Nat.le_refl _)
def flV(p:Pl):V:= .fset false fun k=>match k with | .i n=>p.fl n | .s _=>false
def fsh(S:Sh):V:= .ptr (shC S.r (.sl 1 S.n fun i=>[.ptr ((S.pl i).c++[flV (S.pl i)])]) (.sl 4 S.m fun i=>(S.tk i).c) (.sl 2 S.q (flC S.g)) (.sl 13 S.l anyR))
theorem fz_fam{S:Sh}{σ:Nat→Option Ob}(h:FamAt S nm0 σ):Fz σ (.ref 500 0) (fsh S):=by
 refine Fz.refs (t:=123) (cs:=shC S.r (.own 501) (.own 502) (.own 503) (.own 504)) h.s ?_
 refine FzL.append (FzL.idf (l:= .b true::S.r.c) rfl) ⟨Fz.rows (e:=131) (sz:=1) (r:=fun i=>[.ref (nm0.pl i) 0]) h.p fun i hi=>⟨?_,trivial⟩,Fz.rows (e:=55) (sz:=4) (r:=fun i=>(S.tk i).c) h.t fun i _=>FzL.idf rfl,Fz.rows (e:=149) (sz:=2) (r:=flC S.g) h.f fun i _=>FzL.idf rfl,Fz.rows (e:=40) (sz:=13) (r:=anyR) h.a fun i _=>FzL.idf rfl,trivial⟩
 refine Fz.refs (t:=134) (cs:=(S.pl i).c++[V.own (nm0.mp i)]) (h.pl i hi) (FzL.append (FzL.idf (l:=(S.pl i).c) rfl) ⟨?_,trivial⟩)
 exact .mp _ _ false (setF (S.pl i).fl) _ (h.mp i hi) fun k hk=>by
  cases k with
  |s b=>cases hk
  |i n=>exact setF_isSome _ _
end Go.Proofs.YtjmbpjlojjgggaaGreatDoor

namespace Go.Proofs.YtjmbpjlojjgggaaGreatDoor
open Go.Ab Go.RowKit Go.Dw Go.Shelf
open Classical in
theorem aw_loopD{P:Program}{N:Nat}{C:Cx P N}{Q:Exit→S→Prop}{s:S}{ι:Type}{c:Code}(hd:C.dfs=dp0)(I:ι→S)(ok:ι→Prop)(μ:ι→Nat)(x0:ι)(hx:ok x0)(h0:LeD s (I x0))(round:∀x,ok x→AW C c (XThen (fun s'=>∃y,ok y∧LeD s' (I y)∧μ y< μ x) Q) (I x)):AW C (.loop c) Q s:=by
 intro a w g
 have pr:∃q:Go.Act→World→Nat→Prop,q=fun a' w' n=>∃x,ok x∧μ x=n∧Gm C (I x) a' w'∧Tch C.W w w':=⟨_,rfl⟩
 obtain⟨q,hq⟩:=pr
 have hqi:∀a' w' n,q a' w' n↔∃x,ok x∧μ x=n∧Gm C (I x) a' w'∧Tch C.W w w':=fun a' w' n=>by rw [hq]
 refine wpIn_loop (fun a' w'=>∃n,q a' w' n) (fun a' w'=>if h:∃n,q a' w' n then(least _ h).choose else 0) ⟨μ x0,(hqi _ _ _).2 ⟨x0,hx,rfl,h0 _ _ C a w hd g,Tch.refl _ _⟩⟩ ?_
 rintro a' w' hex
 have hl:=(least _ hex).choose_spec
 obtain⟨x,hok,hμ,g',t'⟩:=(hqi _ _ _).1 hl.1
 refine wpIn_mono (round x hok a' w' g') ?_
 rintro e a'' w'' ⟨s'',r,g'',t''⟩
 cases e with
 |normal=>
  obtain⟨y,hy,hle,hlt⟩:=r
  have hqy:q a'' w'' (μ y):=(hqi _ _ _).2 ⟨y,hy,rfl,hle _ _ C _ _ hd g'',t'.trans t''⟩
  refine⟨⟨μ y,hqy⟩,?_⟩
  rw [dif_pos ⟨μ y,hqy⟩,dif_pos hex]
  have h1:=(least _ ⟨μ y,hqy⟩).choose_spec.2 (μ y) hqy
  omega
 |_=>exact⟨s'',r,g'',t'.trans t''⟩
theorem le_done{tm:Nat→V}{σ:Nat→Option Ob}{nx nxc:Nat}{S S':Sh}{δ:List (Nat×Option Ob)}{tl:List (Nat×V)}(hn:S.n≤200)(hn':S'.n≤200)(hD:DoneAt S S' nxc δ)(hσ:σ=upds (famF S fun _=>none) δ)
  (htm:∀h:Nat→Nat,h 500=500→All (fun p=>tm p.1=p.2.ren h) tl):LeD ⟨tm,σ,nx⟩ ⟨mkT tl,famF S' fun _=>none,1⟩:=by
 subst hσ
 obtain⟨N,h,h1,h2,h3,h4⟩:=hD _ (famF_at hn _)
 obtain⟨h',hh⟩:∃h':Nat→Nat,∀id,h' id=if 500≤id∧id< 1000 then h id else nx*100000+id:=⟨_,fun _=>rfl⟩
 have hr:∀id,500≤id→id< 1000→h' id=h id:=fun id a b=>by rw [hh,if_pos ⟨a,b⟩]
 refine le_fam h' hn' h1 ⟨fun i j hi hi2 hj hj2 he=>h2.inj i j hi hi2 hj hj2 (by rwa [hr i hi oM,hr j hj oM]at he),?_,?_,?_,?_,?_,fun i hi=> ?_,fun i hi=> ?_⟩ (fun id o _ ho=>by cases ho) (fun i j _ hi=>absurd rfl hi) (fun id hid=> ?_) (htm h' (by rw [hr 500 oM oM];exact h2.s))
 ·
  rw [hr 500 oM oM];exact h2.s
 ·
  rw [hr 501 oM oM];exact h2.p
 ·
  rw [hr 502 oM oM];exact h2.t
 ·
  rw [hr 503 oM oM];exact h2.f
 ·
  rw [hr 504 oM oM];exact h2.a
 ·
  rw [hr _ oM oM];exact h2.pl i hi
 ·
  rw [hr _ oM oM];exact h2.mp i hi
 ·
  rw [hh,if_neg oM];omega
theorem le_new{tm:Nat→V}{σ:Nat→Option Ob}{nx s p t f a:Nat}{r:Rc}{tl:List (Nat×V)}(hne:(decide ([s,p,t,f,a].Nodup))=true)(h0:σ s=some (.box 123 (shC r (.own p) (.own t) (.own f) (.own a))))(h1:∃g,σ p=some (.row 131 1 0 g))(h2:∃g,σ t=some (.row 55 4 0 g))(h3:∃g,σ f=some (.row 149 2 0 g))(h4:∃g,σ a=some (.row 40 13 0 g))
  (htm:∀h:Nat→Nat,h 500=s→All (fun p=>tm p.1=p.2.ren h) tl):LeD ⟨tm,σ,nx⟩ ⟨mkT tl,famF (newS r) fun _=>none,1⟩:=by
 have hne:=of_decide_eq_true hne
 simp at hne
 obtain⟨g1,h1⟩:=h1
 obtain⟨g2,h2⟩:=h2
 obtain⟨g3,h3⟩:=h3
 obtain⟨g4,h4⟩:=h4
 obtain⟨h',hh⟩:∃h':Nat→Nat,∀id,h' id=if id=500 then s else if id=501 then p else if id=502 then t else if id=503 then f else if id=504 then a else nx*100000+id:=⟨_,fun _=>rfl⟩
 have hc:∀id o,famF (newS r) (fun _=>none) id=some o→id=500∨id=501∨id=502∨id=503∨id=504:=by
  intro id o ho
  have hz:¬(id- 505) / 2< (newS r).n:=Nat.not_lt_zero _
  unfold famF at ho
  simp only [if_neg hz]at ho
  repeat' split at ho
  all_goals first |omega |cases ho
 have q0:h' 500=s:=by rw [hh];rfl
 have q1:h' 501=p:=by rw [hh];rfl
 have q2:h' 502=t:=by rw [hh];rfl
 have q3:h' 503=f:=by rw [hh];rfl
 have q4:h' 504=a:=by rw [hh];rfl
 refine le_renF h' (fun id o ho=> ?_) (fun i j hi hj he=> ?_) (fun id hid=> ?_) (htm h' q0)
 ·
  have hA:=famF_at (S:=newS r) (Nat.zero_le _) fun _=>none
  rcases hc id o ho with rfl |rfl |rfl |rfl |rfl
  ·
   have:=hA.s;rw [ho]at this;injection this with this;subst this
   refine⟨_,by rw [q0];exact h0,?_⟩
   show ObEq (.box _ _) (.box _ (V.renL h' (shC r (.own 501) (.own 502) (.own 503) (.own 504))))
   rw [show V.renL h' (shC r (.own 501) (.own 502) (.own 503) (.own 504))=shC r (.own (h' 501)) (.own (h' 502)) (.own (h' 503)) (.own (h' 504))from rfl,q1,q2,q3,q4]
   exact⟨rfl,rfl⟩
  ·
   have:=hA.p;rw [show nm0.p=501 from rfl,ho]at this;injection this with this;subst this
   refine⟨_,by rw [q1];exact h1,?_⟩
   exact⟨rfl,rfl,rfl,fun i hi=>absurd hi (Nat.not_lt_zero _)⟩
  ·
   have:=hA.t;rw [show nm0.t=502 from rfl,ho]at this;injection this with this;subst this
   refine⟨_,by rw [q2];exact h2,?_⟩
   exact⟨rfl,rfl,rfl,fun i hi=>absurd hi (Nat.not_lt_zero _)⟩
  ·
   have:=hA.f;rw [show nm0.f=503 from rfl,ho]at this;injection this with this;subst this
   refine⟨_,by rw [q3];exact h3,?_⟩
   exact⟨rfl,rfl,rfl,fun i hi=>absurd hi (Nat.not_lt_zero _)⟩
  ·
   have:=hA.a;rw [show nm0.a=504 from rfl,ho]at this;injection this with this;subst this
   refine⟨_,by rw [q4];exact h4,?_⟩
   exact⟨rfl,rfl,rfl,fun i hi=>absurd hi (Nat.not_lt_zero _)⟩
 ·
  have e:∀i,famF (newS r) (fun _=>none) i≠none→i=500∨i=501∨i=502∨i=503∨i=504:=fun i hi=>by
   cases ho:famF (newS r) (fun _=>none) i with
   |none=>exact absurd ho hi
   |some o=>exact hc i o ho
  rcases e i hi with rfl |rfl |rfl |rfl |rfl <;> rcases e j hj with rfl |rfl |rfl |rfl |rfl <;> first |rfl | (simp only [q0,q1,q2,q3,q4]at he;omega)
 ·
  rw [hh,if_neg oM,if_neg oM,if_neg oM,if_neg oM,if_neg oM];omega
theorem aops_does{P:Program}{N:Nat}{C:Cx P N}{ops:Array Oper}{nx d:Nat}{o:Oper}{os:List Oper}{tm:Nat→V}{σ:Nat→Option Ob}{ks:List (List Nat×List Nat)}{K:(Nat→V)→(Nat→Option Ob)→List (List Nat×List Nat)→Prop}{S S':Sh}{v:V}
  (h:Does P C.W C.LB o (ev tm) nx d S S' v) (hg:o.guard=none) (ho:o.dst=some d) (hF:FamAt S nm0 σ) (hk:∀δ ks',DoneAt S S' nx δ→AOps C ops nx os (upd tm d v) (upds σ δ) ks' K):AOps C ops nx (o::os) tm σ ks K:=by
 obtain⟨pre,nw,δ,hA,hnw,hpre,hD⟩:=h
 refine aops_step hg hA (hpre σ hF) (by rw [ho];exact hnw) ?_
 rw [ho]
 exact hk δ _ hD
end Go.Proofs.YtjmbpjlojjgggaaGreatDoor

namespace Go.Proofs.YtjmbpjlojjgggaaGreatDoor
open Go.Ab Go.RowKit Go.Dw Go.Shelf
structure RestOk(rest:Nat→Option Ob):Prop where
 lo:∀id o,rest id=some o→id< 500
 nm:∀id o,rest id=some o→∀h:Nat→Nat,ObEq o (o.ren h)
theorem famF_lo{S:Sh}{rest:Nat→Option Ob}{id:Nat}(h:id< 500):famF S rest id=rest id:=by unfold famF;rw [if_pos h]
theorem le_done1{tm:Nat→V}{σ rest:Nat→Option Ob}{nx nxc:Nat}{S S':Sh}{δ:List (Nat×Option Ob)}{tl:List (Nat×V)}(hR:RestOk rest)(hx:1≤nxc)(hn:S.n≤200)(hn':S'.n≤200)(hD:DoneAt S S' nxc δ)(hσ:σ=upds (famF S rest) δ)
  (htm:∀h:Nat→Nat,h 500=500→(∀id,id< 500→h id=id)→All (fun p=>tm p.1=p.2.ren h) tl):LeD ⟨tm,σ,nx⟩ ⟨mkT tl,famF S' rest,1⟩:=by
 subst hσ
 obtain⟨N,h,h1,h2,h3,h4⟩:=hD _ (famF_at hn _)
 obtain⟨h',hh⟩:∃h':Nat→Nat,∀id,h' id=if id< 500 then id else if id< 1000 then h id else nx*100000+id:=⟨_,fun _=>rfl⟩
 have hl:∀id,id< 500→h' id=id:=fun id a=>by rw [hh,if_pos a]
 have hr:∀id,500≤id→id< 1000→h' id=h id:=fun id a b=>by rw [hh,if_neg oM,if_pos b]
 refine le_fam h' hn' h1 ⟨fun i j hi hi2 hj hj2 he=>h2.inj i j hi hi2 hj hj2 (by rwa [hr i hi oM,hr j hj oM]at he),?_,?_,?_,?_,?_,fun i hi=> ?_,fun i hi=> ?_⟩ (fun id o _ ho=> ?_) (fun i j hi0 hi he hj=> ?_) (fun id hid=> ?_) (htm h' (by rw [hr 500 oM oM];exact h2.s) hl)
 ·
  rw [hr 500 oM oM];exact h2.s
 ·
  rw [hr 501 oM oM];exact h2.p
 ·
  rw [hr 502 oM oM];exact h2.t
 ·
  rw [hr 503 oM oM];exact h2.f
 ·
  rw [hr 504 oM oM];exact h2.a
 ·
  rw [hr _ oM oM];exact h2.pl i hi
 ·
  rw [hr _ oM oM];exact h2.mp i hi
 ·
  have hid:=hR.lo id o ho
  refine⟨o,?_,hR.nm id o ho h'⟩
  rw [hl id hid,h4 id (.inl hid) oM,famF_lo hid]
  exact ho
 ·
  have hi1:i< 500:=by
   cases ho:rest i with
   |none=>exact absurd ho hi
   |some o=>exact hR.lo i o ho
  rw [hl i hi1]at he
  rcases hj with⟨hj,_⟩ |hj
  ·
   have hj1:j< 500:=by
    cases ho:rest j with
    |none=>exact absurd ho hj
    |some o=>exact hR.lo j o ho
   rw [hl j hj1]at he;exact he
  ·
   rw [hr j hj.1 oM]at he
   have:=h3 j hj.1 oM
   omega
 ·
  rw [hh,if_neg oM,if_neg oM];omega
section
variable {P:Program}{N:Nat}{C:Cx P N}{ops:Array Oper}{nx:Nat}{os:List Oper}{tm:Nat→V}{σ:Nat→Option Ob}{ks:List (List Nat×List Nat)}{K:(Nat→V)→(Nat→Option Ob)→List (List Nat×List Nat)→Prop}{ty:TypeId}{pos:String}{af:Array Edge}
theorem aops_readO{d:Nat}{fo:Operand}{ar:Array Operand}{ats:Array TypeId}{f:FuncId}{first caps args args':List V}{v v':V}{obs:List Ob}{δ:List (Nat×Option Ob)}(pre:List (Nat×Ob))(hc:AC P f args' v obs)(hf:ev tm fo= .fn (.func f) first caps)
  (hargs:first++ar.toList.map (ev tm)++caps=args) (hfz:FzL (preF pre) args args') (hd:decide (d< 1000)=true) (hv:v.flatPT (List.range obs.length)=true) (hC:∀o∈obs,o.isC) (hob:decide (obs.length≤90)=true) (hvr:v.ren (callG nx (some d))=v') (hδ:callD (callG nx (some d)) 0 obs=δ) (hp:∀p∈pre,σ p.1=some p.2)
  (hk:AOps C ops nx os (upd tm d v') (upds σ δ) (ks++[(keysD δ,keysP pre++keysD δ)]) K):AOps C ops nx (⟨some d,.call {callee:= .value fo,args:=ar,argTypes:=ats},ty,pos,af,none⟩::os) tm σ ks K:=by
 obtain⟨hl,hfz⟩:=hfz.get
 subst hvr hδ
 have hd1:=of_decide_eq_true hd
 exact aops_step rfl (as_callF (P:=P) (W:=C.W) (LB:=C.LB) (d:=some d) (ty:=ty) (pos:=pos) (af:=af) (gd:=none) (ats:=ats) hc hf hargs pre hl hfz hv hC nx (by simpa using hd) (of_decide_eq_true hob)) hp (nwOk_calls hd1 (of_decide_eq_true hob)) hk
end
end Go.Proofs.YtjmbpjlojjgggaaGreatDoor

namespace Go.Proofs.YtjmbpjlojjgggaaGreatDoor
open Go.Ab Go.RowKit Go.Dw Go.Shelf
theorem preF_of{pre:List (Nat×Ob)}{F:Nat→Option Ob}(hF:∀p∈pre,F p.1=some p.2){id:Nat}{o:Ob}(h:(id,o)∈pre):preF pre id=some o:=by
 unfold preF
 cases hf:pre.find? (·.1 == id)with
 |none=>
  rw [List.find?_eq_none]at hf
  have:=hf _ h
  simp at this
 |some p=>
  have h1:=List.find?_some hf
  have h2:=hF p (List.mem_of_find?_eq_some hf)
  have h3:=hF _ h
  simp only [beq_iff_eq]at h1
  rw [h1]at h2
  simp only at h3
  rw [h3]at h2
  injection h2 with h2
  rw [h2];rfl
def famL(S:Sh):List (Nat×Ob):=[(500,shopO S nm0),(501,rowO S nm0),(502,tankO S),(503,flawO S),(504,actO S)]++(List.range S.n).flatMap fun i=>[(505+2*i,plO S nm0 i),(506+2*i,mapO S i)]
theorem famL_mem{S:Sh}{σ:Nat→Option Ob}(h:FamAt S nm0 σ):∀p∈famL S,σ p.1=some p.2:=by
 intro p hp
 unfold famL at hp
 rcases List.mem_append.1 hp with hp |hp
 ·
  simp at hp
  rcases hp with h' |h' |h' |h' |h' <;> subst h'
  ·
   exact h.s
  ·
   exact h.p
  ·
   exact h.t
  ·
   exact h.f
  ·
   exact h.a
 ·
  rw [List.mem_flatMap]at hp
  obtain⟨i,hi,hp⟩:=hp
  have hi:i< S.n:=by simpa using hi
  simp at hp
  rcases hp with h' |h' <;> subst h'
  ·
   exact h.pl i hi
  ·
   exact h.mp i hi
theorem famL_at{S:Sh}(hn:S.n≤200):FamAt S nm0 (preF (famL S)):=by
 have hF:=famL_mem (famF_at hn fun _=>none)
 have hb:∀i,i< S.n→(505+2*i,plO S nm0 i)∈famL S∧(506+2*i,mapO S i)∈famL S:=fun i hi=>by
  have:∀p,p∈[(505+2*i,plO S nm0 i),(506+2*i,mapO S i)]→p∈famL S:=fun p hp=>List.mem_append_right _ (List.mem_flatMap.2 ⟨i,by simpa using hi,hp⟩)
  exact⟨this _ (by simp),this _ (by simp)⟩
 exact⟨preF_of hF (by simp [famL]),preF_of (id:=501) hF (by simp [famL]),preF_of (id:=502) hF (by simp [famL]),preF_of (id:=503) hF (by simp [famL]),preF_of (id:=504) hF (by simp [famL]),fun i hi=>preF_of hF (hb i hi).1,fun i hi=>preF_of hF (hb i hi).2⟩
theorem fz_famL{S:Sh}(hn:S.n≤200):Fz (preF (famL S)) (.ref 500 0) (fsh S):=fz_fam (famL_at hn)
theorem FamAt.upd{S:Sh}{σ:Nat→Option Ob}(h:FamAt S nm0 σ)(hn:S.n≤200){k:Nat}(hk:k< 500∨1000≤k)(o:Option Ob):FamAt S nm0 (Ab.upd σ k o):=by
 refine⟨?_,?_,?_,?_,?_,fun i hi=> ?_,fun i hi=> ?_⟩
 ·
  rw [upd_ne _ _ oM];exact h.s
 ·
  rw [upd_ne _ _ (by show(501:Nat)≠k;omega)];exact h.p
 ·
  rw [upd_ne _ _ (by show(502:Nat)≠k;omega)];exact h.t
 ·
  rw [upd_ne _ _ (by show(503:Nat)≠k;omega)];exact h.f
 ·
  rw [upd_ne _ _ (by show(504:Nat)≠k;omega)];exact h.a
 ·
  rw [upd_ne _ _ (by show 505+2*i≠k;omega)];exact h.pl i hi
 ·
  rw [upd_ne _ _ (by show 506+2*i≠k;omega)];exact h.mp i hi
theorem FamAt.upds{S:Sh}(hn:S.n≤200):∀ {δ:List (Nat×Option Ob)}{σ:Nat→Option Ob},FamAt S nm0 σ→(∀p∈δ,p.1< 500∨1000≤p.1)→FamAt S nm0 (Ab.upds σ δ)
 | [],_,h,_=>h
 | (k,o)::δ,σ,h,hk=>FamAt.upds hn (δ:=δ) (h.upd hn (hk (k,o) (by simp)) o) fun p hp=>hk p (by simp [hp])
theorem le_beside{tm:Nat→V}{σ rest:Nat→Option Ob}{nx:Nat}{S:Sh}{δ:List (Nat×Option Ob)}{tl:List (Nat×V)}(gl:List (Nat×Nat))(hn:S.n≤200)(hσ:σ=Ab.upds (famF S rest) δ)(hδ:δ.all (fun p=>decide (p.1< 500∨1000≤p.1))=true)(sl:List (Nat×Ob))
  (hsl:All (fun p=>p.1< 500∧(lookG gl nx p.1< 500∨1000≤lookG gl nx p.1)∧∃ob,σ (lookG gl nx p.1)=some ob∧∀h:Nat→Nat,ObEq ob (p.2.ren h)) sl) (hnd:((sl.map fun p=>lookG gl nx p.1).Nodup)) (hgl:gl.all (fun p=>decide (p.1< 500))=true)
  (htm:∀h:Nat→Nat,h 500=500→(∀id,id< 500→h id=lookG gl nx id)→All (fun p=>tm p.1=p.2.ren h) tl):LeD ⟨tm,σ,nx⟩ ⟨mkT tl,famF S (mkS sl),1⟩:=by
 have hF:FamAt S nm0 σ:=by
  rw [hσ]
  exact FamAt.upds hn (famF_at hn _) fun p hp=>by have:=List.all_eq_true.1 hδ p hp;simpa using this
 have hmem:∀id o,mkS sl id=some o→(id,o)∈sl:=by
  intro id o
  clear hsl hnd
  induction sl with
  |nil=>intro h;cases h
  |cons p sl ih=>
   intro h
   have h:Ab.upd (mkS sl) p.1 (some p.2) id=some o:=h
   by_cases e:id=p.1
   ·
    rw [e,upd_same]at h;injection h with h;rw [e,←h];simp
   ·
    rw [upd_ne _ _ e]at h;exact List.mem_cons_of_mem _ (ih h)
 have hlo:∀id o,mkS sl id=some o→id< 500∧(lookG gl nx id< 500∨1000≤lookG gl nx id)∧∃ob,σ (lookG gl nx id)=some ob∧∀h:Nat→Nat,ObEq ob (o.ren h):=fun id o h=>hsl.mem _ (hmem id o h)
 obtain⟨h',hh⟩:∃h':Nat→Nat,∀id,h' id=if id< 500 then lookG gl nx id else if id< 1000 then id else nx*100000+id:=⟨_,fun _=>rfl⟩
 have hl:∀id,id< 500→h' id=lookG gl nx id:=fun id a=>by rw [hh,if_pos a]
 have hr:∀id,500≤id→id< 1000→h' id=id:=fun id a b=>by rw [hh,if_neg oM,if_pos b]
 refine le_fam h' hn hF ⟨fun i j hi hi2 hj hj2 he=>by rwa [hr i hi oM,hr j hj oM]at he,hr _ oM oM,hr _ oM oM,hr _ oM oM,hr _ oM oM,hr _ oM oM,fun i hi=>hr _ oM oM,fun i hi=>hr _ oM oM⟩ (fun id o _ ho=> ?_) (fun i j _ hi he hj=> ?_) (fun id hid=> ?_) (htm h' (hr 500 oM oM) hl)
 ·
  obtain⟨h1,_,ob,h2,h3⟩:=hlo id o ho
  exact⟨ob,by rw [hl id h1];exact h2,h3 h'⟩
 ·
  cases hoi:mkS sl i with
  |none=>exact absurd hoi hi
  |some o=>
   obtain⟨i1,i2,_⟩:=hlo i o hoi
   rw [hl i i1]at he
   rcases hj with⟨hj,_⟩ |hj
   ·
    cases hoj:mkS sl j with
    |none=>exact absurd hoj hj
    |some o'=>
     obtain⟨j1,_⟩:=hlo j o' hoj
     rw [hl j j1]at he
     obtain⟨a,ha,hae⟩:=List.getElem_of_mem (hmem i o hoi)
     obtain⟨b,hb,hbe⟩:=List.getElem_of_mem (hmem j o' hoj)
     have hab:a=b:=nodup_inj hnd (by simpa using ha) (by simp [ha,hb,hae,hbe,he])
     subst hab
     rw [hae]at hbe
     injection hbe
   ·
    rw [hr j hj.1 oM]at he
    omega
 ·
  rw [hh,if_neg oM,if_neg oM];omega
end Go.Proofs.YtjmbpjlojjgggaaGreatDoor

namespace Go.Proofs.YtjmbpjlojjgggaaGreatDoor
open Go.Ab Go.RowKit Go.Dw Go.Shelf
def skR:Rc:=⟨0,0,0,0,0,1073741824,1073741824,1073741824,0,0,1048576,1,1⟩
theorem skR_ok:skR.ok:=⟨by decide,by decide,by decide,by decide,by decide,by decide,by decide,by decide⟩
def skLac(k ar:Int):Act:=⟨1,k,ar,0,0,0,0,0,0,0,0,0,0⟩
def skBath(st y:Int):Act:=⟨2,0,0,st,y,0,0,0,0,0,0,0,0⟩
def skGrow(pl cu se:Int):Act:=⟨3,0,0,0,0,pl,0,0,0,cu,se,0,0⟩
structure Stk where
 S:Sh
 aa:List Int
 tt:List Int
 sp:Int
structure SkOk(x:Stk)(st y mm:Int)(k:Nat):Prop where
 ok:x.S.ok
 l:x.S.l≤1+2*k
 n:x.S.n≤2*k
 r:x.S.r=skR
 m:x.S.m=1
 tk:(x.S.tk 0).stock=st- x.sp∧(x.S.tk 0).laid=x.sp∧(x.S.tk 0).yield=y
 sp:0≤x.sp∧x.sp≤st
 len:x.tt.length=x.aa.length
 al:x.aa.length≤k
 th:∀i,i< x.aa.length→gi x.tt i=(1000*mm).tdiv (gi x.aa i)∧1≤gi x.aa i∧gi x.aa i≤1048576
theorem betB_true{x lo hi:Int}(h:lo≤x∧x≤hi):betB x lo hi=true:=by simp [betB,h.1,h.2]
theorem skLac_step(S:Sh){k ar:Int}(hk:0≤k∧k≤1099511627776)(ha:1≤ar∧ar≤1048576):stepS S (skLac k ar)=({S with n:=S.n+1,pl:=appP S.pl S.n (lacP (skLac k ar)),l:=S.l+1},(S.n:Int),0):=by
 have hB:actB (skLac k ar)=true:=by
  show(if(1:Int)=1 then betB k 0 1099511627776 && betB ar 1 1048576 else _)=true
  rw [if_pos rfl,betB_true hk,betB_true ha];rfl
 unfold stepS
 rw [if_neg (by rw [hB];simp),if_pos (show(skLac k ar).kind=1 from rfl)]
theorem skBath_step(S:Sh)(hm:S.m< 8){st y:Int}(hs:0≤st∧st≤1099511627776)(hy:1≤y∧y≤1000):stepS S (skBath st y)=({S with m:=S.m+1,tk:=bathF S.m S.tk (skBath st y),l:=S.l+1},(S.m:Int),0):=by
 have hB:actB (skBath st y)=true:=by
  show(if(2:Int)=1 then _ else if(2:Int)=2 then betB st 0 1099511627776 && betB y 1 1000 else _)=true
  rw [if_neg (by decide),if_pos rfl,betB_true hs,betB_true hy];rfl
 unfold stepS
 rw [if_neg (by rw [hB];simp),if_neg (show ¬(skBath st y).kind=1 by show ¬(2:Int)=1;decide),if_pos (show(skBath st y).kind=2 from rfl),if_pos hm]
theorem skGrow_kind{pl cu se:Int}(hc:0≤cu∧cu≤1048576)(hs:0≤se∧se≤1048576):actB (skGrow pl cu se)=true:=by
 show(if(3:Int)=1 then _ else if(3:Int)=2 then _ else if(3:Int)=3 then betB 0 0 1048576 && (betB 0 0 1048576 && (betB cu 0 1048576 && betB se 0 1048576))else _)=true
 rw [if_neg (by decide),if_neg (by decide),if_pos rfl,betB_true hc,betB_true hs];rfl
def skM(cu se y:Int):Int:=(cu*se*y).tdiv 1000
theorem skGrow_me(pl cu se y:Int):gMe y (skGrow pl cu se)=skM cu se y:=by
 show(0*0*y).tdiv 1000+(cu*se*y).tdiv 1000=_
 rw [show(0:Int)*0*y=0 by simp]
 show 0+_=_
 rw [Int.zero_add];rfl
theorem skGrow_step{x:Stk}{st y:Int}{k:Nat}{ar cu se:Int}(h:SkOk x st y (skM cu se y) k)(hk2:k≤20)(ha:1≤ar∧ar≤1048576)(hc:0≤cu∧cu≤1048576)(hs:0≤se∧se≤1048576) :
  ∀S1,S1=(stepS x.S (skLac k ar)).1→
  ((stepS S1 (skGrow x.S.n cu se)).2.2≠0∧(stepS S1 (skGrow x.S.n cu se)).1=S1)∨
  ((stepS S1 (skGrow x.S.n cu se)).2=((x.S.n:Int)+1,0)∧skM cu se y≤st- x.sp∧(stepS S1 (skGrow x.S.n cu se)).1.n=x.S.n+2∧(stepS S1 (skGrow x.S.n cu se)).1.r=skR∧(stepS S1 (skGrow x.S.n cu se)).1.m=1∧(stepS S1 (skGrow x.S.n cu se)).1.l=x.S.l+2∧
   ((stepS S1 (skGrow x.S.n cu se)).1.tk 0).stock=st- (x.sp+skM cu se y)∧((stepS S1 (skGrow x.S.n cu se)).1.tk 0).laid=x.sp+skM cu se y∧((stepS S1 (skGrow x.S.n cu se)).1.tk 0).yield=y∧
   ((stepS S1 (skGrow x.S.n cu se)).1.pl (x.S.n+1)).cut=k∧((stepS S1 (skGrow x.S.n cu se)).1.pl (x.S.n+1)).area=ar∧((stepS S1 (skGrow x.S.n cu se)).1.pl (x.S.n+1)).thick=(1000*skM cu se y).tdiv ar):=by
 intro S1 hS1
 rw [skLac_step x.S (k:=(k:Int)) oM ha]at hS1
 have n1:S1.n=x.S.n+1:=by rw [hS1]
 have r1:S1.r=skR:=by rw [hS1];exact h.r
 have m1:S1.m=1:=by rw [hS1];exact h.m
 have l1:S1.l=x.S.l+1:=by rw [hS1]
 have t1:S1.tk=x.S.tk:=by rw [hS1]
 have p1:S1.pl x.S.n=lacP (skLac k ar):=by
  rw [hS1];show appP x.S.pl x.S.n _ x.S.n=_
  unfold appP;rw [if_neg oM]
 clear hS1
 have hB:=skGrow_kind (pl:=x.S.n) hc hs
 have e:stepS S1 (skGrow x.S.n cu se)=if hereE S1.r S1.n (S1.pl x.S.n) (skGrow x.S.n cu se)≠0 then(S1,0,hereE S1.r S1.n (S1.pl x.S.n) (skGrow x.S.n cu se))
   else if layE S1.r (S1.pl x.S.n) (S1.tk 0) (skGrow x.S.n cu se)≠0 then(S1,0,layE S1.r (S1.pl x.S.n) (S1.tk 0) (skGrow x.S.n cu se))
   else({S1 with n:=S1.n+1,pl:=appP (setP S1.pl x.S.n (S1.pl x.S.n).under) S1.n ((S1.pl x.S.n).over x.S.n (layT (S1.pl x.S.n) (S1.tk 0) (skGrow x.S.n cu se))),tk:=tkSet S1.tk 0 ((S1.tk 0).used (skGrow x.S.n cu se)),l:=S1.l+1},(S1.n:Int),0):=by
  unfold stepS
  rw [if_neg (by rw [hB];simp),if_neg (show ¬(skGrow x.S.n cu se).kind=1 by show ¬(3:Int)=1;decide),if_neg (show ¬(skGrow x.S.n cu se).kind=2 by show ¬(3:Int)=2;decide),if_pos (show(skGrow x.S.n cu se).kind=3 from rfl),
   if_neg (not_not_intro (show 0≤(skGrow x.S.n cu se).plate∧(skGrow x.S.n cu se).plate< S1.n by show 0≤(x.S.n:Int)∧(x.S.n:Int)< S1.n;omega)),if_neg (not_not_intro (show 0≤(skGrow x.S.n cu se).bath∧(skGrow x.S.n cu se).bath< S1.m by show 0≤(0:Int)∧(0:Int)< S1.m;omega))]
  rfl
 rw [e]
 by_cases c1:hereE S1.r S1.n (S1.pl x.S.n) (skGrow x.S.n cu se)≠0
 ·
  rw [if_pos c1];exact .inl ⟨c1,rfl⟩
 rw [if_neg c1]
 by_cases c2:layE S1.r (S1.pl x.S.n) (S1.tk 0) (skGrow x.S.n cu se)≠0
 ·
  rw [if_pos c2];exact .inl ⟨c2,rfl⟩
 rw [if_neg c2]
 have hty:(S1.tk 0).yield=y:=by rw [t1];exact h.tk.2.2
 have hme:gMe (S1.tk 0).yield (skGrow x.S.n cu se)=skM cu se y:=by rw [hty];exact skGrow_me _ _ _ _
 have hlay:layT (S1.pl x.S.n) (S1.tk 0) (skGrow x.S.n cu se)=(1000*skM cu se y).tdiv ar:=by
  unfold layT;rw [hme,p1];rfl
 have hst:skM cu se y≤st- x.sp:=by
  have c2':layE S1.r (S1.pl x.S.n) (S1.tk 0) (skGrow x.S.n cu se)=0:=by simpa using c2
  unfold layE at c2'
  split at c2'
  ·
   cases c2'
  ·
   split at c2'
   ·
    cases c2'
   ·
    rename_i _ h3
    rw [hme,t1,h.tk.1]at h3;omega
 have tk1:(tkSet S1.tk 0 ((S1.tk 0).used (skGrow x.S.n cu se))) 0=(S1.tk 0).used (skGrow x.S.n cu se):=by unfold tkSet;rw [if_pos rfl]
 have pl1:appP (setP S1.pl x.S.n (S1.pl x.S.n).under) S1.n ((S1.pl x.S.n).over x.S.n (layT (S1.pl x.S.n) (S1.tk 0) (skGrow x.S.n cu se))) (x.S.n+1)=(S1.pl x.S.n).over x.S.n (layT (S1.pl x.S.n) (S1.tk 0) (skGrow x.S.n cu se)):=by unfold appP;rw [if_neg oM]
 refine .inr ⟨by show((S1.n:Int),(0:Int))=_;rw [n1];rfl,hst,by show S1.n+1=_;omega,r1,m1,by show S1.l+1=_;omega,?_,?_,?_,?_,?_,?_⟩
 ·
  show((tkSet S1.tk 0 ((S1.tk 0).used (skGrow x.S.n cu se))) 0).stock=_
  rw [tk1]
  show(S1.tk 0).stock- gMe (S1.tk 0).yield (skGrow x.S.n cu se)=_
  rw [hme,t1,h.tk.1];omega
 ·
  show((tkSet S1.tk 0 ((S1.tk 0).used (skGrow x.S.n cu se))) 0).laid=_
  rw [tk1]
  show(S1.tk 0).laid+gMe (S1.tk 0).yield (skGrow x.S.n cu se)=_
  rw [hme,t1,h.tk.2.1]
 ·
  show((tkSet S1.tk 0 ((S1.tk 0).used (skGrow x.S.n cu se))) 0).yield=_
  rw [tk1];exact hty
 ·
  show(appP _ _ _ _).cut=_
  rw [pl1,p1];rfl
 ·
  show(appP _ _ _ _).area=_
  rw [pl1,p1];rfl
 ·
  show(appP _ _ _ _).thick=_
  rw [pl1];exact hlay
theorem sk_mono{a b M:Int}(hM:0≤M)(hb:1≤b)(h:b< a):M.tdiv a≤M.tdiv b:=by
 rw [Int.tdiv_eq_ediv_of_nonneg hM,Int.tdiv_eq_ediv_of_nonneg hM]
 refine(Int.le_ediv_iff_mul_le oM).2 ?_
 have h1:0≤M / a:=Int.ediv_nonneg hM oM
 have h2:=Int.ediv_mul_le M (b:=a) oM
 have h3:M / a*b≤M / a*a:=Int.mul_le_mul_of_nonneg_left oM h1
 omega
def wdF(l:List Pt):Nat→Int
 |0=>1
 |k+1=>max (wdF l k) ((gp l k).2- (gp l k).1)
theorem wdF_bd{l:List Pt}{B:Int}(hB:1≤B)(h:∀k,k< l.length→(gp l k).2- (gp l k).1≤B):∀k,k≤l.length→1≤wdF l k∧wdF l k≤B
 |0,_=>⟨Int.le_refl _,hB⟩
 |k+1,hk=>by
  have:=wdF_bd hB h k oM
  have:=h k oM
  show 1≤max _ _∧max _ _≤B
  omega
end Go.Proofs.YtjmbpjlojjgggaaGreatDoor
