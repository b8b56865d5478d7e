/-
  Several texts in one: The fault of a groove: the walks of the reference. Conditions: told in each theorem. .. The small examples of the layers up to 4, run by the machine. No condition.
-/
import Derived.Test.YtjmbpjlojjgggaaGreatDoorX09
import Derived.Test.YtjmbpjlojjgggaaGreatDoorAbs42
import Derived.Test.YtjmbpjlojjgggaaGreatDoorX00
import Derived.Test.YtjmbpjlojjgggaaGreatDoorX01
import Derived.Test.YtjmbpjlojjgggaaGreatDoorX04
import Derived.Test.YtjmbpjlojjgggaaGreatDoorX02
import Derived.Test.YtjmbpjlojjgggaaGreatDoorMC
set_option maxRecDepth 100000
namespace Go.Proofs.YtjmbpjlojjgggaaGreatDoor
open Go.Ab Go.RowKit Go.Dw Go.Shelf
theorem cG.int{a b:Int}(h:a=b):cG (V.i a) (V.i b):=by subst h;exact cG.refl _
theorem xE{l:List Pt}{i:Nat}(h:¬(0< i/\i+1< l.length)):cU (nb l i) (gp l i) (na l i)=0:=by
 by_cases h1:0< i;·rw [na,if_neg fun h2=>h ⟨h1,h2⟩];cases nb l i <;> rfl
 ·rw [nb,if_neg h1];rfl
def gU(per:Int):Int:=if aB per 1 65536 then 0 else 3
theorem tE{per:Int}:gU per=0<->1<=per/\per<=65536:=by unfold gU;cases h:aB per 1 65536 <;> simp [aB]at h ⊢ <;> omega
theorem HX(per:Int):gU per=0\/gU per=3:=by unfold gU;split <;> simp
theorem D5{r per:Int}:yN r per=if aB r 0 4194304 then gU per else 3:=by unfold yN gU;cases aB r 0 4194304 <;> simp
structure iN(p:Int->Bool)(M F:Int):Prop where
 b:0<=F/\F<=M
 lo:∀n,0<=n->n< F->p n=false
 hi:∀n,F<=n->n< M->p n=true
theorem Ac{p:Int->Bool}{M:Int}(hM:0<=M)(hm:∀m n,0<=m->m<=n->n< M->p m=true->p n=true):∃F,iN p M F:=by
 have key:∀k:Nat,(k:Int)<=M->∃F,(0<=F/\F<=(k:Int))/\(∀n,0<=n->n< F->p n=false)/\∀n,F<=n->n< (k:Int)->p n=true:=by
  intro k;induction k with
  |zero=>exact fun _=>⟨0,by omega,fun n h1 h2=>by omega,fun n h1 h2=>by omega⟩
  |succ k ih=>
   intro hk;obtain⟨F,h1,h2,h3⟩:=ih oM;cases hp:p k with
   |true=>
    refine⟨F,by omega,h2,fun n a b=> ?_⟩;by_cases he:n=k;·subst he;exact hp
    ·exact h3 n a oM
   |false=>
    refine⟨(k:Int)+1,by omega,fun n a b=> ?_,fun n a b=>by omega⟩;cases hn:p n with
    |false=>rfl
    |true=>have:=hm n k a oM oM hn;rw [hp]at this;cases this
 obtain⟨F,h1,h2,h3⟩:=key M.toNat oM;exact⟨F,by omega,h2,fun n a b=>h3 n a oM⟩
theorem iN.eq{p:Int->Bool}{M F G:Int}(h:iN p M F)(k:iN p M G):F=G:=by
 rcases Int.lt_trichotomy F G with hl |hl |hl;·have a:=h.hi F (Int.le_refl _) (by have:=k.b;omega);have b:=k.lo F h.b.1 hl;rw [a]at b;cases b
 ·exact hl
 ·have a:=k.hi G (Int.le_refl _) (by have:=h.b;omega);have b:=h.lo G k.b.1 hl;rw [a]at b;cases b
def gW(c:Cut)(l:List Pt)(per r:Int):Bool:=decide ((fG c l r per).2=0)
abbrev TB(k:Nat):Ob:= .box 136 [.ref k 0]
theorem FT(c:Cut)(l:List Pt)(r per:Int)(hc:bX c=0)(hl:gF l=0)(hp:tT r per):AM Tryz.prog 68 [.ref 500 0] [Cz c l r per] (.tup [.i (fG c l r per).1,.i (fG c l r per).2]) [some (Cz c l r per)] []:= AC.box (P:=Tryz.prog) (FR c l r per hc hl hp) 216 kR kR kR kR
abbrev L3(k:Nat):Ob:= .box 29 [.fn (.func 67) [] [.ref k 0]]
abbrev Pz(a b:Nat):Ob:= .box 161 [.fn (.func 112) [] [.ref a 0,.ref b 0]]
theorem Ee(c:Cut)(l:List Pt)(r per:Int)(hc:bX c=0)(hl:gF l=0)(hp:tT r per) : AM Tryz.prog 67 [.ref 500 0] [TB 501,Cz c l r per] (.b (gW c l per r)) [some (TB 501),some (Cz c l r per)] []:=by refine aG ah bK (fn:=Tryz.f67) (N:=_) ⟨Tryz.func67,rfl,Tryz.ntmps67,kR⟩ (by simp) rfl (by simp) (by simp) fun C hF=> ?_;refine sK fun K hK=>wR 2 ?_;refine aY ah 1 [] ?_;refine nK hK ?_;clear hK K;refine sK fun K hK=>wR 3 ?_;refine aY ah 1 [(0,.c ((0:Nat)<=(1:Nat)) oM)] ?_;refine bl [501] (first:=[]) (caps:=[]) (ins':=[Ob.box 216 [V.i (Cut.half c),V.i (Cut.gain c),V.i (Cut.thin c),V.i (Cut.wide c),V.i (Cut.slope c),V.i (Cut.jerk c),V.i (Cut.sty c),V.sl 2 (List.length l) fun(k:Nat)=>[V.i (Prod.fst (gp l k)),V.i (Prod.snd (gp l k))],V.i r,V.i per]]) (v':=V.tup [V.i (Prod.fst (fG c l r per)),V.i (Prod.snd (fG c l r per))]) (δ:=[]) (kp:=[501]) (FT c l r per hc hl hp) kR kR kR kR kR kR kR rfl kR kR ⟨kR,tI⟩ kR kR kR ?_;refine aY ah 5 [] ?_;refine nK hK ?_;clear hK K;refine sK fun K hK=>wR 4 ?_;refine aY ah 3 [] ?_;refine nK hK ?_;clear hK K;refine ak ?_;refine cC (v':=V.b (decide (Prod.snd (fG c l r per)=0))) [] [(1,V.b (decide (Prod.snd (fG c l r per)=0)))] (.inr rfl) (.cons kR .nil) (.cons oS (.cons oS .nil)) kR kR kR kR kR kR kR
theorem Ap(c:Cut)(l:List Pt)(r r' per:Int)(hc:bX c=0)(hl:gF l=0)(hp:tT r' per) : AM Tryz.prog 112 [.i r',.ref 500 0,.ref 501 0] [TB 502,L3 503,Cz c l r per,TB 502] (.b (gW c l per r')) [some (TB 502),some (L3 503),some (Cz c l r' per),some (TB 502)] []:=by refine aG ah bK (fn:=Tryz.f112) (N:=_) ⟨Tryz.func112,rfl,Tryz.ntmps112,kR⟩ (by simp) rfl (by simp) (by simp) fun C hF=> ?_;refine sK fun K hK=>wR 2 ?_;refine aY ah 1 [] ?_;refine nK hK ?_;clear hK K;refine sK fun K hK=>wR 3 ?_;refine aY ah 5 [(0,.c ((0:Nat)<=(1:Nat)) oM),(3,.c ((8:Nat)+(1:Nat)<=(10:Nat)) oM)] ?_;refine nK hK ?_;clear hK K;refine sK fun K hK=>wR 4 ?_;refine aY ah 1 [(0,.c ((0:Nat)<=(1:Nat)) oM)] ?_;refine bl [503,502] (first:=[]) (caps:=[V.ref 503 0]) (ins':=[Ob.box 136 [V.ref 502 0],Ob.box 216 [V.i (Cut.half c),V.i (Cut.gain c),V.i (Cut.thin c),V.i (Cut.wide c),V.i (Cut.slope c),V.i (Cut.jerk c),V.i (Cut.sty c),V.sl 2 (List.length l) fun(k:Nat)=>[V.i (Prod.fst (gp l k)),V.i (Prod.snd (gp l k))],V.i r',V.i per]]) (v':=V.b (gW c l per r')) (δ:=[]) (kp:=[503,502]) (Ee c l r' per hc hl hp) kR kR kR kR kR kR kR rfl kR kR ⟨kR,⟨kR,tI⟩⟩ kR kR kR ?_;refine aY ah 1 [] ?_;refine nK hK ?_;clear hK K;refine ak ?_;refine cC (v':=V.b (gW c l per r')) [] [(4,V.b (gW c l per r'))] (.inr rfl) (.cons kR .nil) (.cons oS (.cons oS (.cons oS (.cons oS .nil)))) kR kR kR kR kR kR kR
theorem z9(c:Cut)(l:List Pt)(r r' per:Int)(hc:bX c=0)(hl:gF l=0)(hp:tT r' per) : AM Tryz.prog 149 [.i r',.ref 500 0] [Pz 501 502,TB 503,L3 504,Cz c l r per,TB 503] (.b (gW c l per r')) [some (Pz 501 502),some (TB 503),some (L3 504),some (Cz c l r' per),some (TB 503)] []:=by refine aG ah bK (fn:=Tryz.f149) (N:=_) ⟨Tryz.func149,rfl,Tryz.ntmps149,kR⟩ (by simp) rfl (by simp) (by simp) fun C hF=> ?_;refine sK fun K hK=>wR 2 ?_;refine aY ah 1 [] ?_;refine nK hK ?_;clear hK K;refine sK fun K hK=>wR 3 ?_;refine aY ah 2 [(0,.c ((0:Nat)<=(1:Nat)) oM)] ?_;refine dY [501,502,503,504] (first:=[]) (caps:=[V.ref 501 0,V.ref 502 0]) (ins':=[Ob.box 136 [V.ref 503 0],Ob.box 29 [V.fn (Fn.func (67:Nat)) [] [V.ref 504 0]],Ob.box 216 [V.i (Cut.half c),V.i (Cut.gain c),V.i (Cut.thin c),V.i (Cut.wide c),V.i (Cut.slope c),V.i (Cut.jerk c),V.i (Cut.sty c),V.sl 2 (List.length l) fun(k:Nat)=>[V.i (Prod.fst (gp l k)),V.i (Prod.snd (gp l k))],V.i r,V.i per],Ob.box 136 [V.ref 503 0]]) (v':=V.b (gW c l per r')) (δ:=[(501,Option.some (Ob.box 136 [V.ref 503 0])),(502,Option.some (Ob.box 29 [V.fn (Fn.func (67:Nat)) [] [V.ref 504 0]])),(503,Option.some (Ob.box 216 [V.i (Cut.half c),V.i (Cut.gain c),V.i (Cut.thin c),V.i (Cut.wide c),V.i (Cut.slope c),V.i (Cut.jerk c),V.i (Cut.sty c),V.sl 2 (List.length l) fun(k:Nat)=>[V.i (Prod.fst (gp l k)),V.i (Prod.snd (gp l k))],V.i r',V.i per])),(504,Option.some (Ob.box 136 [V.ref 503 0]))]) (kp:=[501,502,503,504]) (Ap c l r r' per hc hl hp) kR kR kR kR kR kR rfl rfl kR (.box kR kR (.box kR kR (.box kR kR (.box kR kR .nil)))) kR kR kR ?_;refine aY ah 1 [] ?_;refine nK hK ?_;clear hK K;refine ak ?_;refine cC (v':=V.b (gW c l per r')) [] [(3,V.b (gW c l per r'))] (.inr rfl) (.cons kR .nil) (.cons oS (.cons oS (.cons oS (.cons oS (.cons oS .nil))))) kR kR kR kR kR kR kR
abbrev lJ:V:=V.fn (Fn.func (112:Nat)) [] [V.ref 501 0,V.ref 502 0]
abbrev LC:Prop:=(0:Nat)<=(1:Nat)
theorem Nf:LC:=oM
abbrev lI(l:List Pt):V:=V.sl 2 (List.length l) fun(k:Nat)=>[V.i (Prod.fst (gp l k)),V.i (Prod.snd (gp l k))]
abbrev pV:Ob:=Ob.box 29 [V.fn (Fn.func (67:Nat)) [] [V.ref 504 0]]
abbrev Bm:=(502,pV)
theorem A4(c:Cut)(l:List Pt)(r0 per F:Int)(hc:bX c=0)(hl:gF l=0)(hp:1<=per/\per<=65536)(hF':iN (gW c l per) 4194305 F) : AM Tryz.prog 148 [.i 4194305,.fn (.func 149) [] [.ref 500 0]] [Pz 501 502,TB 503,L3 504,Cz c l r0 per,TB 503] (.i F) [none,none,none,none,none] []:=by
 have hFb:=hF'.b;refine aG ah bK (fn:=Tryz.f148) (N:=_) ⟨Tryz.func148,rfl,Tryz.ntmps148,kR⟩ (by simp) rfl (by simp) (by simp) fun C hF=> ?_;refine sK fun K hK=>wR 2 ?_;refine az ah (M:=[]) (n:=1) [pv 4 (V.i 0)] kR kR tI ?_;refine nK hK ?_;clear hK K;refine sK fun K hK=>wR 3 ?_;refine az ah (M:=[]) (n:=3) [pv 8 (V.i 4194305),pv 5 (V.i 0),pv 6 (V.i 4194305)] kR kR tI ?_;refine nK hK ?_;clear hK K;refine sK fun K hK=> ?_;refine au ?_;refine eV (ι:=Int×Int×Int) (fun s=>[(0,.i 4194305),(1,.fn (.func 149) [] [.ref 500 0]),(5,.i s.1),(6,.i s.2.1)]) (fun s=>[(500,Pz 501 502),(501,TB 503),(502,L3 504),(503,Cz c l s.2.2 per),(504,TB 503)]) (fun s=>0<=s.1/\s.1<=F/\F<=s.2.1/\s.2.1<=4194305) (fun s=>(s.2.1- s.1).toNat) (0,4194305,r0) ⟨Int.le_refl _,hFb.1,hFb.2,Int.le_refl _⟩ ?_ ?_;·refine aF (sl:=[(500,Ob.box 161 [lJ]),(501,Ob.box 136 [V.ref 503 0]),Bm,(503,Ob.box 216 [V.i (Cut.half c),V.i (Cut.gain c),V.i (Cut.thin c),V.i (Cut.wide c),V.i (Cut.slope c),V.i (Cut.jerk c),V.i (Cut.sty c),(lI l),V.i (Prod.snd ((4194305:Int),r0)),V.i per]),(504,Ob.box 136 [V.ref 503 0])]) [] (.cons kR (.cons kR (.cons kR (.cons kR .nil)))) (.cons ⟨Ob.box 161 [lJ],kR,.box kR⟩ (.cons ⟨Ob.box 136 [V.ref 503 0],kR,.box kR⟩ (.cons ⟨pV,kR,.box kR⟩ (.cons ⟨Ob.box 216 [V.i (Cut.half c),V.i (Cut.gain c),V.i (Cut.thin c),V.i (Cut.wide c),V.i (Cut.slope c),V.i (Cut.jerk c),V.i (Cut.sty c),(lI l),V.i r0,V.i per],kR,.box kR⟩ (.cons ⟨Ob.box 136 [V.ref 503 0],kR,.box kR⟩ .nil))))) kR kR
 rintro⟨i,j,r⟩ ⟨h1,h2,h3,h4⟩;simp only at h1 h2 h3 h4;refine sK fun K hK=>sK fun K hK=>wR 2 ?_;refine az ah (M:=[]) (n:=3) [pv 9 (V.i i),pv 10 (V.i (Prod.fst (j,r))),pv 11 (V.b (decide (i< j)))] kR kR tI ?_;refine nK hK ?_;clear hK K;refine av (t:=decide (i< j)) kR (fun c1=> ?_) (fun c1=> ?_)
 ·have c1:i< j:=by simpa using c1
  obtain⟨m,hm⟩:∃m:Int,(i+j).fdiv ((2:Int) ^ min (1:Nat) (IntKind.bits IntKind.u64))=m:=⟨_,rfl⟩;have m1:i<=m/\m< j:=by
   have:(i+j).fdiv ((2:Int) ^ min (1:Nat) (IntKind.bits IntKind.u64))=(i+j) / 2:=by rw [Int.fdiv_eq_ediv_of_nonneg _ (by decide)];rfl
   omega
  refine aj ?_;refine ai (hK _ ?_);clear hK K;refine au ?_;refine sK fun K hK=>wR 3 ?_;refine az ah (M:=[]) (n:=7) [pv 12 (V.i i),pv 13 (V.i (Prod.fst (j,r))),pc 14 ((-9223372036854775808:Int)<=i+j/\i+j<=9223372036854775807) (V.i (i+j)),pc 15 ((0:Int)<=i+j/\i+j<=18446744073709551615) (V.c (Value.int IntKind.u64 (i+j))),pc 16 ((0:Int)<=(1:Int)) (V.c (Value.int IntKind.u64 (Int.fdiv (i+j) ((2:Int) ^ min (1:Nat) (IntKind.bits IntKind.u64))))),pc 17 ((-9223372036854775808:Int)<=Int.fdiv (i+j) ((2:Int) ^ min (1:Nat) (IntKind.bits IntKind.u64))/\Int.fdiv (i+j) ((2:Int) ^ min (1:Nat) (IntKind.bits IntKind.u64))<=9223372036854775807) (V.i (Int.fdiv (i+j) ((2:Int) ^ min (1:Nat) (IntKind.bits IntKind.u64)))),pv 7 (V.i (Int.fdiv (i+j) ((2:Int) ^ min (1:Nat) (IntKind.bits IntKind.u64))))] kR kR ⟨oM,oM,oM,oM,tI⟩ ?_;refine nK hK ?_;clear hK K;refine sK fun K hK=> ?_;rw [hm];refine wR 4 ?_;refine az ah (M:=[]) (n:=2) [pv 18 (V.fn (Fn.func (149:Nat)) [] [V.ref 500 0]),pv 19 (V.i m)] kR kR tI ?_;refine dY [500,501,502,503,504] (first:=[]) (caps:=[V.ref 500 0]) (ins':=[Ob.box 161 [lJ],Ob.box 136 [V.ref 503 0],pV,Ob.box 216 [V.i (Cut.half c),V.i (Cut.gain c),V.i (Cut.thin c),V.i (Cut.wide c),V.i (Cut.slope c),V.i (Cut.jerk c),V.i (Cut.sty c),(lI l),V.i (Prod.snd (j,r)),V.i per],Ob.box 136 [V.ref 503 0]]) (v':=V.b (gW c l per m)) (δ:=[(500,Option.some (Ob.box 161 [lJ])),(501,Option.some (Ob.box 136 [V.ref 503 0])),(502,Option.some (pV)),(503,Option.some (Ob.box 216 [V.i (Cut.half c),V.i (Cut.gain c),V.i (Cut.thin c),V.i (Cut.wide c),V.i (Cut.slope c),V.i (Cut.jerk c),V.i (Cut.sty c),(lI l),V.i m,V.i per])),(504,Option.some (Ob.box 136 [V.ref 503 0]))]) (kp:=[500,501,502,503,504]) (z9 c l r m per hc hl ⟨by omega,hp⟩) kR kR kR kR kR kR rfl rfl kR (.box kR kR (.box kR kR (.box kR kR (.box kR kR (.box kR kR .nil))))) kR kR kR ?_;refine az ah (M:=[]) (n:=1) [pv 21 (V.b !gW c l per m)] kR kR tI ?_;refine nK hK ?_;clear hK K;refine av (t:= !gW c l per m) kR (fun c2=> ?_) (fun c2=> ?_)
  ·have q:gW c l per m=false:=by simpa using c2
   have m2:m< F:=by refine Int.not_le.1 fun h=> ?_;rw [hF'.hi m h oM]at q;cases q
   refine wR 5 ?_;refine az ah (M:=[]) (n:=3) [pv 22 (V.i m),pc 23 ((-9223372036854775808:Int)<=m+1/\m+1<=(9223372036854775807:Int)) (V.i (m+1)),pv 5 (V.i (m+1))] kR kR ⟨oM,tI⟩ ?_;refine aa (bQ (ai ?_));refine⟨(m+1,j,m),⟨by show 0<=m+1;omega,by show m+1<=F;omega,h3,h4⟩,?_,by show(j- (m+1)).toNat< (j- i).toNat;omega⟩;refine aF (sl:=[(500,Ob.box 161 [lJ]),(501,Ob.box 136 [V.ref 503 0]),Bm,(503,Ob.box 216 [V.i (Cut.half c),V.i (Cut.gain c),V.i (Cut.thin c),V.i (Cut.wide c),V.i (Cut.slope c),V.i (Cut.jerk c),V.i (Cut.sty c),(lI l),V.i (Prod.snd (j,m)),V.i per]),(504,Ob.box 136 [V.ref 503 0])]) [] (.cons kR (.cons kR (.cons kR (.cons kR .nil)))) (.cons ⟨Ob.box 161 [lJ],kR,.box kR⟩ (.cons ⟨Ob.box 136 [V.ref 503 0],kR,.box kR⟩ (.cons ⟨pV,kR,.box kR⟩ (.cons ⟨Ob.box 216 [V.i (Cut.half c),V.i (Cut.gain c),V.i (Cut.thin c),V.i (Cut.wide c),V.i (Cut.slope c),V.i (Cut.jerk c),V.i (Cut.sty c),(lI l),V.i m,V.i per],kR,.box kR⟩ (.cons ⟨Ob.box 136 [V.ref 503 0],kR,.box kR⟩ .nil))))) kR kR
  ·have q:gW c l per m=true:=by simpa using c2
   have m2:F<=m:=by refine Int.not_lt.1 fun h=> ?_;rw [hF'.lo m oM h]at q;cases q
   refine wR 5 ?_;refine az ah (M:=[]) (n:=2) [pv 24 (V.i m),pv 6 (V.i m)] kR kR tI ?_;refine aa (bQ (ai ?_));refine⟨(i,m,m),⟨h1,h2,m2,by show m<=4194305;omega⟩,?_,by show(m- i).toNat< (j- i).toNat;omega⟩;refine aF (sl:=[(500,Ob.box 161 [lJ]),(501,Ob.box 136 [V.ref 503 0]),Bm,(503,Ob.box 216 [V.i (Cut.half c),V.i (Cut.gain c),V.i (Cut.thin c),V.i (Cut.wide c),V.i (Cut.slope c),V.i (Cut.jerk c),V.i (Cut.sty c),(lI l),V.i (Prod.snd (m,m)),V.i per]),(504,Ob.box 136 [V.ref 503 0])]) [] (.cons kR (.cons kR (.cons kR (.cons kR .nil)))) (.cons ⟨Ob.box 161 [lJ],kR,.box kR⟩ (.cons ⟨Ob.box 136 [V.ref 503 0],kR,.box kR⟩ (.cons ⟨pV,kR,.box kR⟩ (.cons ⟨Ob.box 216 [V.i (Cut.half c),V.i (Cut.gain c),V.i (Cut.thin c),V.i (Cut.wide c),V.i (Cut.slope c),V.i (Cut.jerk c),V.i (Cut.sty c),(lI l),V.i m,V.i per],kR,.box kR⟩ (.cons ⟨Ob.box 136 [V.ref 503 0],kR,.box kR⟩ .nil))))) kR kR
 ·have c1:j<=i:=by simpa using c1
  obtain rfl:i=F:=by omega
  refine cm ?_;refine dM ?_;refine dM ?_;refine cy ?_;refine ai ?_;clear hK K;refine hK _ ?_;clear hK K;refine sK fun K hK=>wR 3 ?_;refine az ah (M:=[]) (n:=2) [pv 25 (V.i i),pv 4 (V.i i)] kR kR tI ?_;refine nK hK ?_;clear hK K;refine ak ?_;refine cC (v':=V.i i) [] [(4,V.i i)] (.inr rfl) (.cons kR .nil) .nil kR kR kR kR kR kR kR
theorem DB(c:Cut)(l:List Pt)(r0 per F:Int)(hc:bX c=0)(hl:gF l=0)(hp:1<=per/\per<=65536)(hF':iN (gW c l per) 4194305 F) : AM Tryz.prog 111 [.i 4194304,.fn (.func 112) [] [.ref 500 0,.ref 501 0]] [TB 502,L3 503,Cz c l r0 per,TB 502] (.i F) [none,none,none,none] []:=by have hFb:=hF'.b;refine aG ah bK (fn:=Tryz.f111) (N:=_) ⟨Tryz.func111,rfl,Tryz.ntmps111,kR⟩ (by simp) rfl (by simp) (by simp) fun C hF=> ?_;refine sK fun K hK=>wR 2 ?_;refine c9 (M:=[3]) ah 2 [(0,.r (pn 3 (V.ref 100003 0) (100003:Nat) (Ob.box 161 [V.fn (Fn.func (112:Nat)) [] [V.ref 500 0,V.ref 501 0]])))] tI ?_;refine nK hK ?_;clear hK K;refine sK fun K hK=>wR 3 ?_;refine c9 (M:=[3]) ah 3 [(1,.i ((4194304:Int)+(1:Int)))] ⟨oM,tI⟩ ?_;refine eM [100003,500,501,502,503] (A4 c l r0 per F hc hl hp hF') (iB (iB (iB (iB (iB .nil))))) ?_;refine aY ah 1 [] ?_;refine nK hK ?_;clear hK K;refine ak ?_;refine cC (v':=V.i F) [] [(4,V.i F)] (.inr rfl) (.cons kR .nil) .nil kR kR kR kR kR kR kR
theorem Aq(c:Cut)(l:List Pt)(r0 p0 per F:Int)(hc:bX c=0)(hl:gF l=0)(hp:1<=per/\per<=65536)(hF':iN (gW c l per) 4194305 F) : AM Tryz.prog 66 [.ref 500 0,.i per,.fn (.func 67) [] [.ref 501 0]] [Cz c l r0 p0,TB 500] (.tup [.i (if F<=4194304 then F else 0),.i (if F<=4194304 then 0 else 14)]) [none,none] []:=by
 have hFb:=hF'.b;refine aG ah bK (fn:=Tryz.f66) (N:=_) ⟨Tryz.func66,rfl,Tryz.ntmps66,kR⟩ (by simp) rfl (by simp) (by simp) fun C hF=> ?_;refine sK fun K hK=>wR 2 ?_;refine c9 (M:=[3,5]) ah 4 [(0,.r (pn 3 (V.ref 100003 0) (100003:Nat) (Ob.box 136 [V.ref 500 0]))),(1,.r (pn 5 (V.ref 100005 0) (100005:Nat) (Ob.box 29 [V.fn (Fn.func (67:Nat)) [] [V.ref 501 0]])))] tI ?_;refine nK hK ?_;clear hK K;refine sK fun K hK=>wR 3 ?_;refine c9 (M:=[3,5]) ah 5 [(0,.c LC),(4,.r (pw ((9:Nat)+(1:Nat)<=(10:Nat)) (500:Nat) (Ob.box 216 [V.i (Cut.half c),V.i (Cut.gain c),V.i (Cut.thin c),V.i (Cut.wide c),V.i (Cut.slope c),V.i (Cut.jerk c),V.i (Cut.sty c),V.sl 2 (List.length l) fun(k:Nat)=>[V.i (Prod.fst (gp l k)),V.i (Prod.snd (gp l k))],V.i r0,V.i per])))] ⟨Nf,oM,tI⟩ ?_;refine nK hK ?_;clear hK K;refine sK fun K hK=>wR 4 ?_;refine c9 (M:=[3,5]) ah 1 [] tI ?_;refine eM [100003,100005,500,501] (DB c l r0 per F hc hl hp hF') (iB (iB (iB (iB .nil)))) ?_;refine aY ah 1 [] ?_;refine nK hK ?_;clear hK K;refine sK fun K hK=>sK fun K hK=>wR 5 ?_;refine aY ah 2 [] ?_;refine nK hK ?_;clear hK K;refine av (t:=decide ((4194304:Int)< F)) kR (fun c1=> ?_) (fun c1=> ?_);·refine sK fun K hK=> ?_;refine wR 6 ?_;refine aY ah 2 [] ?_;refine nK hK ?_;clear hK K;refine ak ?_;refine aD ?_;rw [if_neg (by simp at c1;omega),if_neg (by simp at c1;omega)];refine cC (v':=V.tup [V.i 0,V.i 14]) [] [(6,V.i 0),(7,V.i 14)] (.inr rfl) (.cons kR (.cons kR .nil)) .nil kR kR kR kR kR kR kR
 ·refine aj ?_;refine ai (hK _ ?_);clear hK K;refine sK fun K hK=>wR 6 ?_;refine aY ah 3 [] ?_;refine nK hK ?_;clear hK K;refine ak ?_;rw [if_pos (by simp at c1;omega),if_pos (by simp at c1;omega)];refine cC (v':=V.tup [V.i F,V.i 0]) [] [(6,V.i F),(7,V.i 0)] (.inr rfl) (.cons kR (.cons kR .nil)) .nil kR kR kR kR kR kR kR
theorem fU{c:Cut}{l:List Pt}{r per:Int}{i:Nat}:dD c l r per i=0<->∀k,1<=k->k<=5->dy c r per (nb l i) (gp l i) (na l i) k=false:=by
 constructor
 ·intro h k h1 h5;cases hk:dy c r per (nb l i) (gp l i) (na l i) k with
  |false=>rfl
  |true=>
   exfalso;obtain⟨m,⟨m1,m2⟩,m3,m4⟩:∃m:Nat,(1<=m/\m<=5)/\dy c r per (nb l i) (gp l i) (na l i) m=true/\∀j,1<=j->j< m->dy c r per (nb l i) (gp l i) (na l i) j=false:=by
    have ex:∃m:Nat,(1<=m/\m<=5)/\dy c r per (nb l i) (gp l i) (na l i) m=true:=⟨k,⟨h1,h5⟩,hk⟩;obtain⟨m,hm,hl⟩:=least _ ex;refine⟨m,hm.1,hm.2,fun j a b=> ?_⟩;cases hj:dy c r per (nb l i) (gp l i) (na l i) j with
    |false=>rfl
    |true=>have:=hl j ⟨⟨a,by omega⟩,hj⟩;omega
   rw [dD,bV m1 m2 m4 m3]at h;omega
 ·intro h;exact lq h
theorem DD{r r' per:Int}(hr:0<=r)(h:r<=r')(hp:1<=per):mT r per<=mT r' per:=by unfold mT;have h1:0<=710*r*(710*r):=Int.mul_nonneg oM oM;have h2:710*r*(710*r)<=710*r'*(710*r'):=Int.mul_le_mul oM oM oM oM;rw [Int.tdiv_eq_ediv_of_nonneg h1,Int.tdiv_eq_ediv_of_nonneg oM];have h3:0< 113*per*(113*per):=Int.mul_pos oM oM;exact Int.ediv_le_ediv h3 h2
theorem AZ{c:Cut}{r r' per:Int}{b:Option Pt}{h:Pt}{a:Option Pt}{k:Nat}(hc:bX c=0)(hr:0<=r)(hrr:r<=r')(hp:1<=per)(h1:dy c r per b h a k=false):dy c r' per b h a k=false:=by
 obtain⟨c1,c2,c3,c4,c5,c6,c7⟩:=dU.1 hc;have m1:710*r*c.slope<=710*r'*c.slope:=Int.mul_le_mul_of_nonneg_right oM c5.1;have m2:=DD hr hrr hp;unfold dy at h1 ⊢;split at h1 <;> rename_i e
 ·exact h1
 ·exact h1
 ·simp only [fM,decide_eq_false_iff_not]at h1 ⊢;omega
 ·exact h1
 ·simp only [fL,decide_eq_false_iff_not]at h1 ⊢;omega
theorem Ae{c:Cut}{l:List Pt}{r r' per:Int}{i:Nat}(hc:bX c=0)(hr:0<=r)(hrr:r<=r')(hp:1<=per)(h:dD c l r per i=0):dD c l r' per i=0:= fU.2 fun k h1 h5=>AZ hc hr hrr hp (fU.1 h k h1 h5)
theorem sw{c:Cut}{l:List Pt}{per r:Int}:gW c l per r=true<->∀i,i< l.length->dD c l r per i=0:=by
 unfold gW;rw [decide_eq_true_eq];constructor
 ·intro h;cases hf:o7 c l r per with
  |none=>exact ql.1 hf
  |some i=>rw [fG,hf]at h;have:=(qm.1 hf).2.1;simp only at h;omega
 ·intro h;rw [qn h]
theorem Jo{c:Cut}(l:List Pt){per:Int}(hc:bX c=0)(hp:1<=per):∃F,iN (gW c l per) 4194305 F:= Ac (by decide) fun m n h0 hmn _ hm=>sw.2 fun i hi=>Ae hc h0 hmn hp (sw.1 hm i hi)
def bM(c:Cut)(l:List Pt)(per F:Int):Int×Int:=
 if fT c l=0 then(if gU per=0 then(if F<=4194304 then(F,0)else(0,14))else(0,3))else(0,fT c l)
theorem GH{c:Cut}{l:List Pt}{per F:Int}(h:¬fT c l=0):bM c l per F=(0,fT c l):=by rw [bM,if_neg h]
theorem GI{c:Cut}{l:List Pt}{per F:Int}(h:fT c l=0)(h2:¬gU per=0):bM c l per F=(0,3):=by rw [bM,if_pos h,if_neg h2]
theorem GJ{c:Cut}{l:List Pt}{per F:Int}(h:fT c l=0)(h2:gU per=0):bM c l per F=(if F<=4194304 then F else 0,if F<=4194304 then 0 else 14):=by rw [bM,if_pos h,if_pos h2];split <;> rfl
theorem M7(per:Int):yN 0 per=gU per:=by rw [D5,if_pos (by decide)]
def Bw(c:Cut)(l:List Pt)(per F:Int):Prop:=fT c l=0->gU per=0->iN (gW c l per) 4194305 F
theorem F4(c:Cut)(l:List Pt)(per:Int):∃F,Bw c l per F:=by
 by_cases h:fT c l=0/\gU per=0;·obtain⟨F,hF⟩:=Jo l (rA h.1).1 (tE.1 h.2).1;exact⟨F,fun _ _=>hF⟩
 ·exact⟨0,fun a b=>absurd ⟨a,b⟩ h⟩
theorem rS(c:Cut)(l:List Pt)(per F:Int)(hl:l.length<=4611686018427387904)(hF':Bw c l per F):AC Tryz.prog 21 [c.v,V.pts l,.i per] (.tup [.i (bM c l per F).1,.i (bM c l per F).2]) []:=by
 have P0:=tZ 0 per;rw [M7]at P0;refine di ah bK Tryz.func21 Tryz.ntmps21 fun C hC hF=> ?_;by_cases h:fT c l=0
 ·obtain⟨q1,q2⟩:=rA h;refine sK fun K hK=>wR 2 ?_;refine aY ah 3 [] ?_;refine nK hK ?_;clear hK K;refine sK fun K hK=>wR 3 ?_;refine aY ah 2 [] ?_;refine nG (first:=[]) (caps:=[]) (k:=200013) (v':=V.tup [V.ref 200013 0,V.i 0]) (ob':=Ob.box 216 [V.i (Cut.half c),V.i (Cut.gain c),V.i (Cut.thin c),V.i (Cut.wide c),V.i (Cut.slope c),V.i (Cut.jerk c),V.i (Cut.sty c),V.sl 2 (List.length l) fun(k:Nat)=>[V.i (Prod.fst (gp l k)),V.i (Prod.snd (gp l k))],V.i 0,V.i 0]) (yz c l hl h) kR kR kR kR kR kR kR ?_;refine aY ah 6 [(4,.c ((0:Nat)+(1:Nat)<=(1:Nat)) oM)] ?_;refine nK hK ?_;clear hK K;refine sK fun K hK=>sK fun K hK=>wR 4 ?_;refine aY ah 2 [] ?_;refine nK hK ?_;clear hK K;refine aQ (t:=true) kR rfl (wR 5 ?_);refine aY ah 1 [] ?_;refine eC (P0) ?_;refine aY ah 1 [] ?_;refine nK hK ?_;clear hK K;refine sK fun K hK=>sK fun K hK=>wR 6 ?_;refine aY ah 2 [] ?_;refine nK hK ?_;clear hK K;refine av (t:= !decide (gU per=0)) kR (fun c1=> ?_) (fun c1=> ?_)
  ·have h2:¬gU per=0:=by simpa using c1
   refine sK fun K hK=>wR 7 ?_;refine aY ah 3 [] ?_;refine nK hK ?_;clear hK K;refine ak ?_;refine aD ?_;rw [GI h h2,(HX per).resolve_left h2];refine rP (V.tup [V.i 0,V.i 3])
  ·have h2:gU per=0:=by simpa using c1
   refine aj ?_;refine ai (hK _ ?_);clear hK K;refine sK fun K hK=>wR 7 ?_;refine aY ah 3 [(0,.c ((0:Nat)<=(1:Nat)) oM)] ?_;refine eM [200013,200008] (Aq c l 0 0 per F q1 q2 (tE.1 h2) (hF' h h2)) (iB (iB .nil)) ?_;refine aY ah 4 [] ?_;refine nK hK ?_;clear hK K;refine ak ?_;rw [GJ h h2];refine rP (V.tup [V.i (if F<=4194304 then F else(0:Int)),V.i (if F<=4194304 then(0:Int)else(14:Int))])
 ·refine sK fun K hK=> ?_;refine wR 2 ?_;refine aY ah 3 [] ?_;refine nK hK ?_;clear hK K;refine sK fun K hK=>wR 3 ?_;refine aY ah 2 [] ?_;refine eC (yy c l hl h) ?_;refine aY ah 6 [(4,.c ((0:Nat)+(1:Nat)<=(1:Nat)) oM)] ?_;refine nK hK ?_;clear hK K;refine sK fun K hK=>sK fun K hK=>wR 4 ?_;refine aY ah 2 [] ?_;refine nK hK ?_;clear hK K;refine av (t:=decide (fT c l=0)) kR (fun c1=> ?_) (fun c1=> ?_);·simp at c1;exact absurd c1 h
  refine aj ?_;refine ai (hK _ ?_);clear hK K;refine sK fun K hK=>sK fun K hK=>wR 5 ?_;refine aY ah 2 [] ?_;refine nK hK ?_;clear hK K;refine av (t:= !decide (fT c l=0)) kR (fun c1=> ?_) (fun c1=> ?_);·refine sK fun K hK=> ?_;refine wR 6 ?_;refine aY ah 3 [] ?_;refine nK hK ?_;clear hK K;refine ak ?_;refine aD ?_;rw [GH h];refine rP (V.tup [V.i 0,V.i (fT c l)])
  ·simp at c1;exact absurd c1 h
def KH(l:List Pt)(i:Nat):Int:=(gp l i).2- (gp l i).1
def Km(l:List Pt)(i:Nat):Int:=max (dj ((gp l (i+1)).1- (gp l i).1)) (dj ((gp l (i+1)).2- (gp l i).2))
def IC(l:List Pt)(i:Nat):Int:=max (dj ((gp l i).1+(gp l (i+2)).1- 2*(gp l (i+1)).1)) (dj ((gp l i).2+(gp l (i+2)).2- 2*(gp l (i+1)).2))
structure IA(c:Cut)(l:List Pt)(r per:Int):Prop where
  w:∀i,i< l.length->c.thin<=KH l i/\KH l i<=c.wide
  s:∀i,i+1< l.length->113000*per*Km l i<=710*r*c.slope
  b:∀i,i+2< l.length->IC l i<=c.jerk/\IC l i*c.sty<=mT r per
theorem Ju{c:Cut}{l:List Pt}{r per:Int}(hc:bX c=0)(hr:0<=r)(hp:1<=per):(∀i,i< l.length->dD c l r per i=0)<->IA c l r per:=by
 obtain⟨c1,c2,c3,c4,c5,c6,c7⟩:=dU.1 hc;have hz:0<=710*r*c.slope:=Int.mul_nonneg oM c5.1;have ha:0<=mT r per:=by unfold mT;have h1:0<=710*r*(710*r):=Int.mul_nonneg oM oM;have h2:0<=113*per*(113*per):=Int.mul_nonneg oM oM;rw [Int.tdiv_eq_ediv_of_nonneg h1];exact Int.ediv_nonneg h1 h2
 constructor
 ·intro h;refine⟨fun i hi=> ?_,fun i hi=> ?_,fun i hi=> ?_⟩;·have q:=fU.1 (h i hi);have q1:=q 1 (by decide) (by decide);have q2:=q 2 (by decide) (by decide);simp only [dy,jD,jF,decide_eq_false_iff_not]at q1 q2;unfold KH;omega
  ·have q:=fU.1 (h (i+1) hi) 3 (by decide) (by decide);simp only [dy,fM,decide_eq_false_iff_not]at q;rw [nb,if_pos oM,Nat.add_sub_cancel]at q;exact Int.not_lt.1 q
  ·have q:=fU.1 (h (i+1) oM);have q4:=q 4 (by decide) (by decide);have q5:=q 5 (by decide) (by decide);simp only [dy,eR,fL,decide_eq_false_iff_not]at q4 q5;rw [nb,if_pos oM,Nat.add_sub_cancel,na,if_pos hi]at q4 q5;exact⟨Int.not_lt.1 q4,Int.not_lt.1 q5⟩
 ·rintro⟨hw,hs,hb⟩ i hi;refine fU.2 fun k k1 k5=> ?_;rcases(by omega:k=1\/k=2\/k=3\/k=4\/k=5)with rfl |rfl |rfl |rfl |rfl;·have:=hw i hi;unfold KH at this;simp only [dy,jD,decide_eq_false_iff_not];omega
  ·have:=hw i hi;unfold KH at this;simp only [dy,jF,decide_eq_false_iff_not];omega
  ·simp only [dy,fM,decide_eq_false_iff_not];by_cases h0:0< i;·obtain⟨j,rfl⟩:∃j,i=j+1:=⟨i- 1,by omega⟩;rw [nb,if_pos h0,Nat.add_sub_cancel];exact Int.not_lt.2 (hs j hi)
   ·rw [nb,if_neg h0];simp only [cM,Int.mul_zero];omega
  ·simp only [dy,eR,decide_eq_false_iff_not];by_cases h0:0< i/\i+1< l.length;·obtain⟨j,rfl⟩:∃j,i=j+1:=⟨i- 1,by omega⟩;rw [nb,if_pos h0.1,Nat.add_sub_cancel,na,if_pos h0.2];exact Int.not_lt.2 (hb j h0.2).1
   ·rw [xE h0];omega
  ·simp only [dy,fL,decide_eq_false_iff_not];by_cases h0:0< i/\i+1< l.length;·obtain⟨j,rfl⟩:∃j,i=j+1:=⟨i- 1,by omega⟩;rw [nb,if_pos h0.1,Nat.add_sub_cancel,na,if_pos h0.2];exact Int.not_lt.2 (hb j h0.2).2
   ·rw [xE h0,Int.zero_mul];omega
theorem FU{c:Cut}{l:List Pt}{r per:Int}(hc:bX c=0)(hr:0<=r)(hp:1<=per):gW c l per r=true<->IA c l r per:=sw.trans (Ju hc hr hp)
theorem iN.congr{p q:Int->Bool}{M F:Int}(h:iN p M F)(e:∀n,0<=n->n< M->p n=q n):iN q M F:= ⟨h.b,fun n a b=>by rw [<-e n a (by have:=h.b;omega)];exact h.lo n a b,fun n a b=>by rw [<-e n (by have:=h.b;omega) b];exact h.hi n a b⟩
theorem nP(n:Int):dj (-n)=dj n:=by unfold dj;omega
theorem uO(a b:Int):max a b=max b a:=by omega
def Alike(l m:List Pt):Prop:=∀(c:Cut) (r per:Int),IA c l r per<->IA c m r per
theorem Alike.fst{c:Cut}{l m:List Pt}{per F:Int}(h:Alike l m)(hc:bX c=0)(hp:1<=per)(hF:iN (gW c l per) 4194305 F):iN (gW c m per) 4194305 F:= hF.congr fun n h0 _=>by rw [Bool.eq_iff_iff,FU hc h0 hp,FU hc h0 hp];exact h c n per
theorem CD{l:List Pt}{f:Pt->Pt}(hw:∀p,(f p).2- (f p).1=p.2- p.1) (hs:∀p q:Pt,max (dj ((f p).1- (f q).1)) (dj ((f p).2- (f q).2))=max (dj (p.1- q.1)) (dj (p.2- q.2))) (hb:∀p q s:Pt,max (dj ((f p).1+(f q).1- 2*(f s).1)) (dj ((f p).2+(f q).2- 2*(f s).2))=max (dj (p.1+q.1- 2*s.1)) (dj (p.2+q.2- 2*s.2))):Alike l (l.map f):=by
 intro c r per;have e1:∀i,i< l.length->KH (l.map f) i=KH l i:=fun i hi=>by unfold KH;rw [kV hi,hw]
 have e2:∀i,i+1< l.length->Km (l.map f) i=Km l i:=fun i hi=>by unfold Km;rw [kV hi,kV oM,hs]
 have e3:∀i,i+2< l.length->IC (l.map f) i=IC l i:=fun i hi=>by unfold IC;rw [kV hi,kV oM,kV oM,hb]
 constructor
 ·rintro⟨h1,h2,h3⟩;refine⟨fun i hi=> ?_,fun i hi=> ?_,fun i hi=> ?_⟩ <;> rw [List.length_map]at hi
  ·rw [e1 i hi];exact h1 i hi
  ·rw [e2 i hi];exact h2 i hi
  ·rw [e3 i hi];exact h3 i hi
 ·rintro⟨h1,h2,h3⟩;simp only [List.length_map]at h1 h2 h3;refine⟨fun i hi=> ?_,fun i hi=> ?_,fun i hi=> ?_⟩;·rw [<-e1 i hi];exact h1 i hi
  ·rw [<-e2 i hi];exact h2 i hi
  ·rw [<-e3 i hi];exact h3 i hi
theorem vv(l:List Pt):Alike l (l.map fun p=>(-p.2, -p.1)):=
  CD (fun p=>by simp only;omega)
    (fun p q=>by
      simp only
      rw [uO,show -p.1 - -q.1= -(p.1- q.1) by omega,show -p.2 - -q.2= -(p.2- q.2) by omega,nP,nP])
    (fun p q s=>by
      simp only
      rw [uO,show -p.1+ -q.1- 2* -s.1= -(p.1+q.1- 2*s.1) by omega,show -p.2+ -q.2- 2* -s.2= -(p.2+q.2- 2*s.2) by omega,nP,nP])
theorem lP{l:List Pt}{a n i:Nat}(h:i< n):gp ((l.drop a).take n) i=gp l (a+i):=by simp only [gp,List.getD_eq_getElem?_getD];rw [List.getElem?_take,if_pos h,List.getElem?_drop]
theorem IA.part{c:Cut}{l:List Pt}{r per:Int}(h:IA c l r per)(a n:Nat):IA c ((l.drop a).take n) r per:=by
 refine⟨fun i hi=> ?_,fun i hi=> ?_,fun i hi=> ?_⟩ <;> rw [List.length_take,List.length_drop]at hi
 ·have:=h.w (a+i) oM;unfold KH at this ⊢;rwa [lP oM]
 ·have:=h.s (a+i) oM;unfold Km at this ⊢;rwa [lP oM,lP oM]
 ·have:=h.b (a+i) oM;unfold IC at this ⊢;rwa [lP oM,lP oM,lP oM]
theorem IA.Ql{c m:Cut}{l:List Pt}{r per p':Int}(h:IA c l r per)(hr:0<=r)(hp:1<=p'/\p'<=per)(h1:m.thin<=c.thin)(h2:c.wide<=m.wide)(h3:c.slope<=m.slope)(h4:c.jerk<=m.jerk)(h5:0<=m.sty/\m.sty<=c.sty):IA m l r p':=by
 refine⟨fun i hi=> ?_,fun i hi=> ?_,fun i hi=> ?_⟩;·have:=h.w i hi;omega
 ·have a:=h.s i hi;have st0:0<=Km l i:=by unfold Km dj;omega
  have e1:113000*p'*Km l i<=113000*per*Km l i:=Int.mul_le_mul_of_nonneg_right oM st0;have e2:710*r*c.slope<=710*r*m.slope:=Int.mul_le_mul_of_nonneg_left h3 oM;omega
 ·obtain⟨a,b⟩:=h.b i hi;have bd0:0<=IC l i:=by unfold IC dj;omega
  have e1:IC l i*m.sty<=IC l i*c.sty:=Int.mul_le_mul_of_nonneg_left h5.2 bd0;have e2:mT r per<=mT r p':=by unfold mT;have h1:0<=710*r*(710*r):=Int.mul_nonneg oM oM;rw [Int.tdiv_eq_ediv_of_nonneg h1,Int.tdiv_eq_ediv_of_nonneg h1];have h3:0< 113*p'*(113*p'):=Int.mul_pos oM oM;have h4:113*p'*(113*p')<=113*per*(113*per):=Int.mul_le_mul oM oM oM oM;have q:=Int.ediv_nonneg h1 (show 0<=113*per*(113*per) by omega);refine(Int.le_ediv_iff_mul_le h3).2 ?_;have k1:710*r*(710*r) / (113*per*(113*per))*(113*p'*(113*p'))<=710*r*(710*r) / (113*per*(113*per))*(113*per*(113*per)):=Int.mul_le_mul_of_nonneg_left h4 q;have k2:=Int.ediv_mul_le (710*r*(710*r)) (show 113*per*(113*per)≠0 by omega);omega
  omega
def FP:List Nat:=[148,111,66,149,112,67,192,188,199,201,999999,999999,999999,999999,999999,999999,999999,999999,999999,999999,999999,999999,999999,999999]
def Om:ML:=[(64,[21]),(189,[8]),(175,[24])]
def BN(sz n:Nat)(cs:List V):V:= .sl sz n fun i=>(cs.drop (i*sz)).take sz
def t8(l:List Int):V:=BN 1 l.length (l.map V.i)
def Ol:List (Int×Int)->List V
 | []=>[]
 |x::l=> .i x.1:: .i x.2::Ol l
def DA(l:List (Int×Int)):V:=BN 2 l.length (Ol l)
def Jl(l:List Int):V:= .sl 1 l.length (rowOf (l.map fun x=>[.i x]))
def Dz(l:List (Int×Int)):V:= .sl 2 l.length (rowOf (l.map fun x=>[.i x.1,.i x.2]))
theorem FO(l:List (List V))(h:l.all V.bp=true)(i:Nat):V.bp (rowOf l i)=true:=ir h i
def xR:V:= .agg [.i 400,.i 2000,.i 200,.i 2000,.i 1000,.i 1000,.i 100]
def Jk:List (Int×Int):=[(-400,400),(-200,600),(-400,400)]
theorem Jm:AM Tryz.prog 14 [xR,DA [(0,0),(100,100),(0,0)]] [] (.tup [.own 0,.i 0]) [] [.row 47 2 3 (rowOf [[.i (-400),.i 400],[.i (-200),.i 600],[.i (-400),.i 400]])]:=Dg ah bK Om FP kR kR
theorem Mv:AC Tryz.prog 14 [xR,DA [(0,0),(100,100),(0,0)]] (.tup [Dz Jk,.i 0]) []:=AC.Cp (Jm.ac (by decide)) rfl (fun _ _=>rfl) (FO _ rfl) rfl rfl
theorem Qa:AC Tryz.prog 21 [xR,Dz Jk,.i 1000] (.tup [.i 31831,.i 0]) []:=AM.ac (Dg ah bK Om FP kR kR) (by decide)
theorem Mu:AM Tryz.prog 144 [.agg [t8 [64],t8 [128],.i 256],t8 [100,0,0, -3]] [] (.tup [.own 0,.i 0]) [] [.row 2 1 4 (rowOf [[.i 100],[.i 75],[.i 37],[.i 15]])]:=Dg ah bK Om FP kR kR
theorem On:AC Tryz.prog 144 [.agg [t8 [64],t8 [128],.i 256],t8 [100,0,0, -3]] (.tup [Jl [100,75,37,15],.i 0]) []:=AC.Cp (Mu.ac (by decide)) rfl (fun _ _=>rfl) (FO _ rfl) rfl rfl
def P8:ByteArray:=⟨#[97]⟩
def Lm:V:=BN 2 1 [.c (.string P8),DA [(10, -10),(5,0)]]
def Ll:V:=BN 7 1 [.i 0,.i 0,.i 2,.i 0,.i 0,.i 0,.i 500]
theorem Mw:AC Tryz.prog 145 [Lm,Ll] (.tup [Dz [(5, -5),(2,0)],.i 0]) []:=AM.ac (Dg ah bK Om FP kR kR) (by decide)
def P9:ByteArray:=⟨#[102]⟩
def Lj(l:List Int):V:= .agg (.c (.string P9)::l.map V.i)
theorem Jn:AC Tryz.prog 100 [Lj [1000,400,10,0,0,0,0],.agg [.i 95,.i 20,.i 0]] (.tup [.i 200,.i 0]) []:=AM.ac (Dg ah bK Om FP kR kR) (by decide)
end Go.Proofs.YtjmbpjlojjgggaaGreatDoor
