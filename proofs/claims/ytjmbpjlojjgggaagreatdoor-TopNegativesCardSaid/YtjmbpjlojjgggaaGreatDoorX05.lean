/-
  Several texts in one: Which tips are valid; what a tip reads and sweeps, by the program. No condition but the sizes of slices. .. The examples of the chapter hold of the program: Works returns true. No condition.
-/
import Derived.Deep.RegionHeld3
import Derived.Deep.DeepCutAuto
import Derived.Test.YtjmbpjlojjgggaaGreatDoorX04
set_option maxRecDepth 100000
set_option maxHeartbeats 1000000
namespace Go.Proofs.YtjmbpjlojjgggaaGreatDoor
open Go.RowKit Go.Dw Go.Shelf
def cN(t:List Int)(k:Nat):Bool:=if k=0 then gi t 0 !=0 else decide (gi t k< gi t (k- 1)) || decide (4194304< gi t k)
def bL(t:List Int):Int:=if t.length=0\/64< t.length then 6 else if(List.range t.length).any (cN t)then 2 else 0
theorem gh{t:List Int}(h:t.length=0\/64< t.length):bL t=6:=by rw [bL,if_pos h]
theorem nF{t:List Int}{k:Nat}(h:¬(t.length=0\/64< t.length))(hk:k< t.length)(hb:cN t k=true):bL t=2:=by rw [bL,if_neg h,if_pos];rw [List.any_eq_true];exact⟨k,List.mem_range.2 hk,hb⟩
theorem mj{t:List Int}(h:¬(t.length=0\/64< t.length))(hb:∀k,k< t.length->cN t k=false):bL t=0:=by rw [bL,if_neg h,if_neg];rw [List.any_eq_true];rintro⟨k,hk,e⟩;rw [hb k (List.mem_range.1 hk)]at e;cases e
theorem qf{t:List Int}(h:bL t=0):0< t.length/\t.length<=64/\gi t 0=0/\(∀k,k+1< t.length->gi t k<=gi t (k+1))/\∀x∈t,0<=x/\x<=4194304:=by
 unfold bL at h;split at h;·omega
 ·split at h;·omega
  ·rename_i h1 h2;have hb:∀k,k< t.length->cN t k=false:=fun k hk=>by
    cases e:cN t k with
    |false=>rfl
    |true=>exact absurd (List.any_eq_true.2 ⟨k,List.mem_range.2 hk,e⟩) h2
   have h0:gi t 0=0:=by have:=hb 0 oM;simpa [cN]using this
   have hs:∀k,k+1< t.length->gi t k<=gi t (k+1)/\gi t (k+1)<=4194304:=fun k hk=>by have:=hb (k+1) hk;simp [cN]at this;omega
   refine⟨by omega,by omega,h0,fun k hk=>(hs k hk).1,?_⟩;rw [fh (p:=fun x=>0<=x/\x<=4194304)];intro k;induction k with
   |zero=>intro _;rw [h0];omega
   |succ k ih=>intro hk;have:=ih oM;have:=hs k hk;omega
theorem sq(A:Option Addr)(n c:Nat)(t:List Int)(w:World)(hl:dW w A n t)(hn:n<=4611686018427387904) :
    Calls Tryz.prog 115 #[.agg #[.slice A n c]] w fun e w'=>e= .returned (.int .i64 (bL t))/\Below w.heap.size w w':=by
  have hb0:=bE w (.cells #[.slice A n c] 59)
  have hbx:=cP.new w 59 #[.slice A n c]
  have Hl:=Lib.hid hl.1
  by_cases h0:n=0
  · subst h0
    have d0:((0:Int) == 0)=true:=rfl
    go_enter Tryz.func115,Tryz.ntmps115
    go_wp2
    all_goals go_ret
    all_goals exact⟨dx (by rw [gh (by rw [Hl.out];omega)]),hb0⟩
  · have d0:((n:Int) == 0)=false:=beq_eq_false_iff_ne.2 oM
    by_cases h64:64< n
    · have d1:decide ((64:Int)< (n:Int))=true:=by simp;omega
      go_enter Tryz.func115,Tryz.ntmps115
      go_wp2
      all_goals go_ret
      all_goals exact⟨dx (by rw [gh (by rw [Hl.out];omega)]),hb0⟩
    · have d1:decide ((64:Int)< (n:Int))=false:=by simp;omega
      go_enter Tryz.func115,Tryz.ntmps115
      go_wp2
      generalize w.alloc (.cells #[.slice A n c] 59)=w0 at*
      have hl0:=hl.bA hb0
      go_loop [3,19] (fun last i=>∃k:Nat,k<=n/\i= .int .i64 k/\last= .int .i64 (if k=0 then 0 else gi t (k- 1))/\∀j,j< k->cN t j=false) (fun _ i=>n- (intOf i).toNat)
      case atStart=>exact⟨0,Nat.zero_le _,rfl,rfl,fun j hj=>absurd hj oM⟩
      case round=>
        obtain⟨k,hk,rfl,rfl,hall⟩:=hrel
        have Hall:=Lib.hid hall
        clear hall
        by_cases hlt:k< n
        · obtain⟨b,o,rfl,hb,hc1⟩:=ints_at hl0 hlt
          have key:(cN t k=true->bL t=2):=fun h=>nF (by rw [Hl.out];omega) (by rw [Hl.out];exact hlt) h
          have Key:=Lib.hid key
          clear key
          have next:cN t k=false->∀j,j< k+1->cN t j=false:=fun h j hj=>by
            by_cases e:j=k
            · subst e;exact h
            · exact Hall.out j oM
          have Next:=Lib.hid next
          clear next
          by_cases hk0:k=0
          · subst hk0
            rw [Nat.add_zero]at hc1
            simp only [if_true]
            go_wp2
            all_goals first
              | (go_ret;exact⟨dx (by rw [Key.out (by simp [cN];simp at *;omega)]),hb0⟩)
              | (go_round
                 case rel=>exact⟨1,by omega,by go_num,by simp,Next.out (by simp [cN];simp at *;omega)⟩
                 case measure=>simp [intOf];omega)
          · have dk:((k:Int) == 0)=false:=beq_eq_false_iff_ne.2 oM
            simp only [hk0,if_false]
            go_wp2
            all_goals first
              | (go_ret;exact⟨dx (by rw [Key.out (by simp [cN,hk0];simp at *;omega)]),hb0⟩)
              | (go_round
                 case rel=>exact⟨k+1,by omega,by go_num,by simp,Next.out (by simp [cN,hk0];simp at *;omega)⟩
                 case measure=>simp [intOf];omega)
        · obtain rfl:k=n:=by omega
          go_wp2
          go_ret
          exact⟨dx (by rw [mj (by rw [Hl.out];omega) (by rw [Hl.out];exact Hall.out)]),hb0⟩
theorem oh(A:Option Addr)(n c:Nat)(t:List Int)(w:World)(hl:dW w A n t)(hn:n<=4611686018427387904) :
    Calls Tryz.prog 19 #[.agg #[.slice A n c]] w fun e w'=>e= .returned (.int .i64 (bL t))/\Below w.heap.size w w':=by
  have hb0:=bE w (.cells #[.slice A n c] 59)
  have hbx:=cP.new w 59 #[.slice A n c]
  have Hl:=Lib.hid hl.1
  by_cases h0:n=0
  · subst h0
    have d0:((0:Int) == 0)=true:=rfl
    go_enter Tryz.func19,Tryz.ntmps19
    go_wp2
    all_goals go_ret
    all_goals exact⟨dx (by rw [gh (by rw [Hl.out];omega)]),hb0⟩
  · have d0:((n:Int) == 0)=false:=beq_eq_false_iff_ne.2 oM
    by_cases h64:64< n
    · have d1:decide ((64:Int)< (n:Int))=true:=by simp;omega
      go_enter Tryz.func19,Tryz.ntmps19
      go_wp2
      all_goals go_ret
      all_goals exact⟨dx (by rw [gh (by rw [Hl.out];omega)]),hb0⟩
    · have d1:decide ((64:Int)< (n:Int))=false:=by simp;omega
      go_enter Tryz.func19,Tryz.ntmps19
      go_wp2
      generalize w.alloc (.cells #[.slice A n c] 59)=w0 at*
      have hl0:=hl.bA hb0
      go_loopw [4] (fun i wr=>∃k:Nat,k<=n/\i= .int .i64 k/\(∀j,j< k->cN t j=false)/\Below w0.heap.size w0 wr) (fun i _=>n- (intOf i).toNat)
      case atStart=>exact⟨0,Nat.zero_le _,rfl,fun j hj=>absurd hj oM,Below.refl _ _⟩
      case round=>
        obtain⟨k,hk,rfl,hall,hbw⟩:=hrel
        have Hall:=Lib.hid hall
        clear hall
        have hbr:Below w.heap.size w wr:=hb0.trans (hbw.mono hb0.size)
        by_cases hlt:k< n
        · have hcx:wr.cell? ⟨w.heap.size,0,none⟩=some (.slice A n c):=(hbx.bA hbw).cell 0
          have hc1:=ints_at (hl0.bA hbw) hlt
          have key:(cN t k=true->bL t=2):=fun h=>nF (by rw [Hl.out];omega) (by rw [Hl.out];exact hlt) h
          have Key:=Lib.hid key
          clear key
          have next:cN t k=false->∀j,j< k+1->cN t j=false:=fun h j hj=>by
            by_cases e:j=k
            · subst e;exact h
            · exact Hall.out j oM
          have Next:=Lib.hid next
          clear next
          cases k with
          |zero=>
            obtain⟨b,o,rfl,hb,hc1⟩:=hc1
            rw [Nat.add_zero]at hc1
            have n0:(0:Int)< (n:Int):=by omega
            by_cases hz:gi t 0=0
            · rw [hz]at hc1
              go_wp2
              go_quiet (fail)
              go_wp2
              go_roundw
              case rel=>exact⟨1,by omega,by go_num,Next.out (by simp [cN,hz]),gw hbw _⟩
              case measure=>simp [intOf];omega
            · have dz:(gi t 0 !=0)=true:=by simpa using hz
              go_wp2
              go_quiet (fail)
              go_wp2
              go_ret
              exact⟨dx (by rw [Key.out (by simp [cN,hz])]),gw hbr _⟩
          |succ j=>
            obtain⟨b,o,rfl,hb,hc1⟩:=hc1
            obtain⟨b',o',hA,hb',hc2⟩:=ints_at (hl0.bA hbw) (show j< n by omega)
            injection hA with hA;injection hA with hA1 hA2;subst hA1 hA2
            have n0:((j:Int)+1:Int)< (n:Int):=by omega
            have n1:(0:Int)<=(j:Int)+1:=by omega
            have n2:((j:Int)+1).toNat=j+1:=by omega
            have n3:IntKind.i64.wrap ((j:Int)+1- 1)=(j:Int):=by rw [IntWalk.i64_in _ oM];omega
            have n4:(j:Int)< (n:Int):=by omega
            have d2:((j:Int)+1 == 0)=false:=beq_eq_false_iff_ne.2 oM
            have d3:decide ((0:Int)< (j:Int)+1)=true:=decide_eq_true oM
            have hTB:cN t (j+1)=(decide (gi t (j+1)< gi t j) || decide (4194304< gi t (j+1))):=by simp [cN]
            have HTB:=Lib.hid hTB
            clear hTB
            by_cases h1:gi t (j+1)< gi t j
            · have d4:decide (gi t (j+1)< gi t j)=true:=by simpa using h1
              have hq:=Key.out (by rw [HTB.out];simp [h1])
              have HQ:=Lib.hid hq
              clear hq
              go_wp2
              go_quiet (fail)
              go_wp2
              go_ret
              exact⟨dx (by rw [HQ.out]),gw hbr _⟩
            · have d4:decide (gi t (j+1)< gi t j)=false:=by simpa using h1
              by_cases h2:4194304< gi t (j+1)
              · have d5:decide (4194304< gi t (j+1))=true:=by simpa using h2
                have hq:=Key.out (by rw [HTB.out];simp [h2])
                have HQ:=Lib.hid hq
                clear hq
                go_wp2
                go_quiet (fail)
                go_wp2
                go_ret
                exact⟨dx (by rw [HQ.out]),gw hbr _⟩
              · have d5:decide (4194304< gi t (j+1))=false:=by simpa using h2
                have hq:=Next.out (by rw [HTB.out];simp;try omega)
                have HQ:=Lib.hid hq
                clear hq
                go_wp2
                go_quiet (fail)
                go_wp2
                go_roundw
                case rel=>exact⟨j+2,by omega,by go_num,HQ.out,gw hbw _⟩
                case measure=>simp [intOf];omega
        · obtain rfl:k=n:=by omega
          go_wp2
          go_ret
          exact⟨dx (by rw [mj (by rw [Hl.out];omega) (by rw [Hl.out];exact Hall.out)]),hbr⟩
def bZ(t:List Int)(l:List Pt):Int:=if bL t=0 then cA l else bL t
theorem qg(A:Option Addr)(n c:Nat)(t:List Int)(B:Option Addr)(m d:Nat)(l:List Pt)(w:World)(ht:dW w A n t)(hn:n<=4611686018427387904)(hl:me w B m l)(hm:m<=4611686018427387904) : Calls Tryz.prog 69 #[.agg #[.slice A n c],.slice B m d] w fun e w'=>e= .returned (.int .i64 (bZ t l))/\Below w.heap.size w w':=by
 have hb0:=bE w (.cells #[.slice A n c] 59);go_enter Tryz.func69,Tryz.ntmps69
 go_wp2_with fail
 generalize w.alloc (.cells #[.slice A n c] 59)=w0 at*;refine(sq A n c t w0 (ht.bA hb0) hn).mono ?_;rintro e w1 ⟨rfl,hw1⟩;have hb1:=hb0.trans (hw1.mono hb0.size);by_cases h0:bL t=0
 ·have e0:bZ t l=cA l:=by simp [bZ,h0]
  have E0:=Lib.hid e0;clear e0;rw [h0];go_wp2_with fail
  refine(sn B m d l w1 (hl.bA hb1) hm).mono ?_;rintro e w2 ⟨rfl,hw2⟩;go_wp2
  go_ret
  exact⟨dx (by rw [E0.out]),hb1.trans (hw2.mono hb1.size)⟩
 ·have e0:bZ t l=bL t:=by simp [bZ,h0]
  have E0:=Lib.hid e0;clear e0;have d0:(bL t !=0)=true:=by simpa using h0
  go_wp2
  go_ret
  exact⟨dx (by rw [E0.out]),hb1⟩
theorem qo(down:Bool)(lo hi:Int):∀(vs:List Int) (f:Int),lo<=f->f<=hi->(∀v∈vs,if down then v<=hi else lo<=v)->lo<=iC down f vs/\iC down f vs<=hi
 | [],f,h1,h2,_=>⟨h1,h2⟩
 |v::vs,f,h1,h2,h3=>by
  have hv:=h3 v (by simp);refine qo down lo hi vs (iY down v f) ?_ ?_ (fun x hx=>h3 x (by simp [hx]));·cases down <;> simp [iY]at hv ⊢ <;> omega
  ·cases down <;> simp [iY]at hv ⊢ <;> omega
theorem B5{i n r k:Nat}(hk:k< fI i n r):aM i r+k< n/\dc (aM i r+k) i< r:=by unfold fI aM dc at *;omega
theorem wT(t h:List Int)(down:Bool)(i:Nat)(lo hi:Int)(hi':i< h.length)(hh:∀x∈h,lo<=x/\x<=hi)(ht:∀x∈t,0<=x):lo<=gP t h down i/\gP t h down i<=hi:=by have h0:=(fh.1 hh) i hi';refine qo down lo hi _ _ h0.1 h0.2 ?_;intro v hv;simp only [List.mem_map,List.mem_range]at hv;obtain⟨k,hk,rfl⟩:=hv;obtain⟨k1,k2⟩:=B5 hk;have h1:=(fh.1 hh) _ k1;have h2:=(fh (p:=fun x=>0<=x) |>.1 ht) _ k2;cases down <;> simp <;> omega
theorem ow(t h:List Int)(down:Bool):(jE t h down).length=h.length:=by simp [jE]
theorem qH(t h:List Int)(down:Bool)(lo hi:Int)(hh:∀x∈h,lo<=x/\x<=hi)(ht:∀x∈t,0<=x):∀x∈jE t h down,lo<=x/\x<=hi:=by intro x hx;simp only [jE,List.mem_map,List.mem_range]at hx;obtain⟨i,hi',rfl⟩:=hx;exact wT t h down i lo hi hi' hh ht
theorem pJ{l:List Pt}(hl:∀p∈l, -4194304<=p.1/\p.1<=4194304/\ -4194304<=p.2/\p.2<=4194304)(inn:Bool):∀x∈l.map (jW inn), -4194304<=x/\x<=4194304:=by intro x hx;obtain⟨p,hp,rfl⟩:=List.mem_map.1 hx;have:=hl p hp;cases inn <;> simp [jW] <;> omega
def qB(t h:List Int):List Int:=jE t h false
def dG(t:List Int)(l:List Pt):List Pt:=f9 (qB t) l
theorem HW(g:Nat)(At:Option Addr)(r ct n:Nat)(t h:List Int)(w:World)(hb:cP w g 59 #[.slice At r ct])(ht:dW w At r t)(hn:n<=65536)(hr:r<=65536) (hhb:∀x∈h, -4194304<=x/\x<=4194304) (htb:∀x∈t,0<=x/\x<=4194304):NU 117 #[.pointer (some ⟨g,0,none⟩)] (qB t) n h w:=by
 intro A c W hW hh;have d1:W.cell? ⟨g,0,none⟩=some (.slice At r ct):=(hb.bA hW).cell 0;show Calls Tryz.prog 117 #[.slice A n c,.pointer (some ⟨g,0,none⟩)] W _;go_enter Tryz.func117,Tryz.ntmps117
 go_wp2_with fail
 refine(Bf At A r ct n c t h false W hn hr (ht.bA hW) hh (fun x hx=>by have:=hhb x hx;omega) (fun x hx=>by have:=htb x hx;omega)).mono ?_;rintro e w' ⟨g',hg,rfl,hbg,hbw⟩;go_wp2
 go_ret
 exact⟨g',hg,rfl,hbg,hbw⟩
def iI(t:List Int)(l:List Pt):List Pt:=if bZ t l=0 then dG t l else []
theorem vR{t:List Int}{l:List Pt}(h:bZ t l=0):bL t=0/\cA l=0:=by
 unfold bZ at h;by_cases h0:bL t=0;·rw [if_pos h0]at h;exact⟨h0,h⟩
 ·rw [if_neg h0]at h;exact absurd h h0
theorem AN(A:Option Addr)(r c:Nat)(t:List Int)(B:Option Addr)(n d:Nat)(l:List Pt)(w:World)(ht:dW w A r t)(hl:me w B n l)(h0:bZ t l=0) : Calls Tryz.prog 70 #[.agg #[.slice A r c],.slice B n d] w fun e w'=>∃v,e= .returned v/\w'.ownsRow w.heap.size 47 2 v (dG t l).length ((dG t l).flatMap o4)/\Below w.heap.size w w':=by
 obtain⟨k1,k2⟩:=vR h0;obtain⟨m1,m2,_,_,m3⟩:=qf k1;obtain⟨m4,m5⟩:=qe k2;have hb0:=bE w (.cells #[.slice A r c] 59);have hbx:=cP.new w 59 #[.slice A r c];have q1:=hl.1;have q2:=ht.1;have e1:(dG t l).length=n:=by simp [dG,f9,fe,q1]
 have Q1:=Lib.hid q1;have Q2:=Lib.hid q2;have E1:=Lib.hid e1;clear h0 k1 k2 e1;go_enter Tryz.func70,Tryz.ntmps70
 go_wp2_with fail
 generalize w.alloc (.cells #[.slice A r c] 59)=w0 at*;refine(zg B n d l 117 _ (qB t) w0 (hl.bA hb0) oM m5 (fun args w=>enters_of Tryz.func117 kR rfl args w)
  (fun inn=>HW _ A r c n t _ w0 hbx (ht.bA hb0) oM oM (pJ m5 inn) m3) (fun inn=>by simp [qB,jE,Q1.out])
  (fun inn x hx=>by have:=qH t _ false _ _ (pJ m5 inn) (fun y hy=>(m3 y hy).1) x hx;omega)).mono ?_
 rintro e w1 ⟨v,rfl,hown,hb1⟩;go_wp2
 go_ret
 exact⟨v,rfl,by rw [E1.out];exact⟨hown.1,by
  rcases hown.2 with h | ⟨g,cap,cur,hv,hg,rest⟩;·exact .inl h
  ·exact .inr ⟨g,cap,cur,hv,by have:=hb0.size;omega,rest⟩⟩,hb0.trans (hb1.mono hb0.size)⟩
theorem zz(A:Option Addr)(r c:Nat)(t:List Int)(B:Option Addr)(n d:Nat)(l:List Pt)(w:World)(ht:dW w A r t)(hl:me w B n l)(hr:r<=4611686018427387904)(hn:n<=4611686018427387904) : Calls Tryz.prog 22 #[.agg #[.slice A r c],.slice B n d] w fun e w'=>∃v,e= .returned (.tuple #[v,.int .i64 (bZ t l)])/\w'.ownsRow w.heap.size 47 2 v (iI t l).length ((iI t l).flatMap o4)/\Below w.heap.size w w':=by
 have hb0:=bE w (.cells #[.slice A r c] 59);have hbx:=cP.new w 59 #[.slice A r c];by_cases h0:bZ t l=0
 ·have e1:iI t l=dG t l:=by simp [iI,h0]
  have E1:=Lib.hid e1;have H0:=Lib.hid h0;clear e1 h0;go_enter Tryz.func22,Tryz.ntmps22
  go_wp2_with fail
  generalize w.alloc (.cells #[.slice A r c] 59)=w0 at*;refine(qg A r c t B n d l w0 (ht.bA hb0) hr (hl.bA hb0) hn).mono ?_;rintro e w1 ⟨rfl,hw1⟩;have hb1:=hb0.trans (hw1.mono hb0.size);have d1:w1.cell? ⟨w.heap.size,0,none⟩=some (.slice A r c):=(hbx.bA hw1).cell 0;rw [H0.out];go_wp2_with fail
  refine(AN A r c t B n d l w1 (ht.bA hb1) (hl.bA hb1) H0.out).mono ?_;rintro e w2 ⟨v,rfl,hown,hw2⟩;go_wp2
  go_ret2
  refine⟨v,by rw [H0.out];rfl,?_,hb1.trans (hw2.mono hb1.size)⟩;rw [E1.out];refine⟨hown.1,?_⟩;rcases hown.2 with h | ⟨g,cap,cur,hv,hg,rest⟩;·exact .inl h
  ·exact .inr ⟨g,cap,cur,hv,by have:=hb1.size;omega,rest⟩
 ·have d0:(bZ t l !=0)=true:=by simpa using h0
  have e1:iI t l=[]:=by simp [iI,h0]
  have E1:=Lib.hid e1;clear e1;go_enter Tryz.func22,Tryz.ntmps22
  go_wp2_with fail
  generalize w.alloc (.cells #[.slice A r c] 59)=w0 at*;refine(qg A r c t B n d l w0 (ht.bA hb0) hr (hl.bA hb0) hn).mono ?_;rintro e w1 ⟨rfl,hw1⟩;go_wp2
  go_ret2
  exact⟨_,rfl,by rw [E1.out];exact World.ownsRow_nil _ _ _ _,hb0.trans (hw1.mono hb0.size)⟩
end Go.Proofs.YtjmbpjlojjgggaaGreatDoor
