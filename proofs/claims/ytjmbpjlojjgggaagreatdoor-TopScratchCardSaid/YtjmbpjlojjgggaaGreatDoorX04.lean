/-
  Several texts in one: Which tips and grooves are valid; what a tip reads and sweeps, by the program. No condition but the sizes of slices. .. Cuts of a groove on a blank, in plain Lean: the rules, the edges in the order of a search, the outermost cut. Conditions: told in each theorem.
-/
import Derived.Deep.RegionHeld3
import Derived.Deep.DeepCutAuto
import Derived.Test.YtjmbpjlojjgggaaGreatDoorX03
import Derived.Test.YtjmbpjlojjgggaaGreatDoorMD
set_option maxRecDepth 100000
set_option maxHeartbeats 1000000
namespace Go.Proofs.YtjmbpjlojjgggaaGreatDoor
open Go.RowKit Go.Dw Go.Shelf
def lY(x lo hi:Int):Bool:=decide (lo<=x) && decide (x<=hi)
def j3(p:Pt):Bool:=lY p.1 (-4194304) 4194304 && lY p.2 (-4194304) 4194304
theorem uv(p:Pt):j3 p=true<-> -4194304<=p.1/\p.1<=4194304/\ -4194304<=p.2/\p.2<=4194304:=by simp [j3,lY];omega
def bZ(l:List Pt):Int:=if 4096< l.length then 6 else if l.all j3 then 0 else 2
theorem pM{l:List Pt}(h:bZ l=0):l.length<=4096/\∀p∈l, -4194304<=p.1/\p.1<=4194304/\ -4194304<=p.2/\p.2<=4194304:=by
 unfold bZ at h;split at h;·omega
 ·split at h;·rename_i h2;exact⟨by omega,fun p hp=>(uv p).1 (List.all_eq_true.1 h2 p hp)⟩
  ·omega
theorem tJ(x lo hi:Int)(w:World):Calls Tryz.prog 108 #[.int .i64 x,.int .i64 lo,.int .i64 hi] w fun e w'=>e= .returned (.bool (lY x lo hi))/\w=w':=by
 go_enter Tryz.func108,Tryz.ntmps108
 go_wp2
 all_goals
  go_ret
  refine⟨?_,rfl⟩
  simp [lY, *]
 omega
theorem xL(a b:Int)(w:World):Calls Tryz.prog 127 #[.agg #[.int .i64 a,.int .i64 b]] w fun e w'=>e= .returned (.bool (j3 (a,b)))/\Below w.heap.size w w':=by
 have hb:=bC w (.cells #[.int .i64 a,.int .i64 b] 47);cases h:lY a (-4194304) 4194304;all_goals
  go_enter Tryz.func127,Tryz.ntmps127
  go_wp2_with ((with_reducible refine(tJ _ _ _ _).mono ?_);rintro e w' ⟨rfl,rfl⟩)
  go_ret
  exact⟨by simp [j3,h],hb⟩
theorem tH{l:List Pt}{k:Nat}(h:k< l.length):(l.take (k+1)).all j3=((l.take k).all j3 && j3 (gp l k)):=by rw [wH h,List.all_append];simp
theorem vE{l:List Pt}{k:Nat}(h4:¬4096< l.length)(hk:k< l.length)(h:j3 (gp l k)=false):bZ l=2:=by unfold bZ;rw [if_neg h4,if_neg];intro ha;have:=List.all_eq_true.1 ha (gp l k) (Al hk);rw [h]at this;cases this
theorem tK{l:List Pt}(h4:¬4096< l.length)(h:l.all j3=true):bZ l=0:=by unfold bZ;rw [if_neg h4,if_pos h]
theorem kM(A:Option Addr)(n c:Nat)(l:List Pt)(w:World)(hl:l9 w A n l)(hn:n<=4611686018427387904) : Calls Tryz.prog 76 #[.slice A n c] w fun e w'=>e= .returned (.int .i64 (bZ l))/\Below w.heap.size w w':=by
 have hl1:=hl.1;by_cases h4:4096< n
 ·go_enter Tryz.func76,Tryz.ntmps76
  go_wp2
  go_ret
  exact⟨dn (by rw [bZ,if_pos oM]),Below.refl _ _⟩
 ·have Hl:=Lib.hid hl1;clear hl1;go_enter Tryz.func76,Tryz.ntmps76
  go_wp2
  go_loopw [10] (fun i wr=>∃k:Nat,k<=n/\i= .int .i64 k/\(l.take k).all j3=true/\Below w.heap.size w wr) (fun i _=>n- (intOf i).toNat)
  case atStart=>exact⟨0,Nat.zero_le _,rfl,rfl,Below.refl _ _⟩
  case round=>
   obtain⟨k,hk,rfl,hall,hbl⟩:=hrel
   have Hall:=Lib.hid hall
   clear hall
   by_cases hlt:k< n
   ·obtain⟨b,o,rfl,hb,hc1,hc2⟩:=AL (hl.bz hbl) hlt;have hx:=hbl.trans ((bC wr (.cells #[.int .i64 (gp l k).1,.int .i64 (gp l k).2] 47)).mono hbl.size);cases he:j3 ((gp l k).1,(gp l k).2);all_goals
     have He:=Lib.hid he
     clear he
     go_wp2_with ((with_reducible refine(xL _ _ _).mono ?_);rintro e w' ⟨rfl,hw'⟩;rw [He.out])
    ·go_ret
     exact⟨dn (by rw [vE (by rw [Hl.out];exact h4) (by rw [Hl.out];exact hlt) He.out]),hx.trans (hw'.mono hx.size)⟩
    ·go_roundw
     case rel=>exact⟨k+1,by omega,by go_num,by rw [tH (by rw [Hl.out];exact hlt),Hall.out];exact He.out,hx.trans (hw'.mono hx.size)⟩
     case measure=>simp [intOf];omega
   ·obtain rfl:k=n:=by omega
    go_wp2
    go_ret
    have h:=Hall.out;rw [List.take_of_length_le (by rw [Hl.out];exact Nat.le_refl _)]at h;exact⟨dn (by rw [tK (by rw [Hl.out];exact h4) h]),hbl⟩
def cH(t:List Int)(k:Nat):Bool:=if k=0 then gi t 0 !=0 else decide (gi t k< gi t (k- 1)) || decide (4194304< gi t k)
def bJ(t:List Int):Int:=if t.length=0\/64< t.length then 6 else if(List.range t.length).any (cH t)then 2 else 0
theorem fV{t:List Int}(h:t.length=0\/64< t.length):bJ t=6:=by rw [bJ,if_pos h]
theorem nr{t:List Int}{k:Nat}(h:¬(t.length=0\/64< t.length))(hk:k< t.length)(hb:cH t k=true):bJ t=2:=by rw [bJ,if_neg h,if_pos];rw [List.any_eq_true];exact⟨k,List.mem_range.2 hk,hb⟩
theorem mc{t:List Int}(h:¬(t.length=0\/64< t.length))(hb:∀k,k< t.length->cH t k=false):bJ t=0:=by rw [bJ,if_neg h,if_neg];rw [List.any_eq_true];rintro⟨k,hk,e⟩;rw [hb k (List.mem_range.1 hk)]at e;cases e
theorem kN{t:List Int}(h:bJ t=0):0< t.length/\t.length<=64/\gi t 0=0/\(∀k,k+1< t.length->gi t k<=gi t (k+1))/\∀x∈t,0<=x/\x<=4194304:=by
 unfold bJ at h;split at h;·omega
 ·split at h;·omega
  ·rename_i h1 h2;have hb:∀k,k< t.length->cH t k=false:=fun k hk=>by
    cases e:cH t k with
    |false=>rfl
    |true=>exact absurd (List.any_eq_true.2 ⟨k,List.mem_range.2 hk,e⟩) h2
   have h0:gi t 0=0:=by have:=hb 0 oM;simpa [cH]using this
   have hs:∀k,k+1< t.length->gi t k<=gi t (k+1)/\gi t (k+1)<=4194304:=fun k hk=>by have:=hb (k+1) hk;simp [cH]at this;omega
   refine⟨by omega,by omega,h0,fun k hk=>(hs k hk).1,?_⟩;rw [fc (p:=fun x=>0<=x/\x<=4194304)];intro k;induction k with
   |zero=>intro _;rw [h0];omega
   |succ k ih=>intro hk;have:=ih oM;have:=hs k hk;omega
theorem rB(A:Option Addr)(n c:Nat)(t:List Int)(w:World)(hl:dQ w A n t)(hn:n<=4611686018427387904) :
    Calls Tryz.prog 115 #[.agg #[.slice A n c]] w fun e w'=>e= .returned (.int .i64 (bJ t))/\Below w.heap.size w w':=by
  have hb0:=bC w (.cells #[.slice A n c] 59)
  have hbx:=cM.new w 59 #[.slice A n c]
  have Hl:=Lib.hid hl.1
  by_cases h0:n=0
  · subst h0
    have d0:((0:Int) == 0)=true:=rfl
    go_enter Tryz.func115,Tryz.ntmps115
    go_wp2
    all_goals go_ret
    all_goals exact⟨dn (by rw [fV (by rw [Hl.out];omega)]),hb0⟩
  · have d0:((n:Int) == 0)=false:=beq_eq_false_iff_ne.2 oM
    by_cases h64:64< n
    · have d1:decide ((64:Int)< (n:Int))=true:=by simp;omega
      go_enter Tryz.func115,Tryz.ntmps115
      go_wp2
      all_goals go_ret
      all_goals exact⟨dn (by rw [fV (by rw [Hl.out];omega)]),hb0⟩
    · have d1:decide ((64:Int)< (n:Int))=false:=by simp;omega
      go_enter Tryz.func115,Tryz.ntmps115
      go_wp2
      generalize w.alloc (.cells #[.slice A n c] 59)=w0 at*
      have hl0:=hl.bz hb0
      go_loop [3,19] (fun last i=>∃k:Nat,k<=n/\i= .int .i64 k/\last= .int .i64 (if k=0 then 0 else gi t (k- 1))/\∀j,j< k->cH t j=false) (fun _ i=>n- (intOf i).toNat)
      case atStart=>exact⟨0,Nat.zero_le _,rfl,rfl,fun j hj=>absurd hj oM⟩
      case round=>
        obtain⟨k,hk,rfl,rfl,hall⟩:=hrel
        have Hall:=Lib.hid hall
        clear hall
        by_cases hlt:k< n
        · obtain⟨b,o,rfl,hb,hc1⟩:=ints_at hl0 hlt
          have key:(cH t k=true->bJ t=2):=fun h=>nr (by rw [Hl.out];omega) (by rw [Hl.out];exact hlt) h
          have Key:=Lib.hid key
          clear key
          have next:cH t k=false->∀j,j< k+1->cH t j=false:=fun h j hj=>by
            by_cases e:j=k
            · subst e;exact h
            · exact Hall.out j oM
          have Next:=Lib.hid next
          clear next
          by_cases hk0:k=0
          · subst hk0
            rw [Nat.add_zero]at hc1
            simp only [if_true]
            go_wp2
            all_goals first
              | (go_ret;exact⟨dn (by rw [Key.out (by simp [cH];simp at *;omega)]),hb0⟩)
              | (go_round
                 case rel=>exact⟨1,by omega,by go_num,by simp,Next.out (by simp [cH];simp at *;omega)⟩
                 case measure=>simp [intOf];omega)
          · have dk:((k:Int) == 0)=false:=beq_eq_false_iff_ne.2 oM
            simp only [hk0,if_false]
            go_wp2
            all_goals first
              | (go_ret;exact⟨dn (by rw [Key.out (by simp [cH,hk0];simp at *;omega)]),hb0⟩)
              | (go_round
                 case rel=>exact⟨k+1,by omega,by go_num,by simp,Next.out (by simp [cH,hk0];simp at *;omega)⟩
                 case measure=>simp [intOf];omega)
        · obtain rfl:k=n:=by omega
          go_wp2
          go_ret
          exact⟨dn (by rw [mc (by rw [Hl.out];omega) (by rw [Hl.out];exact Hall.out)]),hb0⟩
theorem nV(A:Option Addr)(n c:Nat)(t:List Int)(w:World)(hl:dQ w A n t)(hn:n<=4611686018427387904) :
    Calls Tryz.prog 19 #[.agg #[.slice A n c]] w fun e w'=>e= .returned (.int .i64 (bJ t))/\Below w.heap.size w w':=by
  have hb0:=bC w (.cells #[.slice A n c] 59)
  have hbx:=cM.new w 59 #[.slice A n c]
  have Hl:=Lib.hid hl.1
  by_cases h0:n=0
  · subst h0
    have d0:((0:Int) == 0)=true:=rfl
    go_enter Tryz.func19,Tryz.ntmps19
    go_wp2
    all_goals go_ret
    all_goals exact⟨dn (by rw [fV (by rw [Hl.out];omega)]),hb0⟩
  · have d0:((n:Int) == 0)=false:=beq_eq_false_iff_ne.2 oM
    by_cases h64:64< n
    · have d1:decide ((64:Int)< (n:Int))=true:=by simp;omega
      go_enter Tryz.func19,Tryz.ntmps19
      go_wp2
      all_goals go_ret
      all_goals exact⟨dn (by rw [fV (by rw [Hl.out];omega)]),hb0⟩
    · have d1:decide ((64:Int)< (n:Int))=false:=by simp;omega
      go_enter Tryz.func19,Tryz.ntmps19
      go_wp2
      generalize w.alloc (.cells #[.slice A n c] 59)=w0 at*
      have hl0:=hl.bz hb0
      go_loopw [4] (fun i wr=>∃k:Nat,k<=n/\i= .int .i64 k/\(∀j,j< k->cH t j=false)/\Below w0.heap.size w0 wr) (fun i _=>n- (intOf i).toNat)
      case atStart=>exact⟨0,Nat.zero_le _,rfl,fun j hj=>absurd hj oM,Below.refl _ _⟩
      case round=>
        obtain⟨k,hk,rfl,hall,hbw⟩:=hrel
        have Hall:=Lib.hid hall
        clear hall
        have hbr:Below w.heap.size w wr:=hb0.trans (hbw.mono hb0.size)
        by_cases hlt:k< n
        · have hcx:wr.cell? ⟨w.heap.size,0,none⟩=some (.slice A n c):=(hbx.bz hbw).cell 0
          have hc1:=ints_at (hl0.bz hbw) hlt
          have key:(cH t k=true->bJ t=2):=fun h=>nr (by rw [Hl.out];omega) (by rw [Hl.out];exact hlt) h
          have Key:=Lib.hid key
          clear key
          have next:cH t k=false->∀j,j< k+1->cH t j=false:=fun h j hj=>by
            by_cases e:j=k
            · subst e;exact h
            · exact Hall.out j oM
          have Next:=Lib.hid next
          clear next
          cases k with
          |zero=>
            obtain⟨b,o,rfl,hb,hc1⟩:=hc1
            rw [Nat.add_zero]at hc1
            have n0:(0:Int)< (n:Int):=by omega
            by_cases hz:gi t 0=0
            · rw [hz]at hc1
              go_wp2
              go_quiet (fail)
              go_wp2
              go_roundw
              case rel=>exact⟨1,by omega,by go_num,Next.out (by simp [cH,hz]),f9 hbw _⟩
              case measure=>simp [intOf];omega
            · have dz:(gi t 0 !=0)=true:=by simpa using hz
              go_wp2
              go_quiet (fail)
              go_wp2
              go_ret
              exact⟨dn (by rw [Key.out (by simp [cH,hz])]),f9 hbr _⟩
          |succ j=>
            obtain⟨b,o,rfl,hb,hc1⟩:=hc1
            obtain⟨b',o',hA,hb',hc2⟩:=ints_at (hl0.bz hbw) (show j< n by omega)
            injection hA with hA;injection hA with hA1 hA2;subst hA1 hA2
            have n0:((j:Int)+1:Int)< (n:Int):=by omega
            have n1:(0:Int)<=(j:Int)+1:=by omega
            have n2:((j:Int)+1).toNat=j+1:=by omega
            have n3:IntKind.i64.wrap ((j:Int)+1- 1)=(j:Int):=by rw [IntWalk.i64_in _ oM];omega
            have n4:(j:Int)< (n:Int):=by omega
            have d2:((j:Int)+1 == 0)=false:=beq_eq_false_iff_ne.2 oM
            have d3:decide ((0:Int)< (j:Int)+1)=true:=decide_eq_true oM
            have hTB:cH t (j+1)=(decide (gi t (j+1)< gi t j) || decide (4194304< gi t (j+1))):=by simp [cH]
            have HTB:=Lib.hid hTB
            clear hTB
            by_cases h1:gi t (j+1)< gi t j
            · have d4:decide (gi t (j+1)< gi t j)=true:=by simpa using h1
              have hq:=Key.out (by rw [HTB.out];simp [h1])
              have HQ:=Lib.hid hq
              clear hq
              go_wp2
              go_quiet (fail)
              go_wp2
              go_ret
              exact⟨dn (by rw [HQ.out]),f9 hbr _⟩
            · have d4:decide (gi t (j+1)< gi t j)=false:=by simpa using h1
              by_cases h2:4194304< gi t (j+1)
              · have d5:decide (4194304< gi t (j+1))=true:=by simpa using h2
                have hq:=Key.out (by rw [HTB.out];simp [h2])
                have HQ:=Lib.hid hq
                clear hq
                go_wp2
                go_quiet (fail)
                go_wp2
                go_ret
                exact⟨dn (by rw [HQ.out]),f9 hbr _⟩
              · have d5:decide (4194304< gi t (j+1))=false:=by simpa using h2
                have hq:=Next.out (by rw [HTB.out];simp;try omega)
                have HQ:=Lib.hid hq
                clear hq
                go_wp2
                go_quiet (fail)
                go_wp2
                go_roundw
                case rel=>exact⟨j+2,by omega,by go_num,HQ.out,f9 hbw _⟩
                case measure=>simp [intOf];omega
        · obtain rfl:k=n:=by omega
          go_wp2
          go_ret
          exact⟨dn (by rw [mc (by rw [Hl.out];omega) (by rw [Hl.out];exact Hall.out)]),hbr⟩
def bS(t:List Int)(l:List Pt):Int:=if bJ t=0 then bZ l else bJ t
theorem pN(A:Option Addr)(n c:Nat)(t:List Int)(B:Option Addr)(m d:Nat)(l:List Pt)(w:World)(ht:dQ w A n t)(hn:n<=4611686018427387904)(hl:l9 w B m l)(hm:m<=4611686018427387904) : Calls Tryz.prog 69 #[.agg #[.slice A n c],.slice B m d] w fun e w'=>e= .returned (.int .i64 (bS t l))/\Below w.heap.size w w':=by
 have hb0:=bC w (.cells #[.slice A n c] 59);go_enter Tryz.func69,Tryz.ntmps69
 go_wp2_with fail
 generalize w.alloc (.cells #[.slice A n c] 59)=w0 at*;refine(rB A n c t w0 (ht.bz hb0) hn).mono ?_;rintro e w1 ⟨rfl,hw1⟩;have hb1:=hb0.trans (hw1.mono hb0.size);by_cases h0:bJ t=0
 ·have e0:bS t l=bZ l:=by simp [bS,h0]
  have E0:=Lib.hid e0;clear e0;rw [h0];go_wp2_with fail
  refine(kM B m d l w1 (hl.bz hb1) hm).mono ?_;rintro e w2 ⟨rfl,hw2⟩;go_wp2
  go_ret
  exact⟨dn (by rw [E0.out]),hb1.trans (hw2.mono hb1.size)⟩
 ·have e0:bS t l=bJ t:=by simp [bS,h0]
  have E0:=Lib.hid e0;clear e0;have d0:(bJ t !=0)=true:=by simpa using h0
  go_wp2
  go_ret
  exact⟨dn (by rw [E0.out]),hb1⟩
theorem pR(down:Bool)(lo hi:Int):∀(vs:List Int) (f:Int),lo<=f->f<=hi->(∀v∈vs,if down then v<=hi else lo<=v)->lo<=ir down f vs/\ir down f vs<=hi
 | [],f,h1,h2,_=>⟨h1,h2⟩
 |v::vs,f,h1,h2,h3=>by
  have hv:=h3 v (by simp);refine pR down lo hi vs (iO down v f) ?_ ?_ (fun x hx=>h3 x (by simp [hx]));·cases down <;> simp [iO]at hv ⊢ <;> omega
  ·cases down <;> simp [iO]at hv ⊢ <;> omega
theorem B9{i n r k:Nat}(hk:k< fC i n r):aL i r+k< n/\cQ (aL i r+k) i< r:=by unfold fC aL cQ at *;omega
theorem wL(t h:List Int)(down:Bool)(i:Nat)(lo hi:Int)(hi':i< h.length)(hh:∀x∈h,lo<=x/\x<=hi)(ht:∀x∈t,0<=x):lo<=gH t h down i/\gH t h down i<=hi:=by have h0:=(fc.1 hh) i hi';refine pR down lo hi _ _ h0.1 h0.2 ?_;intro v hv;simp only [List.mem_map,List.mem_range]at hv;obtain⟨k,hk,rfl⟩:=hv;obtain⟨k1,k2⟩:=B9 hk;have h1:=(fc.1 hh) _ k1;have h2:=(fc (p:=fun x=>0<=x) |>.1 ht) _ k2;cases down <;> simp <;> omega
theorem n9(t h:List Int)(down:Bool):(jx t h down).length=h.length:=by simp [jx]
theorem zf(t h:List Int)(down:Bool)(lo hi:Int)(hh:∀x∈h,lo<=x/\x<=hi)(ht:∀x∈t,0<=x):∀x∈jx t h down,lo<=x/\x<=hi:=by intro x hx;simp only [jx,List.mem_map,List.mem_range]at hx;obtain⟨i,hi',rfl⟩:=hx;exact wL t h down i lo hi hi' hh ht
theorem uL{l:List Pt}(hl:∀p∈l, -4194304<=p.1/\p.1<=4194304/\ -4194304<=p.2/\p.2<=4194304)(inn:Bool):∀x∈l.map (kz inn), -4194304<=x/\x<=4194304:=by intro x hx;obtain⟨p,hp,rfl⟩:=List.mem_map.1 hx;have:=hl p hp;cases inn <;> simp [kz] <;> omega
def qa(t h:List Int):List Int:=jx t h false
def eS(t:List Int)(l:List Pt):List Pt:=fS (qa t) l
theorem HN(g:Nat)(At:Option Addr)(r ct n:Nat)(t h:List Int)(w:World)(hb:cM w g 59 #[.slice At r ct])(ht:dQ w At r t)(hn:n<=65536)(hr:r<=65536) (hhb:∀x∈h, -4194304<=x/\x<=4194304) (htb:∀x∈t,0<=x/\x<=4194304):Np 117 #[.pointer (some ⟨g,0,none⟩)] (qa t) n h w:=by
 intro A c W hW hh;have d1:W.cell? ⟨g,0,none⟩=some (.slice At r ct):=(hb.bz hW).cell 0;show Calls Tryz.prog 117 #[.slice A n c,.pointer (some ⟨g,0,none⟩)] W _;go_enter Tryz.func117,Tryz.ntmps117
 go_wp2_with fail
 refine(Bd At A r ct n c t h false W hn hr (ht.bz hW) hh (fun x hx=>by have:=hhb x hx;omega) (fun x hx=>by have:=htb x hx;omega)).mono ?_;rintro e w' ⟨g',hg,rfl,hbg,hbw⟩;go_wp2
 go_ret
 exact⟨g',hg,rfl,hbg,hbw⟩
def iD(t:List Int)(l:List Pt):List Pt:=if bS t l=0 then eS t l else []
theorem vD{t:List Int}{l:List Pt}(h:bS t l=0):bJ t=0/\bZ l=0:=by
 unfold bS at h;by_cases h0:bJ t=0;·rw [if_pos h0]at h;exact⟨h0,h⟩
 ·rw [if_neg h0]at h;exact absurd h h0
theorem AP(A:Option Addr)(r c:Nat)(t:List Int)(B:Option Addr)(n d:Nat)(l:List Pt)(w:World)(ht:dQ w A r t)(hl:l9 w B n l)(h0:bS t l=0) : Calls Tryz.prog 70 #[.agg #[.slice A r c],.slice B n d] w fun e w'=>∃v,e= .returned v/\w'.ownsRow w.heap.size 47 2 v (eS t l).length ((eS t l).flatMap oD)/\Below w.heap.size w w':=by
 obtain⟨k1,k2⟩:=vD h0;obtain⟨m1,m2,_,_,m3⟩:=kN k1;obtain⟨m4,m5⟩:=pM k2;have hb0:=bC w (.cells #[.slice A r c] 59);have hbx:=cM.new w 59 #[.slice A r c];have q1:=hl.1;have q2:=ht.1;have e1:(eS t l).length=n:=by simp [eS,fS,e7,q1]
 have Q1:=Lib.hid q1;have Q2:=Lib.hid q2;have E1:=Lib.hid e1;clear h0 k1 k2 e1;go_enter Tryz.func70,Tryz.ntmps70
 go_wp2_with fail
 generalize w.alloc (.cells #[.slice A r c] 59)=w0 at*;refine(zi B n d l 117 _ (qa t) w0 (hl.bz hb0) oM m5 (fun args w=>enters_of Tryz.func117 kR rfl args w)
  (fun inn=>HN _ A r c n t _ w0 hbx (ht.bz hb0) oM oM (uL m5 inn) m3) (fun inn=>by simp [qa,jx,Q1.out])
  (fun inn x hx=>by have:=zf t _ false _ _ (uL m5 inn) (fun y hy=>(m3 y hy).1) x hx;omega)).mono ?_
 rintro e w1 ⟨v,rfl,hown,hb1⟩;go_wp2
 go_ret
 exact⟨v,rfl,by rw [E1.out];exact⟨hown.1,by
  rcases hown.2 with h | ⟨g,cap,cur,hv,hg,rest⟩;·exact .inl h
  ·exact .inr ⟨g,cap,cur,hv,by have:=hb0.size;omega,rest⟩⟩,hb0.trans (hb1.mono hb0.size)⟩
theorem zF(A:Option Addr)(r c:Nat)(t:List Int)(B:Option Addr)(n d:Nat)(l:List Pt)(w:World)(ht:dQ w A r t)(hl:l9 w B n l)(hr:r<=4611686018427387904)(hn:n<=4611686018427387904) : Calls Tryz.prog 22 #[.agg #[.slice A r c],.slice B n d] w fun e w'=>∃v,e= .returned (.tuple #[v,.int .i64 (bS t l)])/\w'.ownsRow w.heap.size 47 2 v (iD t l).length ((iD t l).flatMap oD)/\Below w.heap.size w w':=by
 have hb0:=bC w (.cells #[.slice A r c] 59);have hbx:=cM.new w 59 #[.slice A r c];by_cases h0:bS t l=0
 ·have e1:iD t l=eS t l:=by simp [iD,h0]
  have E1:=Lib.hid e1;have H0:=Lib.hid h0;clear e1 h0;go_enter Tryz.func22,Tryz.ntmps22
  go_wp2_with fail
  generalize w.alloc (.cells #[.slice A r c] 59)=w0 at*;refine(pN A r c t B n d l w0 (ht.bz hb0) hr (hl.bz hb0) hn).mono ?_;rintro e w1 ⟨rfl,hw1⟩;have hb1:=hb0.trans (hw1.mono hb0.size);have d1:w1.cell? ⟨w.heap.size,0,none⟩=some (.slice A r c):=(hbx.bz hw1).cell 0;rw [H0.out];go_wp2_with fail
  refine(AP A r c t B n d l w1 (ht.bz hb1) (hl.bz hb1) H0.out).mono ?_;rintro e w2 ⟨v,rfl,hown,hw2⟩;go_wp2
  go_ret2
  refine⟨v,by rw [H0.out];rfl,?_,hb1.trans (hw2.mono hb1.size)⟩;rw [E1.out];refine⟨hown.1,?_⟩;rcases hown.2 with h | ⟨g,cap,cur,hv,hg,rest⟩;·exact .inl h
  ·exact .inr ⟨g,cap,cur,hv,by have:=hb1.size;omega,rest⟩
 ·have d0:(bS t l !=0)=true:=by simpa using h0
  have e1:iD t l=[]:=by simp [iD,h0]
  have E1:=Lib.hid e1;clear e1;go_enter Tryz.func22,Tryz.ntmps22
  go_wp2_with fail
  generalize w.alloc (.cells #[.slice A r c] 59)=w0 at*;refine(pN A r c t B n d l w0 (ht.bz hb0) hr (hl.bz hb0) hn).mono ?_;rintro e w1 ⟨rfl,hw1⟩;go_wp2
  go_ret2
  exact⟨_,rfl,by rw [E1.out];exact World.ownsRow_nil _ _ _ _,hb0.trans (hw1.mono hb0.size)⟩
open Go.Ab
structure BE where
  f:Nat
  t:Nat
  w:Int
  rule:Int
  at':Int
structure BS where
  r:Nat->Int
  la:Nat->Option BE
  ch:Option Nat
  lc:Nat->Int
  ti:Nat->Nat
  clk:Nat
def BS.step(k:Int)(s:BS)(e:BE):BS:=
 if s.r e.f+e.w< s.r e.t then⟨bL s.r e.t (s.r e.f+e.w),bL s.la e.t (some e),some e.t,bL s.lc e.t k,bL s.ti e.t (s.clk+1),s.clk+1⟩else s
def BS.to(k:Int)(s:BS)(E:List BE):Nat->BS
 |0=>s
 |j+1=>match E[j]? with
  |some e=>(BS.to k s E j).step k e
  |none=>BS.to k s E j
def BS.begin(s:BS):BS:={s with ch:=none}
def BS.pass(k:Int)(E:List BE)(s:BS):BS:=s.begin.to k E E.length
def BS.init(i:Nat->Int):BS:=⟨i,fun _=>none,none,fun _=> -1,fun _=>0,0⟩
def BS.rounds(E:List BE)(i:Nat->Int):Nat->BS
 |0=> .init i
 |k+1=>(BS.rounds E i k).pass k E
def Bx(n:Nat)(E:List BE)(i g:Nat->Int):Prop:=(∀v,v< n->g v<=i v)/\∀e∈E,g e.t<=g e.f+e.w
def wQ(n:Nat)(E:List BE):Prop:=∀e∈E,e.f< n/\e.t< n
section
variable {n:Nat}{E:List BE}{i g:Nat->Int}{s:BS}{k:Int}
theorem Cv(e:BE)(v:Nat):(s.step k e).r v<=s.r v:=by
 unfold BS.step;split
 ·by_cases h:v=e.t;·subst h;simp only [ak];omega
  ·simp only [ah _ _ h];omega
 ·omega
theorem y6(h:∀e∈E,g e.t<=g e.f+e.w)(hs:∀v,v< n->g v<=s.r v)(hE:wQ n E){e:BE}(he:e∈E):∀v,v< n->g v<=(s.step k e).r v:=by
  intro v hv
  unfold BS.step
  split
  · by_cases h1:v=e.t
    · subst h1
      simp only [ak]
      have:=h e he
      have:=hs e.f (hE e he).1
      omega
    · simp only [ah _ _ h1];exact hs v hv
  · exact hs v hv
theorem n7{j:Nat}{e:BE}(h:E[j]?=some e):s.to k E (j+1)=(s.to k E j).step k e:=by rw [BS.to,h]
theorem m6(p:Nat->BS->Prop)(h0:p 0 s)(hs:∀j e s',E[j]?=some e->p j s'->p (j+1) (s'.step k e)):∀j,j<=E.length->p j (s.to k E j)
 |0,_=>h0
 |j+1,h=>by have e:E[j]?=some E[j]:=List.getElem?_eq_getElem oM;rw [n7 e];exact hs j _ _ e (m6 p h0 hs j oM)
structure jB(n:Nat)(E:List BE)(i:Nat->Int)(k:Int)(j:Nat)(s:BS):Prop where
  k0:0<=k
  le:∀v,v< n->s.r v<=i v
  sol:∀g,Bx n E i g->∀v,v< n->g v<=s.r v
  non:∀v,v< n->s.la v=none->s.lc v= -1/\s.r v=i v
  lcl:∀v, -1<=s.lc v/\s.lc v<=k
  par:∀v e,v< n->s.la v=some e->e∈E/\e.t=v/\0<=s.lc v/\s.lc v- 1<=s.lc e.f
  sat1:∀m e,m< j->E[m]?=some e->s.lc e.f< k->s.r e.t<=s.r e.f+e.w
  sat2:∀m e,j<=m->E[m]?=some e->s.lc e.f< k- 1->s.r e.t<=s.r e.f+e.w
  tim:∀v e,v< n->s.la v=some e->(s.r v=s.r e.f+e.w/\s.ti e.f< s.ti v)\/s.r e.f+e.w< s.r v
  clk:∀v,s.ti v<=s.clk
  chg:∀v,s.ch=some v->v< n/\s.lc v=k
theorem jB.step{j:Nat}{e:BE}(hE:wQ n E)(hns:∀e∈E,e.f≠e.t)(he:E[j]?=some e)(h:jB n E i k j s):jB n E i k (j+1) (s.step k e):=by
 have hm:=List.mem_of_getElem? he;obtain⟨hf,ht⟩:=hE e hm;have hne:=hns e hm;unfold BS.step;split
 ·rename_i hlt;have hlc:k- 1<=s.lc e.f:=by refine Int.not_lt.1 fun hc=> ?_;have:=h.sat2 j e (Nat.le_refl _) he hc;omega
  have rle:∀v,bL s.r e.t (s.r e.f+e.w) v<=s.r v:=fun v=>by
   by_cases hv:v=e.t;·subst hv;rw [ak];omega
   ·rw [ah _ _ hv];omega
  have hk0:=h.k0;refine⟨hk0,fun v hv=>Int.le_trans (rle v) (h.le v hv),fun g hg v hv=> ?_,fun v hv hn=> ?_,fun v=> ?_,fun v e' hv hl=> ?_,fun m e' hm' he' hc=> ?_,fun m e' hm' he' hc=> ?_,fun v e' hv hl=> ?_,fun v=> ?_,fun v hv=> ?_⟩
  ·(try dsimp only at *)
   have:=y6 (k:=k) hg.2 (h.sol g hg) hE hm v hv;unfold BS.step at this;rwa [if_pos hlt]at this
  ·(try dsimp only at *)
   by_cases h1:v=e.t;·subst h1;simp only [ak]at hn;cases hn
   ·simp only [ah _ _ h1]at hn ⊢;exact h.non v hv hn
  ·(try dsimp only at *)
   by_cases h1:v=e.t;·subst h1;simp only [ak];have:=(h.lcl e.f).2;have:=(h.lcl e.t);omega
   ·simp only [ah _ _ h1];exact h.lcl v
  ·(try dsimp only at *)
   by_cases h1:v=e.t;·subst h1;simp only [ak,Option.some.injEq]at hl ⊢;subst hl;rw [ah _ _ hne];have:=(h.lcl e.t);exact⟨hm,rfl,by omega,hlc⟩
   ·simp only [ah _ _ h1]at hl ⊢;obtain⟨a,b,c,d⟩:=h.par v e' hv hl;refine⟨a,b,c,?_⟩;by_cases h2:e'.f=e.t;·rw [h2,ak];have:=(h.lcl v).2;omega
    ·rw [ah _ _ h2];exact d
  ·(try dsimp only at *)
   by_cases h2:e'.f=e.t;·rw [h2,ak]at hc;omega
   ·rw [ah _ _ h2]at hc;rw [ah _ _ h2];by_cases h3:m=j
    ·subst h3;rw [he]at he';injection he' with he';subst he'
     rw [ak];omega
    ·have:=h.sat1 m e' oM he' hc;have:=rle e'.t;omega
  ·(try dsimp only at *)
   by_cases h2:e'.f=e.t;·rw [h2,ak]at hc;omega
   ·rw [ah _ _ h2]at hc;rw [ah _ _ h2];have:=h.sat2 m e' oM he' hc;have:=rle e'.t;omega
  ·(try dsimp only at *)
   by_cases h1:v=e.t;·subst h1;simp only [ak,Option.some.injEq]at hl ⊢;subst hl;rw [ah _ _ hne,ah _ _ hne];left;have:=h.clk e.f;exact⟨rfl,by omega⟩
   ·simp only [ah _ _ h1]at hl ⊢;have:=h.tim v e' hv hl;by_cases h2:e'.f=e.t;·right;rw [h2,ak];rw [h2]at this;omega
    ·rw [ah _ _ h2,ah _ _ h2];exact this
  ·(try dsimp only at *)
   have:=h.clk v;by_cases h1:v=e.t;·subst h1;simp only [ak];omega
   ·simp only [ah _ _ h1];omega
  ·(try dsimp only at *)
   simp only [Option.some.injEq]at hv;subst hv;simp only [ak];exact⟨ht,trivial⟩
 ·rename_i hlt;refine⟨h.k0,h.le,h.sol,h.non,h.lcl,h.par,fun m e' hm' he' hc=> ?_,fun m e' hm' he' hc=>h.sat2 m e' oM he' hc,h.tim,h.clk,h.chg⟩;by_cases h3:m=j
  ·subst h3;rw [he]at he';injection he' with he';subst he'
   omega
  ·exact h.sat1 m e' oM he' hc
theorem jB.begin(h:jB n E i k E.length s):jB n E i (k+1) 0 s.begin:=
  ⟨by have:=h.k0;omega,h.le,h.sol,h.non,fun v=>by have:=h.lcl v;exact⟨this.1,by simp only [BS.begin];omega⟩,h.par,fun m e' hm'=>by omega,
   fun m e' _ he' hc=>h.sat1 m e' (List.getElem?_eq_some_iff.1 he').1 he' (by simp only [BS.begin]at hc;omega),h.tim,h.clk,fun v hv=>by simp [BS.begin]at hv⟩
theorem jB.init:jB n E i 0 0 (BS.init i).begin:=
  ⟨Int.le_refl _,fun v _=>Int.le_refl _,fun g hg v hv=>hg.1 v hv,fun v _ _=>⟨rfl,rfl⟩,fun v=>⟨Int.le_refl _,by simp [BS.init,BS.begin]⟩,fun v e _ h=>by simp [BS.init,BS.begin]at h,fun m e hm=>by omega,
   fun m e _ _ hc=>by simp [BS.init,BS.begin]at hc,fun v e _ h=>by simp [BS.init,BS.begin]at h,fun v=>Nat.le_refl _,fun v hv=>by simp [BS.begin]at hv⟩
theorem BK(hE:wQ n E)(hns:∀e∈E,e.f≠e.t){j:Nat}(hj:j<=E.length)(h:jB n E i k 0 s):jB n E i k j (s.to k E j):= m6 (fun j s=>jB n E i k j s) h (fun _ _ _ he h=>h.step hE hns he) j hj
theorem e9(hE:wQ n E)(hns:∀e∈E,e.f≠e.t):∀k:Nat,jB n E i k 0 (BS.rounds E i k).begin
 |0=> .init
 |k+1=>by have h:=BK hE hns (Nat.le_refl _) (e9 hE hns k);exact h.begin
theorem IP(hE:wQ n E)(hns:∀e∈E,e.f≠e.t)(k:Nat){j:Nat}(hj:j<=E.length):jB n E i k j ((BS.rounds E i k).begin.to k E j):=BK hE hns hj (e9 hE hns k)
theorem J5{j:Nat}(hj:j<=E.length)(h:(s.begin.to k E j).ch=none):s.begin.to k E j=s.begin/\∀m e,m< j->E[m]?=some e->s.r e.t<=s.r e.f+e.w:=by
 induction j with
 |zero=>exact⟨rfl,fun m e hm=>by omega⟩
 |succ j ih=>
  have e:E[j]?=some E[j]:=List.getElem?_eq_getElem oM;rw [n7 e]at h ⊢;unfold BS.step at h ⊢;split at h;·cases h
  ·rename_i hlt;obtain⟨h1,h2⟩:=ih oM h;rw [if_neg hlt];refine⟨h1,fun m e' hm he'=> ?_⟩;by_cases hmj:m=j
   ·subst hmj;rw [e]at he';injection he' with he';subst he'
    rw [h1]at hlt;simp only [BS.begin]at hlt;omega
   ·exact h2 m e' oM he'
theorem oV(h:(s.pass k E).ch=none):s.pass k E=s.begin/\∀e∈E,s.r e.t<=s.r e.f+e.w:=by obtain⟨h1,h2⟩:=J5 (Nat.le_refl _) h;exact⟨h1,fun e he=>by obtain⟨m,hm,rfl⟩:=List.getElem_of_mem he;exact h2 m _ hm (List.getElem?_eq_getElem hm)⟩
theorem BQ(hE:wQ n E)(hns:∀e∈E,e.f≠e.t){k:Nat}(h:((BS.rounds E i k).pass k E).ch=none):Bx n E i (BS.rounds E i k).r:=by exact⟨fun v hv=>(e9 (i:=i) hE hns k).le v hv,(oV h).2⟩
def jk(n:Nat)(p:Nat->Bool):Nat:=((List.range n).filter p).length
theorem gY(n:Nat)(p:Nat->Bool):jk (n+1) p=jk n p+if p n then 1 else 0:=by unfold jk;rw [List.range_succ,List.filter_append,List.length_append];cases hp:p n <;> simp [hp]
theorem vF{p q:Nat->Bool}:∀n,(∀v,v< n->q v=true->p v=true)->jk n q<=jk n p
 |0,_=>Nat.le_refl _
 |n+1,h=>by have ih:=vF n fun v hv=>h v oM;rw [gY,gY];have:=h n oM;cases hq:q n <;> cases hp:p n <;> simp_all <;> omega
theorem vG{p q:Nat->Bool}{v:Nat}:∀n,(∀v,v< n->q v=true->p v=true)->v< n->p v=true->q v=false->jk n q< jk n p
 |0,_,h,_,_=>by omega
 |n+1,h,hv,hp,hq=>by
  rw [gY,gY];by_cases hn:v=n;·subst hn;have ih:=vF v fun u hu=>h u oM;rw [hp,hq];simp;omega
  ·have ih:=vG (p:=p) (q:=q) n (fun v hv=>h v oM) oM hp hq;have:=h n oM;cases hq:q n <;> cases hp:p n <;> simp_all <;> omega
theorem xH{p:Nat->Bool}:∀n,0< jk n p->∃v,v< n/\p v=true
 |0,h=>by simp [jk]at h
 |n+1,h=>by
  rw [gY]at h;by_cases hp:p n=true;·exact⟨n,by omega,hp⟩
  ·obtain⟨v,hv,h⟩:=xH n (by simp only [hp]at h;simpa using h);exact⟨v,by omega,h⟩
def lA(g:Nat->Int):Nat->Int
 |0=>0
 |n+1=>lA g n+g n
theorem qO{g g':Nat->Int}:∀n,(∀v,v< n->g v<=g' v)->lA g n<=lA g' n
 |0,_=>Int.le_refl _
 |n+1,h=>by have:=qO n fun v hv=>h v oM;have:=h n oM;simp only [lA];omega
theorem Cw{g g':Nat->Int}{v:Nat}:∀n,(∀v,v< n->g v<=g' v)->v< n->g v< g' v->lA g n< lA g' n
 |0,_,h,_=>by omega
 |n+1,h,hv,hlt=>by
  simp only [lA];by_cases hn:v=n;·subst hn;have:=qO v fun u hu=>h u oM;omega
  ·have:=Cw (v:=v) n (fun u hu=>h u oM) oM hlt;have:=h n oM;omega
theorem JY(h:∃g,Bx n E i g):∃g,Bx n E i g/\∀g',Bx n E i g'->lA g' n<=lA g n:=by obtain⟨m,⟨g,hg,hm⟩,hl⟩:=least (fun m=>∃g,Bx n E i g/\m=(lA i n- lA g n).toNat) (by obtain⟨g,hg⟩:=h;exact⟨_,g,hg,rfl⟩);refine⟨g,hg,fun g' hg'=> ?_⟩;have h1:=hl _ ⟨g',hg',rfl⟩;have h2:=qO n hg.1;have h3:=qO n hg'.1;omega
def ja(g:Nat->Int)(s:BS)(v:Nat):Bool:=decide (s.r v≠g v)
theorem tight(hg:Bx n E i g)(hmax:∀g',Bx n E i g'->lA g' n<=lA g n)(hE:wQ n E)(hle:∀v,v< n->s.r v<=i v)(hge:∀v,v< n->g v<=s.r v)(hp:0< jk n (ja g s)) : ∃e∈E,ja g s e.f=false/\ja g s e.t=true/\g e.t=g e.f+e.w:=by
 refine Classical.byContradiction fun hno=> ?_;obtain⟨v,hv,hv1⟩:=xH n hp;have hs:Bx n E i fun v=>if v< n/\ja g s v=true then g v+1 else g v:=by
  refine⟨fun v hv=> ?_,fun e he=> ?_⟩
  ·dsimp only;by_cases h1:v< n/\ja g s v=true;·simp only [if_pos h1];have h2:=hge v hv;have h3:=hle v hv;have h4:s.r v≠g v:=of_decide_eq_true h1.2;omega
   ·simp only [if_neg h1];exact hg.1 v hv
  ·have h1:=hg.2 e he;obtain⟨hf,ht⟩:=hE e he;cases h2:ja g s e.t with
   |false=>dsimp only;rw [if_neg (by simp [h2])];split <;> omega
   |true=>
    cases h3:ja g s e.f with
    |true=>dsimp only;rw [if_pos ⟨ht,h2⟩,if_pos ⟨hf,h3⟩];omega
    |false=>dsimp only;rw [if_pos ⟨ht,h2⟩,if_neg (by simp [h3])];have:g e.t≠g e.f+e.w:=fun h4=>hno ⟨e,he,h3,h2,h4⟩;omega
 have h1:=hmax _ hs;have h2:lA g n< lA (fun v=>if v< n/\ja g s v=true then g v+1 else g v) n:=Cw (v:=v) n (fun u hu=>by split <;> omega) hv (by rw [if_pos ⟨hv,hv1⟩];omega);omega
theorem HO(v:Nat):∀j,j<=E.length->(s.to k E j).r v<=s.r v:=by intro j hj;exact m6 (fun _ s'=>s'.r v<=s.r v) (Int.le_refl _) (fun _ e s' _ h=>Int.le_trans (Cv e v) h) j hj
theorem Hg(hg:Bx n E i g)(hmax:∀g',Bx n E i g'->lA g' n<=lA g n)(hE:wQ n E)(hle:∀v,v< n->s.r v<=i v)(hge:∀v,v< n->g v<=s.r v)(hp:0< jk n (ja g s)) : jk n (ja g (s.pass k E))< jk n (ja g s):=by
 obtain⟨e,he,h1,h2,h3⟩:=tight hg hmax hE hle hge hp;obtain⟨m,hm,rfl⟩:=List.getElem_of_mem he;obtain⟨hf,ht⟩:=hE _ he;have hge':∀j,j<=E.length->∀v,v< n->g v<=(s.begin.to k E j).r v:=fun j hj=> m6 (s:=s.begin) (k:=k) (fun _ s'=>∀v,v< n->g v<=s'.r v) hge (fun _ e s' he h=>y6 hg.2 h hE (List.mem_of_getElem? he)) j hj;have hq:∀v,v< n->ja g (s.pass k E) v=true->ja g s v=true:=fun v hv h=>by have a:=HO (s:=s.begin) (k:=k) (E:=E) v E.length (Nat.le_refl _);have b:=hge' E.length (Nat.le_refl _) v hv;have c:=hge v hv;have d:(s.pass k E).r v≠g v:=of_decide_eq_true h;refine decide_eq_true ?_;simp only [BS.pass,BS.begin]at a b d ⊢;omega
 refine vG (v:=(E[m]).t) n hq ht h2 (decide_eq_false ?_);simp only [ne_eq,Classical.not_not];have hfin:s.r (E[m]).f=g (E[m]).f:=by simpa [ja]using h1
 have em:E[m]?=some E[m]:=List.getElem?_eq_getElem hm;have h5:(s.begin.to k E (m+1)).r (E[m]).t<=g (E[m]).t:=by
  rw [n7 em];have a:=HO (s:=s.begin) (k:=k) (E:=E) (E[m]).f m oM;have b:=hge' m oM (E[m]).f hf;simp only [BS.begin]at a b;unfold BS.step;split;·simp only [ak,BS.begin];omega
  ·rename_i hlt;simp only [BS.begin]at hlt ⊢;omega
 have h6:∀d,m+1+d<=E.length->(s.begin.to k E (m+1+d)).r (E[m]).t<=g (E[m]).t:=by
  intro d;induction d with
  |zero=>intro _;exact h5
  |succ d ih=>intro hd;have ed:E[m+1+d]?=some E[m+1+d]:=List.getElem?_eq_getElem oM;rw [show m+1+(d+1)=(m+1+d)+1 by omega,n7 ed];exact Int.le_trans (Cv _ _) (ih oM)
 have h7:=h6 (E.length- (m+1)) oM;rw [show m+1+(E.length- (m+1))=E.length by omega]at h7;have h8:=hge' E.length (Nat.le_refl _) (E[m]).t ht;exact Int.le_antisymm h7 h8
theorem xG(p:Nat->Bool):∀n,jk n p<=n
 |0=>Nat.le_refl _
 |n+1=>by have:=xG p n;rw [gY];split <;> omega
theorem sH(hE:wQ n E)(hns:∀e∈E,e.f≠e.t)(h:∃g,Bx n E i g){k:Nat}(hk:n<=k):((BS.rounds E i k).pass k E).ch=none:=by
 obtain⟨g,hg,hmax⟩:=JY h;have hb:=fun k=>e9 (i:=i) hE hns k;have cnt:∀k:Nat,jk n (ja g (BS.rounds E i k))<=n- k:=by
  intro k;induction k with
  |zero=>exact xG _ n
  |succ k ih=>
   by_cases hp:0< jk n (ja g (BS.rounds E i k));·have:=Hg (s:=BS.rounds E i k) (k:=(k:Int)) hg hmax hE (hb k).le ((hb k).sol g hg) hp;rw [BS.rounds];omega
   ·have h0:jk n (ja g (BS.rounds E i k))=0:=by omega
    have hle:jk n (ja g (BS.rounds E i (k+1)))<=jk n (ja g (BS.rounds E i k)):=by refine vF n fun v hv h=> ?_;have a:=HO (s:=(BS.rounds E i k).begin) (k:=(k:Int)) (E:=E) v E.length (Nat.le_refl _);have b:=(hb (k+1)).sol g hg v hv;have c:=(hb k).sol g hg v hv;have d:(BS.rounds E i (k+1)).r v≠g v:=of_decide_eq_true h;refine decide_eq_true ?_;simp only [BS.rounds,BS.pass,BS.begin]at a b c d ⊢;omega
    omega
 have h0:jk n (ja g (BS.rounds E i k))=0:=by have:=cnt k;omega
 have hfin:∀v,v< n->(BS.rounds E i k).r v=g v:=fun v hv=>by refine Classical.byContradiction fun hne=> ?_;have:=vG (p:=ja g (BS.rounds E i k)) (q:=fun _=>false) (v:=v) n (fun _ _ h=>by cases h) hv (decide_eq_true hne) rfl;omega
 have:∀j,j<=E.length->((BS.rounds E i k).begin.to k E j)=(BS.rounds E i k).begin:=fun j hj=> m6 (fun _ s'=>s'=(BS.rounds E i k).begin) rfl (fun j e s' he h=>by subst h;have hm:=List.mem_of_getElem? he;obtain⟨hf,ht⟩:=hE e hm;have:=hg.2 e hm;unfold BS.step;rw [if_neg];simp only [BS.begin];rw [hfin _ hf,hfin _ ht];omega) j hj;rw [BS.pass,this E.length (Nat.le_refl _)];rfl
def BS.up(s:BS)(v:Nat):Nat:=match s.la v with
 |some e=>e.f
 |none=>v
def BS.fY(s:BS)(v:Nat):Nat->Nat
 |0=>v
 |m+1=>s.up (BS.fY s v m)
theorem gX(s:BS)(v a:Nat):∀b,s.fY v (a+b)=s.fY (s.fY v a) b
 |0=>rfl
 |b+1=>by show s.up (s.fY v (a+b))=s.up (s.fY (s.fY v a) b);rw [gX s v a b]
theorem BH{j:Nat}(hE:wQ n E)(h:jB n E i k j s){v:Nat}(hv:v< n)(hk:s.lc v=k):∀m:Nat,(m:Int)<=k->s.fY v m< n/\k- m<=s.lc (s.fY v m)
 |0,_=>⟨hv,by simp only [BS.fY];omega⟩
 |m+1,hm=>by
  obtain⟨h1,h2⟩:=BH hE h hv hk m oM;cases hl:s.la (s.fY v m)with
  |none=>have:=(h.non _ h1 hl).1;omega
  |some e=>
   obtain⟨a,b,c,d⟩:=h.par _ e h1 hl;have e1:s.fY v (m+1)=e.f:=by show s.up (s.fY v m)=e.f;rw [BS.up,hl]
   rw [e1];exact⟨(hE e a).1,by omega⟩
theorem AH:∀(n:Nat) (f:Nat->Nat),(∀m,m<=n->f m< n)->∃a b,a< b/\b<=n/\f a=f b
  |0,f,h=>by have:=h 0 (Nat.le_refl _);omega
  |n+1,f,h=>by
    by_cases hd:∃a,a<=n/\f a=f (n+1)
    · obtain⟨a,ha,he⟩:=hd
      exact⟨a,n+1,by omega,Nat.le_refl _,he⟩
    · -- put the last value out
      have hne:∀a,a<=n->f a≠f (n+1):=fun a ha he=>hd ⟨a,ha,he⟩
      obtain⟨a,b,hab,hb,he⟩:=AH n (fun m=>if f m< f (n+1)then f m else f m- 1) fun m hm=>by
        have h1:=h m oM
        have h2:=h (n+1) (Nat.le_refl _)
        have h3:=hne m hm
        split <;> omega
      refine⟨a,b,hab,by omega,?_⟩
      have h3:=hne a oM
      have h4:=hne b hb
      split at he <;> split at he <;> omega
theorem Dj{j:Nat}(hE:wQ n E)(h:jB n E i k j s){v:Nat}(hv:v< n)(hk:s.lc v=k)(hn:(n:Int)< k) : ∃p,0< p/\s.fY (s.fY v n) p=s.fY v n/\∀m,s.fY v m< n/\∃e,s.la (s.fY v m)=some e/\e.f< n/\s.fY v (m+1)=e.f:=by
 have hb:=fun(m:Nat) (hm:(m:Int)<=k)=>BH hE h hv hk m hm;obtain⟨a,b,hab,hbn,he⟩:=AH n (fun m=>s.fY v m) fun m hm=>(hb m oM).1;have per:∀d,s.fY v (a+d)=s.fY v (b+d):=fun d=>by rw [gX,gX,he]
 have hlt:∀m,∃m',m'<=n/\s.fY v m=s.fY v m':=by
  intro m;induction m using Nat.strongRecOn with
  |_ m ih=>
   by_cases hm:m<=n;·exact⟨m,hm,rfl⟩
   ·obtain⟨m',h1,h2⟩:=ih (m- (b- a)) oM;refine⟨m',h1,?_⟩;rw [<-h2];have:=per (m- b);rw [show b+(m- b)=m by omega,show a+(m- b)=m- (b- a) by omega]at this;exact this.symm
 refine⟨b- a,by omega,?_,fun m=> ?_⟩;·rw [<-gX];have:=per (n- a);rw [show a+(n- a)=n by omega,show b+(n- a)=n+(b- a) by omega]at this;exact this.symm
 ·obtain⟨m',h1,h2⟩:=hlt m;obtain⟨q1,q2⟩:=hb m' oM;refine⟨by rw [h2];exact q1,?_⟩;cases hl:s.la (s.fY v m)with
  |none=>rw [h2]at hl;have:=(h.non _ q1 hl).1;omega
  |some e=>
   have hq:s.fY v m< n:=by rw [h2];exact q1
   obtain⟨a1,_⟩:=h.par _ e hq hl;refine⟨e,rfl,(hE e a1).1,?_⟩;show s.up (s.fY v m)=e.f;rw [BS.up,hl]
theorem MY{j:Nat}(h:jB n E i k j s)(hs:∀e∈E,s.r e.t<=s.r e.f+e.w){v:Nat}{e:BE}(hv:v< n)(hl:s.la v=some e):e∈E/\s.ti e.f< s.ti v:=by
 obtain⟨a,b,_⟩:=h.par v e hv hl;refine⟨a,?_⟩;have h1:=hs e a;rw [b]at h1;rcases h.tim v e hv hl with⟨_,h2⟩ |h2;·exact h2
 ·omega
theorem GJ{M:Int}(hM:0<=M)(hE:wQ n E)(hw:∀e∈E, -M<=e.w){c:Nat}(h:∀v,v< n-> -(M*(c:Int))<=s.r v):∀j,j<=E.length->∀v,v< n-> -(M*((c+j:Nat):Int))<=(s.to k E j).r v:=by
  intro j hj
  refine m6 (fun j s'=>∀v,v< n-> -(M*((c+j:Nat):Int))<=s'.r v) h (fun j e s' he h v hv=> ?_) j hj
  have hm:=List.mem_of_getElem? he
  have e1:M*((c+(j+1):Nat):Int)=M*((c+j:Nat):Int)+M:=by
    rw [show((c+(j+1):Nat):Int)=((c+j:Nat):Int)+1 by omega,Int.mul_add,Int.mul_one]
  rw [e1]
  unfold BS.step
  split
  · by_cases h1:v=e.t
    · subst h1
      simp only [ak]
      have:=h e.f (hE e hm).1
      have:=hw e hm
      omega
    · simp only [ah _ _ h1]
      have:=h v hv
      omega
  · have:=h v hv
    omega
theorem r9{M:Int}(hM:0<=M)(hE:wQ n E)(hw:∀e∈E, -M<=e.w)(hi:∀v,v< n-> -M<=i v):∀k:Nat,∀v,v< n-> -(M*((1+k*E.length:Nat):Int))<=(BS.rounds E i k).r v
 |0,v,hv=>by have:=hi v hv;simp only [BS.rounds,BS.init,Nat.zero_mul,Nat.add_zero];simpa using this
 |k+1,v,hv=>by have:=GJ (k:=(k:Int)) (s:=(BS.rounds E i k).begin) hM hE hw (c:=1+k*E.length) (r9 hM hE hw hi k) E.length (Nat.le_refl _) v hv;rw [show 1+(k+1)*E.length=1+k*E.length+E.length by rw [Nat.succ_mul];omega];exact this
theorem Mp{M:Int}(hM:0<=M)(hE:wQ n E)(hw:∀e∈E, -M<=e.w)(hi:∀v,v< n-> -M<=i v)(k j:Nat)(hj:j<=E.length){v:Nat}(hv:v< n): -(M*((1+(k+1)*E.length:Nat):Int))<=((BS.rounds E i k).begin.to k E j).r v:=by
 have:=GJ (k:=(k:Int)) (s:=(BS.rounds E i k).begin) hM hE hw (c:=1+k*E.length) (r9 hM hE hw hi k) j hj v hv;have h2:(1+k*E.length+j:Nat)<=1+(k+1)*E.length:=by rw [Nat.succ_mul];omega
 have h3:=Int.mul_le_mul_of_nonneg_left (show((1+k*E.length+j:Nat):Int)<=((1+(k+1)*E.length:Nat):Int) by omega) hM;omega
end
structure Bl where
  per:Int
  rim:Int
  core:Int
  land:Int
  slow:Int
  fast:Int
def Bl.ok(b:Bl):Prop:=(1<=b.per/\b.per<=65536)/\(0<=b.rim/\b.rim<=4194304)/\(0<=b.core/\b.core<=b.rim)/\(0<=b.land/\b.land<=65536)/\(0<=b.fast/\b.fast<=65536)/\0<=b.slow/\b.slow<=b.fast
def lz(b:Bl)(i:Nat):BE:=⟨i- 1,i, -b.slow,3,i⟩
def kY(b:Bl)(l:List Pt)(i:Nat):BE:=⟨i- b.per.toNat,i,(gp l (i- b.per.toNat)).1- (gp l i).2- b.land,5,i⟩
def me(b:Bl)(i:Nat):BE:=⟨i,i- 1,b.fast,4,i⟩
def wS(b:Bl)(l:List Pt)(i:Nat):List BE:=(if 0< i then [lz b i]else [])++if b.per.toNat<=i then [kY b l i]else []
def kg(b:Bl)(l:List Pt)(n:Nat):List BE:=(List.range n).flatMap (wS b l)
def yE(b:Bl)(n m:Nat):List BE:=(List.range m).map fun k=>me b (n- 1- k)
def bu(b:Bl)(l:List Pt):List BE:=kg b l l.length++yE b l.length (l.length- 1)
def dI(b:Bl)(l:List Pt)(i:Nat):Int:=b.rim- (gp l i).2
def tE(b:Bl)(l:List Pt)(g:Nat->Int):Prop:=∀v,v< l.length->g v+(gp l v).2<=b.rim/\(0< v->b.slow<=g (v- 1)- g v/\g (v- 1)- g v<=b.fast)/\(b.per.toNat<=v->b.land<=g (v- b.per.toNat)+(gp l (v- b.per.toNat)).1- (g v+(gp l v).2))
def zA(b:Bl)(l:List Pt)(g:Nat->Int):Prop:=tE b l g/\∀v,v< l.length->b.core<=g v+(gp l v).1
def zB(b:Bl)(l:List Pt)(o:List Int):Prop:=o.length=l.length/\zA b l (gi o)/\∀g,tE b l g->∀v,v< l.length->g v<=gi o v
theorem BV{b:Bl}{l:List Pt}{i:Nat}{e:BE}:e∈wS b l i<->(0< i/\e=lz b i)\/(b.per.toNat<=i/\e=kY b l i):=by
 unfold wS;rw [List.mem_append];constructor
 ·rintro(h |h)
  ·split at h;·exact .inl ⟨by assumption,by simpa using h⟩
   ·cases h
  ·split at h;·exact .inr ⟨by assumption,by simpa using h⟩
   ·cases h
 ·rintro(⟨h1,rfl⟩ | ⟨h1,rfl⟩);·left;rw [if_pos h1];simp
  ·right;rw [if_pos h1];simp
theorem fL{b:Bl}{l:List Pt}{e:BE}:e∈bu b l<->(∃i,i< l.length/\((0< i/\e=lz b i)\/(b.per.toNat<=i/\e=kY b l i)))\/∃i,0< i/\i< l.length/\e=me b i:=by
 unfold bu kg yE;rw [List.mem_append,List.mem_flatMap,List.mem_map];constructor
 ·rintro(⟨i,hi,h⟩ | ⟨k,hk,rfl⟩);·exact .inl ⟨i,List.mem_range.1 hi,BV.1 h⟩
  ·have:=List.mem_range.1 hk;exact .inr ⟨l.length- 1- k,by omega,by omega,rfl⟩
 ·rintro(⟨i,hi,h⟩ | ⟨i,h1,h2,rfl⟩);·exact .inl ⟨i,List.mem_range.2 hi,BV.2 h⟩
  ·exact .inr ⟨l.length- 1- i,List.mem_range.2 oM,by rw [show l.length- 1- (l.length- 1- i)=i by omega]⟩
section
variable {b:Bl}{l:List Pt}
theorem xN(hb:1<=b.per):wQ l.length (bu b l)/\∀e∈bu b l,e.f≠e.t:=by constructor <;> intro e he <;> rcases fL.1 he with⟨i,hi,⟨h1,rfl⟩ | ⟨h1,rfl⟩⟩ | ⟨i,h1,h2,rfl⟩ <;> simp only [lz,kY,me] <;> omega
theorem lV{g:Nat->Int}:Bx l.length (bu b l) (dI b l) g<->tE b l g:=by
 constructor
 ·rintro⟨h1,h2⟩ v hv;refine⟨by have:=h1 v hv;unfold dI at this;omega,fun h0=> ?_,fun hp=> ?_⟩;·have a:=h2 (lz b v) (fL.2 (.inl ⟨v,hv,.inl ⟨h0,rfl⟩⟩));have c:=h2 (me b v) (fL.2 (.inr ⟨v,h0,hv,rfl⟩));simp only [lz,me]at a c;omega
  ·have a:=h2 (kY b l v) (fL.2 (.inl ⟨v,hv,.inr ⟨hp,rfl⟩⟩));simp only [kY]at a;omega
 ·intro h;refine⟨fun v hv=>by have:=(h v hv).1;unfold dI;omega,fun e he=> ?_⟩;rcases fL.1 he with⟨i,hi,⟨h1,rfl⟩ | ⟨h1,rfl⟩⟩ | ⟨i,h1,h2,rfl⟩;·have:=((h i hi).2.1 h1).1;simp only [lz];omega
  ·have:=(h i hi).2.2 h1;simp only [kY];omega
  ·have:=((h i h2).2.1 h1).2;simp only [me];omega
theorem rH:(bu b l).length<=3*l.length:=by
 unfold bu kg yE;have h:∀n,((List.range n).flatMap (wS b l)).length<=2*n:=by
  intro n;induction n with
  |zero=>simp
  |succ n ih=>
   rw [List.range_succ,List.flatMap_append,List.length_append];have:([n].flatMap (wS b l)).length<=2:=by simp only [List.flatMap_cons,List.flatMap_nil,List.append_nil,wS,List.length_append];split <;> split <;> simp
   omega
 have:=h l.length;rw [List.length_append,List.length_map,List.length_range];omega
theorem tE.anti{l':List Pt}{g:Nat->Int}(h:tE b l g)(hl:l'.length=l.length)(hi:∀v,v< l.length->(gp l v).1<=(gp l' v).1)(ho:∀v,v< l.length->(gp l' v).2<=(gp l v).2):tE b l' g:=by intro v hv;rw [hl]at hv;obtain⟨h1,h2,h3⟩:=h v hv;have a:=ho v hv;refine⟨by omega,h2,fun hp=> ?_⟩;have:=h3 hp;have c:=hi (v- b.per.toNat) oM;omega
theorem JB{g:Nat->Int}(hb:1<=b.per)(h:zA b l g):∃o,zB b l o:=by
 obtain⟨hE,hns⟩:=xN (l:=l) hb;have hs:∃g,Bx l.length (bu b l) (dI b l) g:=⟨g,lV.2 h.1⟩;have he:=sH hE hns hs (Nat.le_refl _);have hf:=BQ hE hns he;have hge:=(e9 (i:=dI b l) hE hns l.length).sol;obtain⟨o,ho⟩:∃o,o=(List.range l.length).map (BS.rounds (bu b l) (dI b l) l.length).r:=⟨_,rfl⟩;have hlen:o.length=l.length:=by rw [ho];simp
 have hgi:∀v,v< l.length->gi o v=(BS.rounds (bu b l) (dI b l) l.length).r v:=fun v hv=>by rw [ho];simp [gi,hv]
 have key:tE b l (gi o):=by
  have h1:=lV.1 hf;intro v hv;obtain⟨a,c,d⟩:=h1 v hv;rw [hgi v hv];refine⟨a,fun h0=> ?_,fun hp=> ?_⟩;·rw [hgi (v- 1) oM];exact c h0
  ·rw [hgi (v- b.per.toNat) oM];exact d hp
 have hmax:∀g,tE b l g->∀v,v< l.length->g v<=gi o v:=fun g hg v hv=>by rw [hgi v hv];exact hge g (lV.2 hg) v hv
 exact⟨o,hlen,⟨key,fun v hv=>by have:=h.2 v hv;have:=hmax g h.1 v hv;omega⟩,hmax⟩
end
end Go.Proofs.YtjmbpjlojjgggaaGreatDoor
