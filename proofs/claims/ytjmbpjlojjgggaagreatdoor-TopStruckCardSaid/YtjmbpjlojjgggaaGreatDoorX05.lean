/-
  Several texts in one: What a tip reads and sweeps: the exported Read and Sweep. No condition but the sizes of slices. .. The examples of the chapter hold of the program: Works returns true. No condition.
-/
import Derived.Deep.RegionHeld3
import Derived.Deep.DeepCutAuto
import Derived.Test.YtjmbpjlojjgggaaGreatDoorX04
namespace Go.Proofs.YtjmbpjlojjgggaaGreatDoor
open Go.RowKit Go.Dw Go.Shelf
def checkBoth(t:List Int)(l:List Pt):Int:=if checkTip t=0 then checkPts l else checkTip t
theorem check_calls(A:Option Addr)(n c:Nat)(t:List Int)(B:Option Addr)(m d:Nat)(l:List Pt)(w:World)(ht:IntsAt w A n t)(hn:n≤4611686018427387904)(hl:PtsAt w B m l)(hm:m≤4611686018427387904) :
  Calls Tryz.prog 69 #[.agg #[.slice A n c],.slice B m d] w fun e w'=>e= .returned (.int .i64 (checkBoth t l))∧Below w.heap.size w w':=by
 have hb0:=below_new w (.cells #[.slice A n c] 59)
 go_enter Tryz.func69,Tryz.ntmps69
 go_wp2_with fail
 generalize w.alloc (.cells #[.slice A n c] 59)=w0 at*
 refine(checkTip_calls A n c t w0 (ht.below' hb0) hn).mono ?_
 rintro e w1 ⟨rfl,hw1⟩
 have hb1:=hb0.trans (hw1.mono hb0.size)
 by_cases h0:checkTip t=0
 ·
  have e0:checkBoth t l=checkPts l:=by simp [checkBoth,h0]
  have E0:=Lib.hid e0
  clear e0
  rw [h0]
  go_wp2_with fail
  refine(checkPts_calls B m d l w1 (hl.below' hb1) hm).mono ?_
  rintro e w2 ⟨rfl,hw2⟩
  go_wp2
  go_ret
  exact⟨ret_int (by rw [E0.out]),hb1.trans (hw2.mono hb1.size)⟩
 ·
  have e0:checkBoth t l=checkTip t:=by simp [checkBoth,h0]
  have E0:=Lib.hid e0
  clear e0
  have d0:(checkTip t !=0)=true:=by simpa using h0
  go_wp2
  go_ret
  exact⟨ret_int (by rw [E0.out]),hb1⟩
theorem foldB_bound(down:Bool)(lo hi:Int):∀(vs:List Int) (f:Int),lo≤f→f≤hi→(∀v∈vs,if down then v≤hi else lo≤v)→lo≤foldB down f vs∧foldB down f vs≤hi
 | [],f,h1,h2,_=>⟨h1,h2⟩
 |v::vs,f,h1,h2,h3=>by
  have hv:=h3 v (by simp)
  refine foldB_bound down lo hi vs (pickB down v f) ?_ ?_ (fun x hx=>h3 x (by simp [hx]))
  ·
   cases down <;> simp [pickB]at hv ⊢ <;> omega
  ·
   cases down <;> simp [pickB]at hv ⊢ <;> omega
theorem near_lt{i n r k:Nat}(hk:k< nearN i n r):nearLo i r+k< n∧dist (nearLo i r+k) i< r:=by
 unfold nearN nearLo dist at *;omega
theorem walkAt_bound(t h:List Int)(down:Bool)(i:Nat)(lo hi:Int)(hi':i< h.length)(hh:∀x∈h,lo≤x∧x≤hi)(ht:∀x∈t,0≤x):lo≤walkAt t h down i∧walkAt t h down i≤hi:=by
 have h0:=(forall_gi.1 hh) i hi'
 refine foldB_bound down lo hi _ _ h0.1 h0.2 ?_
 intro v hv
 simp only [List.mem_map,List.mem_range]at hv
 obtain⟨k,hk,rfl⟩:=hv
 obtain⟨k1,k2⟩:=near_lt hk
 have h1:=(forall_gi.1 hh) _ k1
 have h2:=(forall_gi (p:=fun x=>0≤x) |>.1 ht) _ k2
 cases down <;> simp <;> omega
theorem walkL_bound(t h:List Int)(down:Bool)(lo hi:Int)(hh:∀x∈h,lo≤x∧x≤hi)(ht:∀x∈t,0≤x):∀x∈walkL t h down,lo≤x∧x≤hi:=by
 intro x hx
 simp only [walkL,List.mem_map,List.mem_range]at hx
 obtain⟨i,hi',rfl⟩:=hx
 exact walkAt_bound t h down i lo hi hi' hh ht
theorem ofE_bound{l:List Pt}(hl:∀p∈l, -4194304≤p.1∧p.1≤4194304∧ -4194304≤p.2∧p.2≤4194304)(inn:Bool):∀x∈l.map (ofE inn), -4194304≤x∧x≤4194304:=by
 intro x hx
 obtain⟨p,hp,rfl⟩:=List.mem_map.1 hx
 have:=hl p hp
 cases inn <;> simp [ofE] <;> omega
def readT(t h:List Int):List Int:=walkL t h false
def readP(t:List Int)(l:List Pt):List Pt:=wallsT (readT t) l
set_option maxHeartbeats 1000000 in
theorem thr_read(g:Nat)(At:Option Addr)(r ct n:Nat)(t h:List Int)(w:World)(hb:Box w g 59 #[.slice At r ct])(ht:IntsAt w At r t)(hn:n≤65536)(hr:r≤65536)
  (hhb:∀x∈h, -4194304≤x∧x≤4194304) (htb:∀x∈t,0≤x∧x≤4194304):Thr 117 #[.pointer (some ⟨g,0,none⟩)] (readT t) n h w:=by
 intro A c W hW hh
 have d1:W.cell? ⟨g,0,none⟩=some (.slice At r ct):=(hb.below' hW).cell 0
 show Calls Tryz.prog 117 #[.slice A n c,.pointer (some ⟨g,0,none⟩)] W _
 go_enter Tryz.func117,Tryz.ntmps117
 go_wp2_with fail
 refine(walk_calls At A r ct n c t h false W hn hr (ht.below' hW) hh (fun x hx=>by have:=hhb x hx;omega) (fun x hx=>by have:=htb x hx;omega)).mono ?_
 rintro e w' ⟨g',hg,rfl,hbg,hbw⟩
 go_wp2
 go_ret
 exact⟨g',hg,rfl,hbg,hbw⟩
def wallsR(t:List Int)(l:List Pt):List Pt:=if checkBoth t l=0 then readP t l else []
theorem checkBoth_ok{t:List Int}{l:List Pt}(h:checkBoth t l=0):checkTip t=0∧checkPts l=0:=by
 unfold checkBoth at h
 by_cases h0:checkTip t=0
 ·
  rw [if_pos h0]at h;exact⟨h0,h⟩
 ·
  rw [if_neg h0]at h;exact absurd h h0
set_option maxHeartbeats 1000000 in
theorem read_calls(A:Option Addr)(r c:Nat)(t:List Int)(B:Option Addr)(n d:Nat)(l:List Pt)(w:World)(ht:IntsAt w A r t)(hl:PtsAt w B n l)(h0:checkBoth t l=0) :
  Calls Tryz.prog 70 #[.agg #[.slice A r c],.slice B n d] w fun e w'=>∃v,e= .returned v∧w'.ownsRow w.heap.size 47 2 v (readP t l).length ((readP t l).flatMap encP)∧Below w.heap.size w w':=by
 obtain⟨k1,k2⟩:=checkBoth_ok h0
 obtain⟨m1,m2,_,_,m3⟩:=checkTip_ok k1
 obtain⟨m4,m5⟩:=checkPts_ok k2
 have hb0:=below_new w (.cells #[.slice A r c] 59)
 have hbx:=Box.new w 59 #[.slice A r c]
 have q1:=hl.1
 have q2:=ht.1
 have e1:(readP t l).length=n:=by simp [readP,wallsT,wallsP,q1]
 have Q1:=Lib.hid q1
 have Q2:=Lib.hid q2
 have E1:=Lib.hid e1
 clear h0 k1 k2 e1
 go_enter Tryz.func70,Tryz.ntmps70
 go_wp2_with fail
 generalize w.alloc (.cells #[.slice A r c] 59)=w0 at*
 refine(walls_calls B n d l 117 _ (readT t) w0 (hl.below' hb0) oM m5 (fun args w=>enters_of Tryz.func117 kR rfl args w)
  (fun inn=>thr_read _ A r c n t _ w0 hbx (ht.below' hb0) oM oM (ofE_bound m5 inn) m3) (fun inn=>by simp [readT,walkL,Q1.out])
  (fun inn x hx=>by have:=walkL_bound t _ false _ _ (ofE_bound m5 inn) (fun y hy=>(m3 y hy).1) x hx;omega)).mono ?_
 rintro e w1 ⟨v,rfl,hown,hb1⟩
 go_wp2
 go_ret
 exact⟨v,rfl,by rw [E1.out];exact⟨hown.1,by
  rcases hown.2 with h | ⟨g,cap,cur,hv,hg,rest⟩
  ·
   exact .inl h
  ·
   exact .inr ⟨g,cap,cur,hv,by have:=hb0.size;omega,rest⟩⟩,hb0.trans (hb1.mono hb0.size)⟩
set_option maxHeartbeats 1000000 in
theorem Read_calls(A:Option Addr)(r c:Nat)(t:List Int)(B:Option Addr)(n d:Nat)(l:List Pt)(w:World)(ht:IntsAt w A r t)(hl:PtsAt w B n l)(hr:r≤4611686018427387904)(hn:n≤4611686018427387904) :
  Calls Tryz.prog 22 #[.agg #[.slice A r c],.slice B n d] w fun e w'=>∃v,e= .returned (.tuple #[v,.int .i64 (checkBoth t l)])∧w'.ownsRow w.heap.size 47 2 v (wallsR t l).length ((wallsR t l).flatMap encP)∧Below w.heap.size w w':=by
 have hb0:=below_new w (.cells #[.slice A r c] 59)
 have hbx:=Box.new w 59 #[.slice A r c]
 by_cases h0:checkBoth t l=0
 ·
  have e1:wallsR t l=readP t l:=by simp [wallsR,h0]
  have E1:=Lib.hid e1
  have H0:=Lib.hid h0
  clear e1 h0
  go_enter Tryz.func22,Tryz.ntmps22
  go_wp2_with fail
  generalize w.alloc (.cells #[.slice A r c] 59)=w0 at*
  refine(check_calls A r c t B n d l w0 (ht.below' hb0) hr (hl.below' hb0) hn).mono ?_
  rintro e w1 ⟨rfl,hw1⟩
  have hb1:=hb0.trans (hw1.mono hb0.size)
  have d1:w1.cell? ⟨w.heap.size,0,none⟩=some (.slice A r c):=(hbx.below' hw1).cell 0
  rw [H0.out]
  go_wp2_with fail
  refine(read_calls A r c t B n d l w1 (ht.below' hb1) (hl.below' hb1) H0.out).mono ?_
  rintro e w2 ⟨v,rfl,hown,hw2⟩
  go_wp2
  go_ret2
  refine⟨v,by rw [H0.out];rfl,?_,hb1.trans (hw2.mono hb1.size)⟩
  rw [E1.out]
  refine⟨hown.1,?_⟩
  rcases hown.2 with h | ⟨g,cap,cur,hv,hg,rest⟩
  ·
   exact .inl h
  ·
   exact .inr ⟨g,cap,cur,hv,by have:=hb1.size;omega,rest⟩
 ·
  have d0:(checkBoth t l !=0)=true:=by simpa using h0
  have e1:wallsR t l=[]:=by simp [wallsR,h0]
  have E1:=Lib.hid e1
  clear e1
  go_enter Tryz.func22,Tryz.ntmps22
  go_wp2_with fail
  generalize w.alloc (.cells #[.slice A r c] 59)=w0 at*
  refine(check_calls A r c t B n d l w0 (ht.below' hb0) hr (hl.below' hb0) hn).mono ?_
  rintro e w1 ⟨rfl,hw1⟩
  go_wp2
  go_ret2
  exact⟨_,rfl,by rw [E1.out];exact World.ownsRow_nil _ _ _ _,hb0.trans (hw1.mono hb0.size)⟩
end Go.Proofs.YtjmbpjlojjgggaaGreatDoor

namespace Go.Proofs.YtjmbpjlojjgggaaGreatDoor
open Go.RowKit Go.Dw Go.Shelf
end Go.Proofs.YtjmbpjlojjgggaaGreatDoor

namespace Go.Proofs.YtjmbpjlojjgggaaGreatDoor
open Go.RowKit Go.Dw Go.Shelf
end Go.Proofs.YtjmbpjlojjgggaaGreatDoor

namespace Go.Proofs.YtjmbpjlojjgggaaGreatDoor
open Go.RowKit Go.Dw Go.Shelf
end Go.Proofs.YtjmbpjlojjgggaaGreatDoor
