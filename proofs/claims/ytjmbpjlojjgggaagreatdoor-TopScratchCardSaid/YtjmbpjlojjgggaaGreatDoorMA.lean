/-
  Several texts in one: What a slice, a box and a row of the call's own hold, said once for all texts of this seat. No condition. .. make, append, len, parts of slices, functions and interface values, for values without addresses. No condition but those that the step names.
-/
import Derived.WalkKit
import Derived.Lib.Hide
import Derived.BigQuiet
import Derived.Deep.QuietTactic
import Derived.Deep.Draws
import Derived.StillTailTactics
import Derived.Maps.AppendAt
import Derived.RangeFuncNested
import Derived.RangeFuncBound
import Derived.RangeFuncCalls
import Derived.RangeFuncLeaves
import Derived.Shelf.Abstract
import Derived.Shelf.RegionOpen
import Derived.OwnWalkIn
import Derived.TacticsInMore
import Derived.LoopNIn
import Derived.LoopIn
import Derived.Deep.WholeRow
import Derived.Great.BuildSlice
theorem Go.kR.{u}{α:Sort u}{a b:α}(h:a=b:=by kernel_rfl):a=b:=h
theorem Go.tI:True:=True.intro
theorem Go.oM{p:Prop}(h:p:=by omega):p:=h
namespace Go.Dw
open Go.RowKit
def fZ{α:Type}(enc:α->List Value)(sz:Nat)(w:World)(A:Option Addr)(n:Nat)(l:List α):Prop:= l.length=n/\(∀x:α,(enc x).length=sz)/\(0< n->∃b o,A=some ⟨b,o,none⟩/\b< w.heap.size/\∀i (h:i< l.length) j (_:j< sz),w.cell? ⟨b,o+i*sz+j,none⟩=(enc l[i])[j]?)
def gi(l:List Int)(k:Nat):Int:=l.getD k 0
def gp(l:List (Int×Int))(k:Nat):Int×Int:=l.getD k (0,0)
theorem kU{l:List Int}{k:Nat}(h:k< l.length):gi l k=l[k]:=by simp [gi,h]
theorem gL{l:List (Int×Int)}{k:Nat}(h:k< l.length):gp l k=l[k]:=by simp [gp,h]
theorem LZ{l:List Int}{k:Nat}(h:k< l.length):gi l k∈l:=by rw [kU h];exact List.getElem_mem h
theorem Al{l:List (Int×Int)}{k:Nat}(h:k< l.length):gp l k∈l:=by rw [gL h];exact List.getElem_mem h
theorem wH{l:List (Int×Int)}{k:Nat}(h:k< l.length):l.take (k+1)=l.take k++[gp l k]:=by rw [gL h,List.take_succ_eq_append_getElem h]
theorem fc{l:List Int}{p:Int->Prop}:(∀x∈l,p x)<->∀k,k< l.length->p (gi l k):= ⟨fun h k hk=>h _ (LZ hk),fun h x hx=>by obtain⟨k,hk,rfl⟩:=List.getElem_of_mem hx;rw [<-kU hk];exact h k hk⟩
theorem uw{l:List (Int×Int)}{p:Int×Int->Prop}:(∀x∈l,p x)<->∀k,k< l.length->p (gp l k):= ⟨fun h k hk=>h _ (Al hk),fun h x hx=>by obtain⟨k,hk,rfl⟩:=List.getElem_of_mem hx;rw [<-gL hk];exact h k hk⟩
def Ae(x:Int):List Value:=[.int .i64 x]
abbrev Pt:=Int×Int
def oD(p:Pt):List Value:=[.int .i64 p.1,.int .i64 p.2]
abbrev dQ(w:World)(A:Option Addr)(n:Nat)(l:List Int):Prop:=fZ Ae 1 w A n l
abbrev l9(w:World)(A:Option Addr)(n:Nat)(l:List Pt):Prop:=fZ oD 2 w A n l
section
variable {α:Type}{enc:α->List Value}{sz:Nat}{w w':World}{A:Option Addr}{n:Nat}{l:List α}
theorem fZ.len(h:fZ enc sz w A n l):l.length=n:=h.1
theorem fZ.keep(h:fZ enc sz w A n l)(hs:w.heap.size<=w'.heap.size)(hk:∀p:Addr,p.block< w.heap.size->A.map (·.block)=some p.block->w'.cell? p=w.cell? p):fZ enc sz w' A n l:=by refine⟨h.1,h.2.1,fun hn=> ?_⟩;obtain⟨b,o,rfl,hb,hc⟩:=h.2.2 hn;exact⟨b,o,rfl,by omega,fun i hi j hj=>(hk ⟨b,o+i*sz+j,none⟩ hb rfl).trans (hc i hi j hj)⟩
theorem fZ.below{B:Nat}(h:fZ enc sz w A n l)(hb:Below B w w')(hB:w.heap.size<=B):fZ enc sz w' A n l:= h.keep hb.size fun _ hp _=>hb.cell oM
theorem fZ.bz(h:fZ enc sz w A n l)(hb:Below w.heap.size w w'):fZ enc sz w' A n l:=h.below hb (Nat.le_refl _)
theorem fZ.nil(enc:α->List Value)(sz:Nat)(he:∀x,(enc x).length=sz)(w:World)(A:Option Addr):fZ enc sz w A 0 []:=⟨rfl,he,fun h=>absurd h oM⟩
theorem fZ.part(h:fZ enc sz w A n l){a b:Nat}(hab:a<=b)(hb:b<=n){A':Option Addr}(hA:a< b->A'=A.map (fun p=>⟨p.block,p.off+a*sz,p.spot⟩)):fZ enc sz w A' (b- a) ((l.take b).drop a):=by
 refine⟨by simp [h.1];omega,h.2.1,fun hn=> ?_⟩;obtain⟨b',o,rfl,hb',hc⟩:=h.2.2 oM;refine⟨b',o+a*sz,hA oM,hb',fun i hi j hj=> ?_⟩;have hi':i< b- a:=by simpa [h.1,hb]using hi
 have:=hc (a+i) (by rw [h.1];omega) j hj;have e:o+a*sz+i*sz+j=o+(a+i)*sz+j:=by rw [Nat.add_mul];omega
 rw [e,this];simp
end
theorem xO(x:Int):(Ae x).length=1:=rfl
theorem xP(x:Pt):(oD x).length=2:=rfl
section
variable {w:World}{A:Option Addr}{n:Nat}
theorem ints_at{l:List Int}(h:dQ w A n l){k:Nat}(hk:k< n):∃b o,A=some ⟨b,o,none⟩/\b< w.heap.size/\w.cell? ⟨b,o+k,none⟩=some (.int .i64 (gi l k)):=by obtain⟨b,o,hA,hb,hc⟩:=h.2.2 oM;have:=hc k (by have:=h.1;omega) 0 oM;simp [Ae]at this;exact⟨b,o,hA,hb,by rw [this,kU (by have:=h.1;omega)]⟩
theorem AL{l:List Pt}(h:l9 w A n l){k:Nat}(hk:k< n):∃b o,A=some ⟨b,o,none⟩/\b< w.heap.size/\w.cell? ⟨b,o+k*2,none⟩=some (.int .i64 (gp l k).1)/\w.cell? ⟨b,o+k*2+1,none⟩=some (.int .i64 (gp l k).2):=by obtain⟨b,o,hA,hb,hc⟩:=h.2.2 oM;have h0:=hc k (by have:=h.1;omega) 0 oM;have h1:=hc k (by have:=h.1;omega) 1 oM;simp [oD]at h0 h1;have e:=gL (l:=l) (k:=k) (by have:=h.1;omega);exact⟨b,o,hA,hb,by rw [h0,e],by rw [h1,e]⟩
end
def cM(w:World)(g:Nat)(t:TypeId)(cs:Array Value):Prop:=w.heap[g]?=some (.cells cs t (0,0))
section
variable {w w':World}{g:Nat}{t:TypeId}{cs:Array Value}
theorem cM.lt(h:cM w g t cs):g< w.heap.size:=(Array.getElem?_eq_some_iff.1 h).1
theorem cM.cell(h:cM w g t cs)(i:Nat):w.cell? ⟨g,i,none⟩=cs[i]?:=cell_of_row w g i cs t (0,0) h
theorem cM.frozen(h:cM w g t cs)(i:Nat):w.frozen? ⟨g,i,none⟩=false:=by unfold cM at h;simp [World.frozen?,h]
theorem cM.new(w:World)(t:TypeId)(cs:Array Value):cM (w.alloc (.cells cs t)) w.heap.size t cs:=heap_alloc_new w _
theorem cM.drew(h:cM w g t cs):cM w.drew g t cs:=h
theorem cM.alloc(h:cM w g t cs)(o:Obj):cM (w.alloc o) g t cs:=(Below.heap_alloc w o g h.lt).trans h
theorem cM.set(h:cM w g t cs)(i:Nat)(u:Value):cM (w.setCell ⟨g,i,none⟩ u) g t (cs.setIfInBounds i u):=by unfold cM at h ⊢;simp [World.setCell,Array.getElem?_modify,h]
theorem cM.Qq(h:cM w g t cs){p:Addr}(hp:g≠p.block)(u:Value):cM (w.setCell p u) g t cs:=(Below.heap_setCell w p u g hp).trans h
theorem cM.below{B:Nat}(h:cM w g t cs)(hb:Below B w w')(hg:g< B):cM w' g t cs:=(hb.block g hg).trans h
theorem cM.bz(h:cM w g t cs)(hb:Below w.heap.size w w'):cM w' g t cs:=h.below hb h.lt
theorem cM.grown{row:Option Nat}(h:cM w g t cs)(hb:w.grownBy w' row)(hg:some g≠row):cM w' g t cs:=(hb.block g h.lt hg).trans h
end
theorem f9{B:Nat}{a w:World}(h:Below B a w)(n:Nat):Below B a (w.drewN n):=⟨h.os,h.tape,h.output,h.size,h.block⟩
theorem fy{B:Nat}{w w':World}(h:Below B w.drew w'):Below B w w':=⟨h.os,h.tape,h.output,h.size,h.block⟩
theorem bC(w:World)(o:Obj):Below w.heap.size w (w.alloc o):=(Below.refl _ _).alloc (Nat.le_refl _) _
theorem HD(w:World)(o:Obj):(w.alloc o).heap.size=w.heap.size+1:=by simp
theorem ri{B:Nat}{a b c:World}(h:Below B a b)(k:Below b.heap.size b c)(hB:B<=b.heap.size):Below B a c:=h.trans (k.mono hB)
section
variable {α:Type}{enc:α->List Value}{sz:Nat}{w:World}{base:Nat}{e:TypeId}{n c:Nat}{A:Option Addr}{l:List α}
theorem mh(henc:∀x:α,(enc x).length=sz):∀(l:List α) (i:Nat) (h:i< l.length) (j:Nat) (_:j< sz),(l.flatMap enc)[i*sz+j]?=(enc l[i])[j]?
 |x::l,0,_,j,hj=>by simp only [List.flatMap_cons,Nat.zero_mul,Nat.zero_add,List.getElem_cons_zero];rw [List.getElem?_append_left (by rw [henc];exact hj)]
 |x::l,i+1,h,j,hj=>by
  simp only [List.flatMap_cons,List.getElem_cons_succ];rw [List.getElem?_append_right (by rw [henc,Nat.add_mul];omega),henc];have e:(i+1)*sz+j- sz=i*sz+j:=by rw [Nat.add_mul];omega
  rw [e];exact mh henc l i (by simpa using h) j hj
theorem xS(henc:∀x:α,(enc x).length=sz)(l:List α):(l.flatMap enc).length=l.length*sz:=by
 induction l with
 |nil=>simp
 |cons x l ih=>simp [henc,ih,Nat.add_mul,Nat.add_comm]
theorem fZ.AD(henc:∀x:α,(enc x).length=sz)(hsz:0< sz)(h:w.ownsRow base e sz (.slice A n c) n (l.flatMap enc)):fZ enc sz w A n l:=by
 have hl:l.length=n:=by have:=h.1;rw [xS henc]at this;exact Nat.eq_of_mul_eq_mul_right hsz this
 refine⟨hl,henc,fun hn=> ?_⟩;rcases h.2 with⟨hv,h0⟩ | ⟨g,cap,cur,hv,hg,hh,h1,h2,h3,h4⟩;·omega
 ·injection hv with hv;subst hv;refine⟨g,0,rfl,(Array.getElem?_eq_some_iff.1 hh).1,fun i hi j hj=> ?_⟩;have hlt:i*sz+j< n*sz:=by
   have h1:i*sz+sz<=n*sz:=by rw [<-Nat.succ_mul];exact Nat.mul_le_mul_right _ oM
   omega
  have:=cell_of_row w g (0+i*sz+j) cur e (0,0) hh;rw [this];simp only [Nat.zero_add];rw [<-mh henc l i hi j hj,<-h4,List.getElem?_take,if_pos hlt];simp
theorem su{v:Value}{xs:List Value}(h:w.ownsRow base e sz v n xs):∃A c,v= .slice A n c:=by
 rcases h.2 with⟨rfl,rfl⟩ | ⟨g,cap,cur,rfl,_⟩;·exact⟨_,_,rfl⟩
 ·exact⟨_,_,rfl⟩
theorem DZ{v:Value}{xs:List Value}{w':World}{B:Nat}(h:w.ownsRow base e sz v n xs)(hb:Below B w w')(hB:∀k,v.ownBlock=some k->k< B):w'.ownsRow base e sz v n xs:=by
 refine⟨h.1,?_⟩;rcases h.2 with hn | ⟨g,cap,cur,rfl,hg,hh,rest⟩;·exact .inl hn
 ·exact .inr ⟨g,cap,cur,rfl,hg,(hb.block g (hB g rfl)).trans hh,rest⟩
theorem jS{v:Value}{xs:List Value}{w':World}(h:w.ownsRow base e sz v n xs)(hb:Below w.heap.size w w'):w'.ownsRow base e sz v n xs:= DZ h hb fun k hk=>(h.lt k hk).2
theorem Hf{v:Value}{xs:List Value}{g:Nat}{t:TypeId}{cs:Array Value}(h:w.ownsRow base e sz v n xs)(hg:cM w g t cs)(hne:e≠t):∀k,v.ownBlock=some k->k≠g:=by
 intro k hk;rcases h.2 with⟨rfl,_⟩ | ⟨g',cap,cur,rfl,_,hh,_⟩;·simp [Value.ownBlock]at hk
 ·simp [Value.ownBlock]at hk;subst hk;rintro rfl;unfold cM at hg;rw [hh]at hg;injection hg with hg;injection hg with _ ht;exact hne ht
end
structure ua(P:Program)(t e:TypeId)(i:TypeInfo)(z:Value)(size bytes:Nat):Prop where
  ht:P.underlying t=some (.slice e)
  hi:P.info? e=some i
  hz:i.zero=some z
  hsize:i.size=size
  hbytes:i.bytes=bytes
  hzs:z.cells.size=size
  hpos:0< size
theorem KF{P:Program}{t e:TypeId}{z:Value}{size bytes:Nat}(ht:P.underlying t=some (.slice e))(h:(P.info? e).map (fun i=>(i.zero,i.size,i.bytes))=some (some z,size,bytes)) (hzs:z.cells.size=size) (hpos:0< size):∃i,ua P t e i z size bytes:=by obtain⟨i,hi,a,b,c⟩:=info_parts h;exact⟨i,ht,hi,a,b,c,hzs,hpos⟩
theorem qf{P:Program}{w:World}{ops:Array Oper}{rest:List Oper}{o:Oper}{a:Act}{Q:Exit->Act->World->Prop}{t e:TypeId}{i:TypeInfo}{z:Value}{size bytes:Nat} (T:ua P t e i z size bytes) (hgd:o.guard=none) (s x:Operand) (ho:o.op= .call {callee:= .builtin .append,args:= #[s,x],argTypes:= #[t,t]}) {base:Nat}{v:Value}{n:Nat}{xs:List Value}(hs:a.eval s=v) (hown:w.ownsRow base e size v n xs) {B:Nat}{cs:Array Value}{te:TypeId}(hx:a.eval x= .slice (some ⟨B,0,none⟩) 1 1) (hB:cM w B te cs) (hcs:cs.size=size) (h1:∀u∈cs.toList,u.oneCell'=true) (hn:n< 1099511627776) (hb:bytes<=128) (hbase:base<=w.heap.size) (h:∀v' w',w'.ownsRow base e size v' (n+1) (xs++cs.toList)->w.grownBy w' v.ownBlock->wpList P ops Q rest (a.put o.dst v') w'):wpList P ops Q (o::rest) a w:=by
 refine wpList_append_own w hgd s x t ho base e i z size bytes T.ht T.hi T.hz T.hsize T.hbytes T.hzs T.hpos v n xs hs hown ⟨B,0,none⟩ 1 1 cs.toList hx (by simp [hcs]) ?_ h1 ?_ ?_ hbase ?_
 ·intro j u hu;have hadd:(⟨B,0,none⟩:Addr).add j=⟨B,j,none⟩:=by unfold Addr.add;split <;> simp_all
  rw [hadd,hB.cell];simpa using hu
 ·unfold maxLen;omega
 ·have:(n+1)*bytes<=1099511627776*128:=Nat.mul_le_mul oM hb;omega
 ·intro v' w' h2 h3 _;exact h v' w' h2 h3
theorem En{P:Program}{w:World}{ops:Array Oper}{o:Oper}{a:Act}{K:Act->World->Prop}{Q:Exit->Act->World->Prop}{E:Prop}{t e:TypeId}{i:TypeInfo}{z:Value}{size bytes:Nat} (T:ua P t e i z size bytes) (hgd:o.guard=none) (s x:Operand) (ho:o.op= .call {callee:= .builtin .append,args:= #[s,x],argTypes:= #[t,t]}) {base:Nat}{v:Value}{n:Nat}{xs:List Value}(hs:a.eval s=v) (hown:w.ownsRow base e size v n xs) {B:Nat}{cs:Array Value}{te:TypeId}(hx:a.eval x= .slice (some ⟨B,0,none⟩) 1 1) (hB:cM w B te cs) (hcs:cs.size=size) (h1:∀u∈cs.toList,u.oneCell'=true) (hn:n< 1099511627776) (hb:bytes<=128) (hbase:base<=w.heap.size) (h:∀v' w',w'.ownsRow base e size v' (n+1) (xs++cs.toList)->w.grownBy w' v.ownBlock->K (a.put o.dst v') w'):if Region.wanted o (yielded ops a.tmps)=true then Oper.wp P o a w K Q else E:=by
 have hw:Region.wanted o (yielded ops a.tmps)=true:=by simp [Region.wanted,hgd]
 rw [if_pos hw];refine wp_append_own w s x t ho base e i z size bytes T.ht T.hi T.hz T.hsize T.hbytes T.hzs T.hpos v n xs hs hown ⟨B,0,none⟩ 1 1 cs.toList hx (by simp [hcs]) ?_ h1 ?_ ?_ hbase ?_
 ·intro j u hu;have hadd:(⟨B,0,none⟩:Addr).add j=⟨B,j,none⟩:=by unfold Addr.add;split <;> simp_all
  rw [hadd,hB.cell];simpa using hu
 ·unfold maxLen;omega
 ·have:(n+1)*bytes<=1099511627776*128:=Nat.mul_le_mul oM hb;omega
 ·intro v' w' h2 h3 _;exact h v' w' h2 h3
theorem sg(k:IntKind)(a b:Int):Builtin.max2 (.int k a) (.int k b)=pure (.int k (max a b)):=by
 simp only [Builtin.max2,pure];congr 2
 first |rfl | (split <;> congr 1 <;> omega)
theorem yh(k:IntKind)(a b:Int):Builtin.min2 (.int k a) (.int k b)=pure (.int k (min a b)):=by
 simp only [Builtin.min2,pure];congr 2
 first |rfl | (split <;> congr 1 <;> omega)
@[go_sem ↓] theorem GK(ats:Array TypeId)(ty:TypeId)(k:IntKind)(a b:Int):Builtin.max_ ats ty #[.int k a,.int k b]=pure (.int k (max a b)):=by
  simp [Builtin.max_,sg]
@[go_sem ↓] theorem GZ(ats:Array TypeId)(ty:TypeId)(k:IntKind)(a b:Int):Builtin.min_ ats ty #[.int k a,.int k b]=pure (.int k (min a b)):=by
  simp [Builtin.min_,yh]
@[go_sem ↓] theorem GL(ats:Array TypeId)(ty:TypeId)(k:IntKind)(a b c:Int):Builtin.max_ ats ty #[.int k a,.int k b,.int k c]=pure (.int k (max (max a b) c)):=by
  simp [Builtin.max_,sg]
@[go_sem ↓] theorem Oa(ats:Array TypeId)(ty:TypeId)(k:IntKind)(a b c:Int):Builtin.min_ ats ty #[.int k a,.int k b,.int k c]=pure (.int k (min (min a b) c)):=by
  simp [Builtin.min_,yh]
@[go_sem ↓] theorem GM(ats:Array TypeId)(ty:TypeId)(k:IntKind)(a b c d:Int):Builtin.max_ ats ty #[.int k a,.int k b,.int k c,.int k d]=pure (.int k (max (max (max a b) c) d)):=by
  simp [Builtin.max_,sg]
def bI(l:List Int):Array Value:=(l.map (Value.int .i64)).toArray
theorem eK(l:List Int)(k:Nat)(h:k< l.length):(bI l)[k]?=some (.int .i64 (gi l k)):=by simp [bI,gi,h]
theorem gT(l:List Int)(k:Nat)(x:Int):(bI l).setIfInBounds k (.int .i64 x)=bI (l.set k x):=by simp [bI]
theorem DR{P:Program}{t e:TypeId}{i:TypeInfo}{bytes:Nat}(T:ua P t e i (.int .i64 0) 1 bytes)(n:Nat)(hn:n< 1099511627776)(hb:bytes<=128)(w:World) : (Instr.makeSlice t (.int .i64 (n:Int)) (.int .i64 (n:Int))).run P w= .ok (.slice (some ⟨w.heap.size,0,none⟩) n n) (w.alloc (.cells (bI (List.replicate n 0)) e)):=by
 have hbb:(i.bytes:Int)*(n:Int)<=281474976710656:=by
  have h1:i.bytes*n<=128*1099511627776:=Nat.mul_le_mul (by rw [T.hbytes];exact hb) oM;have h:((i.bytes*n:Nat):Int)<=281474976710656:=by omega
  rwa [Int.natCast_mul]at h
 have hr:=run_make (P:=P) w t e i (.int .i64 0) T.ht T.hi T.hz .i64 .i64 n n oM oM hbb oM;simp only [Int.toNat_natCast,T.hsize,Nat.mul_one]at hr;rw [hr];congr 3
 apply Array.ext';rw [show(Value.int IntKind.i64 0).cells= #[Value.int .i64 0]from rfl,toList_madeCells_one];simp [bI]
theorem dn{k:IntKind}{a b:Int}(h:a=b):Ending.returned (.int k a)= .returned (.int k b):=by rw [h]
open Go.Shelf
@[go_sem] theorem MZ:Fence.wide.depth=none:=rfl
@[go_sem] theorem Pn(f:FuncId):Fence.wide.fn f=True:=rfl
structure aZ(R:Nat->Prop)(w w':World):Prop where
  os:w'.os=w.os
  tape:w'.tape=w.tape
  output:w'.output=w.output
  size:w.heap.size<=w'.heap.size
  block:∀k,k< w.heap.size->¬R k->w'.heap[k]?=w.heap[k]?
section
variable {R R':Nat->Prop}{w w' w'':World}
theorem aZ.refl(R:Nat->Prop)(w:World):aZ R w w:=⟨rfl,rfl,rfl,Nat.le_refl _,fun _ _ _=>rfl⟩
theorem aZ.trans(h:aZ R w w')(k:aZ R w' w''):aZ R w w'':= ⟨k.os.trans h.os,k.tape.trans h.tape,k.output.trans h.output,Nat.le_trans h.size k.size,fun i hi hr=>(k.block i (Nat.lt_of_lt_of_le hi h.size) hr).trans (h.block i hi hr)⟩
theorem aZ.mono(h:aZ R w w')(hR:∀k,k< w.heap.size->R k->R' k):aZ R' w w':=⟨h.os,h.tape,h.output,h.size,fun k hk hr=>h.block k hk fun e=>hr (hR k hk e)⟩
theorem aZ.gw{B:Nat}(h:Below B w w')(hR:∀k,k< w.heap.size->B<=k->R k):aZ R w w':= ⟨h.os,h.tape,h.output,h.size,fun k hk hr=>h.block k (by have:=hR k hk;exact Nat.lt_of_not_le fun e=>hr (this e))⟩
theorem aZ.jQ(h:Below w.heap.size w w'):aZ R w w':=aZ.gw h fun k hk e=>absurd hk oM
theorem aZ.later{B:Nat}(h:aZ R w w')(hb:Below B w' w'')(hB:w.heap.size<=B):aZ R w w'':= ⟨hb.os.trans h.os,hb.tape.trans h.tape,hb.output.trans h.output,Nat.le_trans h.size hb.size,fun k hk hr=>(hb.block k oM).trans (h.block k hk hr)⟩
theorem aZ.alloc(h:aZ R w w')(o:Obj):aZ R w (w'.alloc o):=h.trans (aZ.jQ (bC _ _))
theorem aZ.drew(h:aZ R w w'):aZ R w w'.drew:=⟨h.os,h.tape,h.output,h.size,h.block⟩
theorem aZ.setCell(h:aZ R w w'){p:Addr}(hp:p.block< w.heap.size->R p.block)(v:Value):aZ R w (w'.setCell p v):= ⟨h.os,h.tape,h.output,by simpa [World.setCell]using h.size,fun k hk hr=>(Below.heap_setCell _ _ _ _ (by rintro rfl;exact hr (hp hk))).trans (h.block k hk hr)⟩
theorem aZ.below{B:Nat}(h:aZ R w w')(hB:B<=w.heap.size)(hR:∀k,k< B->¬R k):Below B w w':=⟨h.os,h.tape,h.output,h.size,fun k hk=>h.block k oM (hR k hk)⟩
theorem aZ.cell(h:aZ R w w'){p:Addr}(hp:p.block< w.heap.size)(hr:¬R p.block):w'.cell? p=w.cell? p:=World.cell?_of_block (w:=w) (h.block p.block hp hr)
theorem aZ.box(h:aZ R w w'){g:Nat}{t:TypeId}{cs:Array Value}(hb:cM w g t cs)(hr:¬R g):cM w' g t cs:=(h.block g hb.lt hr).trans hb
theorem aZ.sl{α:Type}{enc:α->List Value}{sz n:Nat}{A:Option Addr}{l:List α}(h:aZ R w w')(hs:fZ enc sz w A n l)(hr:∀b,A.map (·.block)=some b->¬R b):fZ enc sz w' A n l:= hs.keep h.size fun _ hp hb=>h.cell hp (hr _ hb)
theorem aZ.own{base:Nat}{e:TypeId}{sz n:Nat}{v:Value}{xs:List Value}(h:aZ R w w')(ho:w.ownsRow base e sz v n xs)(hr:∀k,v.ownBlock=some k->¬R k):w'.ownsRow base e sz v n xs:=by
 refine⟨ho.1,?_⟩;rcases ho.2 with hn | ⟨g,cap,cur,rfl,hg,hh,rest⟩;·exact .inl hn
 ·exact .inr ⟨g,cap,cur,rfl,hg,(h.block g (Array.getElem?_eq_some_iff.1 hh).1 (hr g rfl)).trans hh,rest⟩
theorem aZ.putObj(h:aZ R w w'){r:Nat}(o:Obj)(hr:r< w.heap.size->R r):aZ R w (w'.putObj r o):= ⟨h.os,h.tape,h.output,by simpa using h.size,fun k hk hk'=>(World.putObj_heap_other (by rintro rfl;exact hk' (hr hk))).trans (h.block k hk hk')⟩
end
theorem eJ{B:Nat}(w:World){r:Nat}(o:Obj)(hr:B<=r):Below B w (w.putObj r o):= ⟨rfl,rfl,rfl,by simp,fun k hk=>World.putObj_heap_other oM⟩
theorem tX{F:Fence}{n:Nat}{P:Program}{l:Nat}{f:FuncId}{tmps:Array Value}{assign body:Code}{w:World}{R:Ending->World->Prop}(l':Nat) (h:RoundIn F n P l f tmps assign body w R):RoundIn (F.inRound l') n P l f tmps assign body w R:=h
def Iter(P:Program)(f:FuncId)(lb:Array Value)(es:List (Array Value))(R:Nat->Prop)(w:World):Prop:=
  ∀(l:Nat) (J Jx:Nat->World->Prop) (W:World),aZ R w W->w.heap.size<=l->l< W.heap.size->
    (∀k W1 W2,J k W1->Below W.heap.size W1 W2->J k W2)->(∀k W1 W2,Jx k W1->Below W.heap.size W1 W2->Jx k W2)->
    (∀k x W1,es[k]?=some x->W.heap.size<=W1.heap.size->J k W1->YieldAt Fence.wide 0 P l x W1 fun e W2=>∃b:Bool,e= .returned (.bool b)/\aZ (fun i=>R i\/i=l) W1 W2/\(b=true->J (k+1) W2)/\(b=false->Jx k W2))->
    J 0 W->
    CallsIn Fence.wide 0 P f (#[.func (.yield l) #[] #[]]++lb) W fun e W'=>(∃v,e= .returned v)/\(J es.length W'\/∃k,k< es.length/\Jx k W')
def Hw(R:Nat->Prop)(J:Nat->World->Prop)(Jx:Nat->Code->World->Prop)(k:Nat)(W:World):Exit->Act->World->Prop
 | .normal,_,W'=>aZ R W W'/\J (k+1) W'
 | .ret,_,W'=>aZ R W W'/\Jx k .ret W'
 | .exit id,_,W'=>aZ R W W'/\Jx k (.exit id) W'
 | .goto t,_,W'=>aZ R W W'/\Jx k (.goto t) W'
 | .panic _,_,_=>False
 | .outgrown,_,_=>False
theorem zj{P:Program}{g:Operand}{ps:Array Tmp}{assign body:Code}{Q:Exit->Act->World->Prop}{a:Act}{w:World} {gf:Nat}{lb:Array Value}(hg:a.eval g= .func (.func gf) #[] lb) (eg:∀args w,(callFunc gf args).run P w= .ok (.enter gf args) w) {es:List (Array Value)}{R:Nat->Prop}(hit:Iter P gf lb es R w) (hR:∀i,R i->i< w.heap.size) (hps:∀x∈es,x.size=ps.size) (J:Nat->World->Prop) (Jx:Nat->Code->World->Prop) (hJ:∀k W1 W2,J k W1->Below w.heap.size W1 W2->J k W2) (hJx:∀k c W1 W2,Jx k c W1->Below w.heap.size W1 W2->Jx k c W2) (h0:J 0 w) (hround:∀(l k:Nat) (x:Array Value) (W:World),w.heap.size<=l->l< W.heap.size->es[k]?=some x->J k W-> assign.wpIn (Fence.wide.inRound l) 0 P (Exit.then (fun a₁ W1=>aZ R W W1/\∀W2,aZ (· =l) W1 W2->body.wpIn (Fence.wide.inRound l) 0 P (Hw R J Jx k W2) a₁ W2) (fun _ _ _=>False)) {tmps:=(ps.zip x).foldl (fun t (p,v)=>t.setIfInBounds p v) a.tmps,defers:=[]} W) (hdone:∀(D:Nat) (W:World),J es.length W->w.heap.size<=D->W.heap[D]?=some (.deferred (some []))->Q .normal {a with defers:={target:= .collected D,args:= #[]}::a.defers} W) (hstop:∀(D k:Nat) (c:Code) (W:World),k< es.length->Jx k c W->w.heap.size<=D->W.heap[D]?=some (.deferred (some []))->c.wpIn Fence.wide 0 P Q {a with defers:={target:= .collected D,args:= #[]}::a.defers} W) : (Code.rangeFunc g ps assign body).wpIn Fence.wide 0 P Q a w:=by
 refine wpIn_rangeFunc ?_;intro fn hfn;obtain⟨rec,hrec⟩:∃rec:LoopState->Option Code->Loop,rec=fun st pe=>{state:=st,pending:=pe,fn,tmps:=a.tmps,params:=ps,assign,body,defers:=w.heap.size}:=⟨_,rfl⟩;obtain⟨W1,hW1⟩:∃W1,(w.alloc (.deferred (some []))).alloc (.loop (rec .ready none))=W1:=⟨_,rfl⟩;have hL1:W1.heap[w.heap.size+1]?=some (.loop (rec .ready none)):=by rw [<-hW1];have:=World.alloc_heap_new (w.alloc (.deferred (some []))) (.loop (rec .ready none));rwa [World.size_alloc]at this
 have hK1:W1.heap[w.heap.size]?=some (.deferred (some [])):=by rw [<-hW1];exact(Below.heap_alloc _ _ _ (by simp)).trans (World.alloc_heap_new w _)
 have hs1:W1.heap.size=w.heap.size+2:=by rw [<-hW1];simp
 have hb1:Below w.heap.size w W1:=by rw [<-hW1];exact((Below.refl _ w).alloc (Nat.le_refl _) _).alloc (by simp) _
 refine⟨w.heap.size+1,[{target:= .collected w.heap.size,args:= #[]}],W1,{target:= .fn (.func gf) lb,args:= #[.func (.yield (w.heap.size+1)) #[] #[]]},W1,gf,#[.func (.yield (w.heap.size+1)) #[] #[]]++lb,W1,?_,?_,fun _ _=>trivial,?_,fun h=>by simp [Fence.wide]at h,?_⟩;·rw [<-hW1,hrec];exact run_enterLoop_outer _ _ _ _ _
 ·simp only [resolve,hg];simp [go_sem]
 ·simp [invoke,go_sem,eg]
 ·refine(hit (w.heap.size+1)
   (fun k W=>J k W/\W.heap[w.heap.size+1]?=some (.loop (rec .ready none))/\W.heap[w.heap.size]?=some (.deferred (some [])))
   (fun k W=>∃c,Jx k c W/\W.heap[w.heap.size+1]?=some (.loop (rec .done (some c)))/\W.heap[w.heap.size]?=some (.deferred (some [])))
   W1 (aZ.jQ hb1) oM oM
   (fun k A B hs hb=>⟨hJ k A B hs.1 (hb.mono oM),(hb.block _ oM).trans hs.2.1,(hb.block _ oM).trans hs.2.2⟩)
   (fun k A B hs hb=>by obtain⟨c,hc,hl,hk⟩:=hs;exact⟨c,hJx k c A B hc (hb.mono oM),(hb.block _ oM).trans hl,(hb.block _ oM).trans hk⟩)
   ?_ ⟨hJ 0 w W1 h0 hb1,hL1,hK1⟩).mono ?_
  ·rintro k x W hx hsz ⟨hi,hl,hk⟩;have hlt:w.heap.size+1< W.heap.size:=(Array.getElem?_eq_some_iff.1 hl).1;have hxm:x∈es:=List.mem_of_getElem? hx;have hy:=run_yield (P:=P) (args:=x) hl (by rw [hrec];exact hps x hxm);rw [hrec]at hy;have hnR1:¬R (w.heap.size+1):=fun e=>by have:=hR _ e;omega
   have hnR0:¬R w.heap.size:=fun e=>by have:=hR _ e;omega
   refine⟨fn,_,assign,body,hy,roundIn_of_wpIn hfn (wpIn_mono (hround (w.heap.size+1) k x W oM hlt hx hi) ?_)⟩;rintro e a3 W3 hp;cases e with
   |normal=>
    obtain⟨ht3,hbody⟩:=hp;have hl3:W3.heap[w.heap.size+1]?=some (.loop (rec .ready none)):=(ht3.block _ hlt hnR1).trans hl;have hk3:W3.heap[w.heap.size]?=some (.deferred (some [])):=(ht3.block _ oM hnR0).trans hk;have hlt3:w.heap.size+1< W3.heap.size:=(Array.getElem?_eq_some_iff.1 hl3).1;refine⟨_,run_beginRound hl3 (by rw [hrec]),?_⟩;obtain⟨W4,hW4⟩:∃W4,W3.putObj (w.heap.size+1) (.loop {rec .ready none with state:= .busy})=W4:=⟨_,rfl⟩;have ht4:aZ (· =w.heap.size+1) W3 W4:=by rw [<-hW4];exact(aZ.refl _ _).putObj _ fun _=>rfl
    have hl4:W4.heap[w.heap.size+1]?=some (.loop {rec .ready none with state:= .busy}):=by rw [<-hW4];exact World.putObj_heap_same hlt3
    have hk4:W4.heap[w.heap.size]?=some (.deferred (some [])):=(ht4.block _ oM oM).trans hk3;rw [hW4];refine wpIn_mono (hbody W4 ht4) ?_;have hsz4:W4.heap.size=W3.heap.size:=by rw [<-hW4];simp
    have fin:∀(jump:Option Code) (W5:World),aZ R W4 W5->
     (Instr.endRound (w.heap.size+1) jump).run P W5= .ok (.bool jump.isNone) (W5.putObj (w.heap.size+1) (.loop (rec (if jump.isNone then .ready else .done) jump)))/\
     (W5.putObj (w.heap.size+1) (.loop (rec (if jump.isNone then .ready else .done) jump))).heap[w.heap.size+1]?=some (.loop (rec (if jump.isNone then .ready else .done) jump))/\
     (W5.putObj (w.heap.size+1) (.loop (rec (if jump.isNone then .ready else .done) jump))).heap[w.heap.size]?=some (.deferred (some []))/\
     aZ (fun i=>R i\/i=w.heap.size+1) W (W5.putObj (w.heap.size+1) (.loop (rec (if jump.isNone then .ready else .done) jump))):=fun jump W5 ht5=>by
     have hl5:=(ht5.block _ (Array.getElem?_eq_some_iff.1 hl4).1 hnR1).trans hl4
     have hr:=run_endRound (P:=P) jump hl5
     rw [hrec]at hr ⊢
     refine⟨hr,World.putObj_heap_same (Array.getElem?_eq_some_iff.1 hl5).1,(World.putObj_heap_other oM).trans ((ht5.block _ oM hnR0).trans hk4),?_⟩
     refine((((ht3.mono fun k _ h=>Or.inl h).trans (ht4.mono fun k _ h=>Or.inr h)).trans (ht5.mono fun k _ h=>Or.inl h)).putObj _ fun _=>Or.inr rfl)
    rintro e a5 W5 hp;cases e with
    |normal=>obtain⟨ht5,hi5⟩:=hp;obtain⟨hr,hl6,hk6,ht6⟩:=fin none W5 ht5;exact⟨_,_,hr,_,rfl,ht6,fun _=>⟨hJ _ _ _ hi5 (eJ _ _ oM),hl6,hk6⟩,fun h=>by simp at h⟩
    |ret=>obtain⟨ht5,hi5⟩:=hp;obtain⟨hr,hl6,hk6,ht6⟩:=fin (some .ret) W5 ht5;exact⟨_,_,hr,_,rfl,ht6,fun h=>by simp at h,fun _=>⟨.ret,hJx _ _ _ _ hi5 (eJ _ _ oM),hl6,hk6⟩⟩
    |exit id=>obtain⟨ht5,hi5⟩:=hp;obtain⟨hr,hl6,hk6,ht6⟩:=fin (some (.exit id)) W5 ht5;exact⟨_,_,hr,_,rfl,ht6,fun h=>by simp at h,fun _=>⟨.exit id,hJx _ _ _ _ hi5 (eJ _ _ oM),hl6,hk6⟩⟩
    |goto t=>obtain⟨ht5,hi5⟩:=hp;obtain⟨hr,hl6,hk6,ht6⟩:=fin (some (.goto t)) W5 ht5;exact⟨_,_,hr,_,rfl,ht6,fun h=>by simp at h,fun _=>⟨.goto t,hJx _ _ _ _ hi5 (eJ _ _ oM),hl6,hk6⟩⟩
    |panic ch=>exact hp.elim
    |outgrown=>exact hp.elim
   |ret=>exact hp.elim
   |exit id=>exact hp.elim
   |goto t=>exact hp.elim
   |panic ch=>exact hp.elim
   |outgrown=>exact hp.elim
  ·rintro e W2 ⟨⟨v,rfl⟩,(⟨hi,hl,hk⟩ | ⟨k,hk',c,hi,hl,hk⟩)⟩;·exact⟨none,_,by have:=run_endLoop (P:=P) hl (by rw [hrec];simp);rw [hrec]at this;exact this,hdone _ _ (hJ _ _ _ hi (eJ _ _ oM)) (Nat.le_refl _) ((World.putObj_heap_other oM).trans hk)⟩
   ·exact⟨some c,_,by have:=run_endLoop (P:=P) hl (by rw [hrec];simp);rw [hrec]at this;exact this,hstop _ k c _ hk' (hJx _ _ _ _ hi (eJ _ _ oM)) (Nat.le_refl _) ((World.putObj_heap_other oM).trans hk)⟩
def marks(Ds:List Nat):List Deferred:=Ds.map fun D=>{target:= .collected D,args:= #[]}
theorem jP{P:Program}{fn:Func}{tmps:Array Value}{R:Ending->World->Prop}{n:Nat}{v:Value}:∀(Ds:List Nat) (w:World),Ds.Nodup->(∀D∈Ds,w.heap[D]?=some (.deferred (some [])))-> (∀w',(results fn tmps).run P w'= .ok v w')->(∀w',aZ (· ∈Ds) w w'->R (.returned v) w')->LeavesInM Fence.wide n P fn tmps R (marks Ds) .returning w
 | [],w,_,_,hv,hR=>⟨v,hv w,hR w (aZ.refl _ _)⟩
 |D::Ds,w,hn,hD,hv,hR=>by
  refine⟨by simp,.inl ⟨D,w.putObj D (.deferred none),rfl,run_takeDeferred (hD D (by simp)),?_⟩⟩;have hn':=List.nodup_cons.1 hn;refine jP Ds _ hn'.2 (fun E hE=> ?_) hv (fun w' ht=>hR w' ?_);·exact(World.putObj_heap_other (by rintro rfl;exact hn'.1 hE)).trans (hD E (by simp [hE]))
  ·exact(((aZ.refl _ w).putObj _ fun _=>by simp).trans (ht.mono fun k _ h=>by simp [h]))
theorem oF{P:Program}{fn:Func}{R:Ending->World->Prop}{e:Exit}{a:Act}{w:World}{v:Value}(Ds:List Nat)(he:e= .normal\/e= .ret)(hd:a.defers=marks Ds) (hn:Ds.Nodup) (hD:∀D∈Ds,w.heap[D]?=some (.deferred (some []))) (hv:∀w',(results fn a.tmps).run P w'= .ok v w') (hR:∀w',aZ (· ∈Ds) w w'->R (.returned v) w') : bodyPostM Fence.wide 0 P fn R e a w:=by
 rcases he with rfl |rfl;·show LeavesInM _ _ _ _ _ _ a.defers _ _;rw [hd];exact jP Ds w hn hD hv hR
 ·show LeavesInM _ _ _ _ _ _ a.defers _ _;rw [hd];exact jP Ds w hn hD hv hR
end Go.Dw

namespace Go.Ab
open Go.RowKit Go.Dw
inductive MK where
  |i (n:Int)
  |s (b:ByteArray)
  deriving DecidableEq
def MK.val:MK->Value
 | .i n=> .int .i64 n
 | .s b=> .string b
def MK.str:MK->Bool
 | .i _=>false
 | .s _=>true
def MK.is:MK->Value->Bool
 | .i n,.int .i64 m=>decide (n=m)
 | .s b,.string c=>decide (b=c)
 |_,_=>false
def aR(k:MK):List MapEntry->Option Value
 | []=>none
 |e::es=>if k.is e.key then some e.val else aR k es
inductive V where
  |any
  |c (v:Value)
  |agg (cs:List V)
  |tup (cs:List V)
  |nil
  |emp
  |sl (sz n:Nat) (row:Nat->List V)
  |ptr (cs:List V)
  |own (id:Nat)
  |ref (id off:Nat)
  |oel (id sz i off:Nat)
  |osl (id sz off n:Nat)
  |fset (str:Bool) (has:MK->Bool)
  |fn (f:Fn) (first caps:List V)
  |ifc (t:TypeId) (v:V)
  |gd (g:Bool) (v:V)
  |alt (b:Bool) (v u:V)
abbrev V.i(n:Int):V:= .c (.int .i64 n)
abbrev V.b(b:Bool):V:= .c (.bool b)
def ρ0:Nat->Option Value:=fun _=>none
inductive R(w:World)(L:Nat->Prop):(Nat->Option Value)->V->Value->Prop
  |any (ρ x):R w L ρ .any x
  |c (ρ v):R w L ρ (.c v) v
  |agg (ρ) (cs:List V) (xs:Array Value) (f:Nat->Value) (hl:xs.size=cs.length)
      (hf:∀i u,cs[i]?=some u->xs[i]?=some (f i)/\(f i).oneCell'=true) (hr:∀i u,cs[i]?=some u->R w L ρ u (f i)):R w L ρ (.agg cs) (.agg xs)
  |tup (ρ) (cs:List V) (xs:Array Value) (f:Nat->Value) (hl:xs.size=cs.length)
      (hf:∀i u,cs[i]?=some u->xs[i]?=some (f i)) (hr:∀i u,cs[i]?=some u->R w L ρ u (f i)):R w L ρ (.tup cs) (.tuple xs)
  |nil (ρ):R w L ρ .nil (.slice none 0 0)
  |emp (ρ A):R w L ρ .emp (.slice A 0 0)
  |sl0 (ρ sz row A c):R w L ρ (.sl sz 0 row) (.slice A 0 c)
  |sl (ρ) (sz n:Nat) (row:Nat->List V) (b o c:Nat) (f:Nat->Nat->Value) (hb:L b) (hcap:n<=c) (hlen:∀i,i< n->(row i).length=sz)
      (hf:∀i j u,i< n->(row i)[j]?=some u->w.cell? ⟨b,o+i*sz+j,none⟩=some (f i j)/\(f i j).oneCell'=true)
      (hr:∀i j u,i< n->(row i)[j]?=some u->R w L ρ0 u (f i j)):R w L ρ (.sl sz n row) (.slice (some ⟨b,o,none⟩) n c)
  |ptr (ρ) (cs:List V) (b o:Nat) (f:Nat->Value) (hb:L b)
      (hf:∀j u,cs[j]?=some u->w.cell? ⟨b,o+j,none⟩=some (f j)/\(f j).oneCell'=true)
      (hr:∀j u,cs[j]?=some u->R w L ρ0 u (f j)):R w L ρ (.ptr cs) (.pointer (some ⟨b,o,none⟩))
  |own (ρ) (id:Nat) (x:Value) (h:ρ id=some x) (h1:x.oneCell'=true):R w L ρ (.own id) x
  |ref (ρ) (id off b:Nat) (h:ρ id=some (.pointer (some ⟨b,0,none⟩))):R w L ρ (.ref id off) (.pointer (some ⟨b,off,none⟩))
  |oel (ρ) (id sz i off b n c:Nat) (h:ρ id=some (.slice (some ⟨b,0,none⟩) n c)):R w L ρ (.oel id sz i off) (.pointer (some ⟨b,i*sz+off,none⟩))
  |osl (ρ) (id sz off n b m c c2:Nat) (A:Option Addr) (h:ρ id=some (.slice (some ⟨b,0,none⟩) m c)) (hn:n<=c2) (hA:0< n->A=some ⟨b,off*sz,none⟩):R w L ρ (.osl id sz off n) (.slice A n c2)
  |fset (ρ) (str:Bool) (has:MK->Bool) (b:Nat) (es:Array MapEntry) (cl:Nat) (hb:L b) (hh:w.heap[b]?=some (.map es cl)) (hk:∀e∈es.toList,∃k:MK,k.str=str/\e.key=k.val) (hf:∀k:MK,k.str=str->(aR k es.toList).isSome=has k/\∀y,aR k es.toList=some y->y= .agg #[]):R w L ρ (.fset str has) (.map (some b))
  |fn (ρ) (f:Fn) (fs cs:List V) (xs ys:Array Value) (g h:Nat->Value) (hl:xs.size=fs.length) (hm:ys.size=cs.length)
      (hg:∀i u,fs[i]?=some u->xs[i]?=some (g i)) (hh:∀i u,cs[i]?=some u->ys[i]?=some (h i))
      (hr:∀i u,fs[i]?=some u->R w L ρ u (g i)) (hs:∀i u,cs[i]?=some u->R w L ρ u (h i)):R w L ρ (.fn f fs cs) (.func f xs ys)
  |ifc (ρ) (t:TypeId) (u:V) (x:Value) (h:R w L ρ u x):R w L ρ (.ifc t u) (.iface t x)
  |gd (ρ) (g:Bool) (u:V) (x:Value) (h:g=true->R w L ρ u x) (h':g=false->x=undef):R w L ρ (.gd g u) x
  |alt (ρ) (g:Bool) (u v:V) (x:Value) (h:g=true->R w L ρ u x) (h':g=false->R w L ρ v x):R w L ρ (.alt g u v) x
theorem R.mono{w w':World}{L L':Nat->Prop}{ρ ρ':Nat->Option Value}{u:V}{x:Value}(h:R w L ρ u x) (hL:∀b,L b->L' b/\w'.heap[b]?=w.heap[b]?) (hρ:∀id v,ρ id=some v->ρ' id=some v):R w' L' ρ' u x:=by
 induction h generalizing ρ' with
 |any=>exact .any _ _
 |c=>exact .c _ _
 |agg ρ cs xs f hl hf hr ih=>exact .agg _ _ _ f hl hf fun i u hu=>ih i u hu hρ
 |tup ρ cs xs f hl hf hr ih=>exact .tup _ _ _ f hl hf fun i u hu=>ih i u hu hρ
 |nil=>exact .nil _
 |emp=>exact .emp _ _
 |sl0=>exact .sl0 _ _ _ _ _
 |sl ρ sz n row b o c f hb hcap hlen hf hr ih=>exact .sl _ _ _ _ _ _ _ f (hL b hb).1 hcap hlen (fun i j u hi hu=>⟨(World.cell?_of_block (w:=w) (a:=⟨b,o+i*sz+j,none⟩) (hL b hb).2).trans (hf i j u hi hu).1,(hf i j u hi hu).2⟩) fun i j u hi hu=>ih i j u hi hu fun _ _ h=>h
 |ptr ρ cs b o f hb hf hr ih=>exact .ptr _ _ _ _ f (hL b hb).1 (fun j u hu=>⟨(World.cell?_of_block (w:=w) (a:=⟨b,o+j,none⟩) (hL b hb).2).trans (hf j u hu).1,(hf j u hu).2⟩) fun j u hu=>ih j u hu fun _ _ h=>h
 |own ρ id x h h1=>exact .own _ _ _ (hρ _ _ h) h1
 |ref ρ id off b h=>exact .ref _ _ _ _ (hρ _ _ h)
 |oel ρ id sz i off b n c h=>exact .oel _ _ _ _ _ _ n c (hρ _ _ h)
 |osl ρ id sz off n b m c c2 A h hn hA=>exact .osl _ _ _ _ _ _ m c _ _ (hρ _ _ h) hn hA
 |fset ρ str has b es cl hb hh hk hf=>exact .fset _ _ _ b es cl (hL b hb).1 ((hL b hb).2.trans hh) hk hf
 |fn ρ f fs cs xs ys g h hl hm hg hh hr hs ih1 ih2=>exact .fn _ _ _ _ _ _ g h hl hm hg hh (fun i u hu=>ih1 i u hu hρ) fun i u hu=>ih2 i u hu hρ
 |ifc ρ t u x h ih=>exact .ifc _ _ _ _ (ih hρ)
 |gd ρ g u x h h' ih=>exact .gd _ _ _ _ (fun hg=>ih hg hρ) h'
 |alt ρ g u v x h h' ih ih'=>exact .alt _ _ _ _ _ (fun hg=>ih hg hρ) fun hg=>ih' hg hρ
theorem R.Mv{w:World}{L:Nat->Prop}{ρ:Nat->Option Value}{u:V}{x:Value}(h:R w L ρ0 u x):R w L ρ u x:= h.mono (fun _ hb=>⟨hb,rfl⟩) fun _ _ h=>by cases h
def RL(w:World)(L:Nat->Prop)(ρ:Nat->Option Value)(us:List V)(xs:List Value):Prop:= us.length=xs.length/\∀(i:Nat) u x,us[i]?=some u->xs[i]?=some x->R w L ρ u x/\x.oneCell'=true
def RV(w:World)(L:Nat->Prop)(ρ:Nat->Option Value)(us:List V)(xs:List Value):Prop:= us.length=xs.length/\∀(i:Nat) u x,us[i]?=some u->xs[i]?=some x->R w L ρ u x
section
variable {w w':World}{L L':Nat->Prop}{ρ ρ':Nat->Option Value}
theorem RL.mono{us:List V}{xs:List Value}(h:RL w L ρ us xs)(hL:∀b,L b->L' b/\w'.heap[b]?=w.heap[b]?)(hρ:∀id v,ρ id=some v->ρ' id=some v):RL w' L' ρ' us xs:= ⟨h.1,fun i u x hu hx=>⟨(h.2 i u x hu hx).1.mono hL hρ,(h.2 i u x hu hx).2⟩⟩
theorem RL.rv{us:List V}{xs:List Value}(h:RL w L ρ us xs):RV w L ρ us xs:=⟨h.1,fun i u x hu hx=>(h.2 i u x hu hx).1⟩
theorem RV.mono{us:List V}{xs:List Value}(h:RV w L ρ us xs)(hL:∀b,L b->L' b/\w'.heap[b]?=w.heap[b]?)(hρ:∀id v,ρ id=some v->ρ' id=some v):RV w' L' ρ' us xs:= ⟨h.1,fun i u x hu hx=>(h.2 i u x hu hx).mono hL hρ⟩
theorem RL.get{us:List V}{xs:List Value}(h:RL w L ρ us xs){i:Nat}{u:V}(hu:us[i]?=some u):∃x,xs[i]?=some x/\R w L ρ u x/\x.oneCell'=true:=by
 have hi:i< xs.length:=by rw [<-h.1];exact(List.getElem?_eq_some_iff.1 hu).1
 exact⟨xs[i],List.getElem?_eq_getElem hi,h.2 i u _ hu (List.getElem?_eq_getElem hi)⟩
theorem RV.get{us:List V}{xs:List Value}(h:RV w L ρ us xs){i:Nat}{u:V}(hu:us[i]?=some u):∃x,xs[i]?=some x/\R w L ρ u x:=by
 have hi:i< xs.length:=by rw [<-h.1];exact(List.getElem?_eq_some_iff.1 hu).1
 exact⟨xs[i],List.getElem?_eq_getElem hi,h.2 i u _ hu (List.getElem?_eq_getElem hi)⟩
theorem RL.nil:RL w L ρ [] []:=⟨rfl,fun i u x hu=>by simp at hu⟩
theorem RV.nil:RV w L ρ [] []:=⟨rfl,fun i u x hu=>by simp at hu⟩
theorem RL.cons{u:V}{x:Value}{us:List V}{xs:List Value}(h:R w L ρ u x)(h1:x.oneCell'=true)(hs:RL w L ρ us xs):RL w L ρ (u::us) (x::xs):=by
 refine⟨by simp [hs.1],fun i v y hv hy=> ?_⟩;cases i with
 |zero=>simp at hv hy;subst hv hy;exact⟨h,h1⟩
 |succ i=>simp at hv hy;exact hs.2 i v y hv hy
theorem RV.cons{u:V}{x:Value}{us:List V}{xs:List Value}(h:R w L ρ u x)(hs:RV w L ρ us xs):RV w L ρ (u::us) (x::xs):=by
 refine⟨by simp [hs.1],fun i v y hv hy=> ?_⟩;cases i with
 |zero=>simp at hv hy;subst hv hy;exact h
 |succ i=>simp at hv hy;exact hs.2 i v y hv hy
theorem RL.append{us vs:List V}{xs ys:List Value}(h:RL w L ρ us xs)(k:RL w L ρ vs ys):RL w L ρ (us++vs) (xs++ys):=by
 refine⟨by simp [h.1,k.1],fun i u x hu hx=> ?_⟩;by_cases hi:i< us.length;·rw [List.getElem?_append_left hi]at hu;rw [List.getElem?_append_left (by rw [<-h.1];exact hi)]at hx;exact h.2 i u x hu hx
 ·rw [List.getElem?_append_right oM]at hu;rw [List.getElem?_append_right (by rw [<-h.1];omega),<-h.1]at hx;exact k.2 _ u x hu hx
theorem RV.append{us vs:List V}{xs ys:List Value}(h:RV w L ρ us xs)(k:RV w L ρ vs ys):RV w L ρ (us++vs) (xs++ys):=by
 refine⟨by simp [h.1,k.1],fun i u x hu hx=> ?_⟩;by_cases hi:i< us.length;·rw [List.getElem?_append_left hi]at hu;rw [List.getElem?_append_left (by rw [<-h.1];exact hi)]at hx;exact h.2 i u x hu hx
 ·rw [List.getElem?_append_right oM]at hu;rw [List.getElem?_append_right (by rw [<-h.1];omega),<-h.1]at hx;exact k.2 _ u x hu hx
theorem RL.set{us:List V}{xs:List Value}(h:RL w L ρ us xs)(i:Nat){u:V}{x:Value}(hu:R w L ρ u x)(h1:x.oneCell'=true):RL w L ρ (us.set i u) (xs.set i x):=by
 refine⟨by simp [h.1],fun j v y hv hy=> ?_⟩;rw [List.getElem?_set]at hv hy;by_cases hij:i=j
 ·subst hij;rw [if_pos rfl]at hv hy;split at hv
  ·split at hy;·injection hv with hv;injection hy with hy;subst hv hy;exact⟨hu,h1⟩
   ·cases hy
  ·cases hv
 ·rw [if_neg hij]at hv hy;exact h.2 j v y hv hy
theorem RL.sub{us:List V}{xs:List Value}(h:RL w L ρ us xs)(a n:Nat):RL w L ρ ((us.drop a).take n) ((xs.drop a).take n):=by
 refine⟨by simp [h.1],fun i u x hu hx=> ?_⟩;rw [List.getElem?_take]at hu hx;split at hu;·rename_i hi;rw [if_pos hi]at hx;rw [List.getElem?_drop]at hu hx;exact h.2 _ u x hu hx
 ·cases hu
theorem RL.one{us:List V}{xs:List Value}(h:RL w L ρ us xs):∀x∈xs,x.oneCell'=true:=by
 intro x hx;obtain⟨i,hi,rfl⟩:=List.getElem_of_mem hx;have:i< us.length:=by rw [h.1];exact hi
 exact(h.2 i us[i] _ (List.getElem?_eq_getElem this) (List.getElem?_eq_getElem hi)).2
theorem R.lZ{cs:List V}{xs:Array Value}(h:RL w L ρ cs xs.toList):R w L ρ (.agg cs) (.agg xs):=by
 refine .agg _ _ _ (fun i=>xs.toList.getD i undef) (by simpa using h.1.symm) (fun i u hu=> ?_) fun i u hu=> ?_;·obtain⟨x,hx,_,h1⟩:=h.get hu;simp only [List.getD,hx,Option.getD_some];exact⟨by simpa using hx,h1⟩
 ·obtain⟨x,hx,hr,h1⟩:=h.get hu;simp only [List.getD,hx,Option.getD_some];exact hr
theorem R.eU{cs:List V}{x:Value}(h:R w L ρ (.agg cs) x):∃xs,x= .agg xs/\RL w L ρ cs xs.toList:=by
 cases h with
 |agg _ _ xs f hl hf hr=>refine⟨xs,rfl,by simpa using hl.symm,fun i u x hu hx=> ?_⟩;have:=hf i u hu;rw [Array.getElem?_toList,this.1]at hx;injection hx with hx;subst hx;exact⟨hr i u hu,this.2⟩
theorem R.wK{cs:List V}{xs:Array Value}(h:RV w L ρ cs xs.toList):R w L ρ (.tup cs) (.tuple xs):=by
 refine .tup _ _ _ (fun i=>xs.toList.getD i undef) (by simpa using h.1.symm) (fun i u hu=> ?_) fun i u hu=> ?_;·obtain⟨x,hx,_⟩:=h.get hu;simp only [List.getD,hx,Option.getD_some];simpa using hx
 ·obtain⟨x,hx,hr⟩:=h.get hu;simp only [List.getD,hx,Option.getD_some];exact hr
theorem R.lX{cs:List V}{x:Value}(h:R w L ρ (.tup cs) x):∃xs,x= .tuple xs/\RV w L ρ cs xs.toList:=by
 cases h with
 |tup _ _ xs f hl hf hr=>refine⟨xs,rfl,by simpa using hl.symm,fun i u x hu hx=> ?_⟩;have:=hf i u hu;rw [Array.getElem?_toList,this]at hx;injection hx with hx;subst hx;exact hr i u hu
theorem R.fn'{f:Fn}{fs cs:List V}{xs ys:Array Value}(h:RV w L ρ fs xs.toList)(k:RV w L ρ cs ys.toList):R w L ρ (.fn f fs cs) (.func f xs ys):=by
 refine .fn _ _ _ _ _ _ (fun i=>xs.toList.getD i undef) (fun i=>ys.toList.getD i undef) (by simpa using h.1.symm) (by simpa using k.1.symm) (fun i u hu=> ?_) (fun i u hu=> ?_) (fun i u hu=> ?_) fun i u hu=> ?_;·obtain⟨x,hx,_⟩:=h.get hu;simp only [List.getD,hx,Option.getD_some];simpa using hx
 ·obtain⟨x,hx,_⟩:=k.get hu;simp only [List.getD,hx,Option.getD_some];simpa using hx
 ·obtain⟨x,hx,hr⟩:=h.get hu;simp only [List.getD,hx,Option.getD_some];exact hr
 ·obtain⟨x,hx,hr⟩:=k.get hu;simp only [List.getD,hx,Option.getD_some];exact hr
theorem R.kP{f:Fn}{fs cs:List V}{x:Value}(h:R w L ρ (.fn f fs cs) x):∃xs ys,x= .func f xs ys/\RV w L ρ fs xs.toList/\RV w L ρ cs ys.toList:=by
 cases h with
 |fn _ _ _ _ xs ys g h hl hm hg hh hr hs=>
  refine⟨xs,ys,rfl,⟨by simpa using hl.symm,fun i u x hu hx=> ?_⟩,by simpa using hm.symm,fun i u x hu hx=> ?_⟩;·rw [Array.getElem?_toList,hg i u hu]at hx;injection hx with hx;subst hx;exact hr i u hu
  ·rw [Array.getElem?_toList,hh i u hu]at hx;injection hx with hx;subst hx;exact hs i u hu
theorem R.aN{v x:Value}(h:R w L ρ (.c v) x):x=v:=by cases h;rfl
end
structure MF where
  l:List (MK×V)
  rest:MK->Option Value
def iy(rest:MK->Option Value)(k:MK):List (MK×V)->Option V
 | []=>(rest k).map .c
 |p::l=>if k=p.1 then some p.2 else iy rest k l
def MF.look(f:MF)(k:MK):Option V:=iy f.rest k f.l
def MF.map(q:V->V)(f:MF):MF:=⟨f.l.map fun p=>(p.1,q p.2),f.rest⟩
theorem MF.nH{q:V->V}(hq:∀v,q (.c v)= .c v)(f:MF)(k:MK):(f.map q).look k=(f.look k).map q:=by
 obtain⟨l,rest⟩:=f;show iy rest k (l.map fun p=>(p.1,q p.2))=(iy rest k l).map q;induction l with
 |nil=>
  show(rest k).map V.c=((rest k).map V.c).map q;cases rest k with
  |none=>rfl
  |some v=>show some (V.c v)=some (q (V.c v));rw [hq]
 |cons p l ih=>
  simp only [List.map_cons,iy];split;·rfl
  ·exact ih
inductive Ob where
  |box (t:TypeId) (cs:List V)
  |row (e:TypeId) (sz n:Nat) (row:Nat->List V)
  |mp (str:Bool×Nat) (f:MF)
def EF(es:List MapEntry)(cl:Nat):Prop:=(es.map (·.key)).Nodup/\(es.map (·.born)).Nodup/\∀e∈es,e.born< cl
def kA(r:V->Value->Prop)(str:Bool×Nat)(f:MK->Option V)(es:List MapEntry)(cl:Nat):Prop:=
 (∀e∈es,∃k:MK,k.str=str.1/\e.key=k.val)/\
 (∀k x,k.str=str.1->aR k es=some x->∃u,f k=some u/\r u x)/\
 (∀k,k.str=str.1->aR k es=none->f k=none)/\es.length=str.2/\EF es cl
theorem kA.map{r r':V->Value->Prop}{str:Bool×Nat}{f:MK->Option V}{es:List MapEntry}{cl:Nat}(q:V->V)(h:kA r str f es cl)(k:∀i u x,f i=some u->r u x->r' (q u) x):kA r' str (fun i=>(f i).map q) es cl:= ⟨h.1,fun i x hi hx=>by obtain⟨u,hu,hr⟩:=h.2.1 i x hi hx;exact⟨q u,by show(f i).map q=_;rw [hu];rfl,k i u x hu hr⟩,fun i hi hx=>by show(f i).map q=none;rw [h.2.2.1 i hi hx];rfl,h.2.2.2⟩
theorem kA.N9{r r':V->Value->Prop}{str:Bool×Nat}{f:MF}{es:List MapEntry}{cl:Nat}{q:V->V}(hq:∀v,q (.c v)= .c v)(h:kA r str f.look es cl)(k:∀i u x,f.look i=some u->r u x->r' (q u) x):kA r' str (f.map q).look es cl:=by have e:(f.map q).look=fun i=>(f.look i).map q:=funext fun i=>f.nH hq i;rw [e];exact h.map q k
theorem kA.imp{r r':V->Value->Prop}{str:Bool×Nat}{f:MK->Option V}{es:List MapEntry}{cl:Nat}(h:kA r str f es cl)(k:∀i u x,f i=some u->r u x->r' u x):kA r' str f es cl:= ⟨h.1,fun i x hi hx=>by obtain⟨u,hu,hr⟩:=h.2.1 i x hi hx;exact⟨u,hu,k i u x hu hr⟩,h.2.2⟩
def aE(n:Nat)(row:Nat->List V):List (List V):=(List.range n).map row
theorem b8(n:Nat)(row:Nat->List V):(aE n row).length=n:=by simp [aE]
theorem bK{n:Nat}{row:Nat->List V}{i:Nat}(h:i< n):(aE n row)[i]?=some (row i):=by simp [aE,h]
theorem cq{n sz:Nat}{row:Nat->List V}(h:∀i,i< n->(row i).length=sz):∀r∈aE n row,r.length=sz:=by intro r hr;simp only [aE,List.mem_map,List.mem_range]at hr;obtain⟨i,hi,rfl⟩:=hr;exact h i hi
def blk:Value->Option Nat
 | .pointer (some a)=>some a.block
 | .slice (some a) _ _=>some a.block
 | .map (some b)=>some b
 |_=>none
def Real(W:Nat->Prop)(w:World)(L:Nat->Prop)(ρ:Nat->Option Value)(id:Nat):Ob->Prop
 | .box t cs=>∃b xs,ρ id=some (.pointer (some ⟨b,0,none⟩))/\W b/\¬L b/\w.heap[b]?=some (.cells xs t (0,0))/\RL w L ρ cs xs.toList
 | .row e sz n row=>∃v xs,ρ id=some v/\w.ownsRow 0 e sz v n xs/\(∀i,i< n->(row i).length=sz)/\RL w L ρ (aE n row).flatten xs/\(∀k,blk v=some k->W k/\¬L k)
 | .mp str f=>∃b es clock,ρ id=some (.map (some b))/\W b/\¬L b/\w.heap[b]?=some (.map es clock)/\kA (R w L ρ) str f.look es.toList clock
def jn:Nat->V:=fun _=> .any
def ql(g:Nat):Value:= .pointer (some ⟨g,0,none⟩)
structure G(W LB:Nat->Prop)(σ:Nat->Option Ob)(w:World)(L:Nat->Prop)(ρ:Nat->Option Value):Prop where
  ll:∀b,L b->b< w.heap.size/\LB b
  new:∀b,w.heap.size<=b->W b/\LB b
  ob:∀id o,σ id=some o->Real W w L ρ id o
  sep:∀i j x y k,i≠j->σ i≠none->σ j≠none->ρ i=some x->ρ j=some y->blk x=some k->blk y≠some k
  gl:∀g,R w L ρ0 (jn g) (ql g)
theorem Real.lt{W L:Nat->Prop}{w:World}{ρ:Nat->Option Value}{id:Nat}{o:Ob}(h:Real W w L ρ id o):∃x,ρ id=some x/\∀k,blk x=some k->k< w.heap.size/\W k/\¬L k:=by
 cases o with
 |box t cs=>obtain⟨b,xs,h1,h2,h3,h4,_⟩:=h;exact⟨_,h1,fun k hk=>by simp [blk]at hk;subst hk;exact⟨(Array.getElem?_eq_some_iff.1 h4).1,h2,h3⟩⟩
 |row e sz n row=>
  obtain⟨v,xs,h1,h2,h3,h4,h5⟩:=h;refine⟨_,h1,fun k hk=>⟨?_,h5 k hk⟩⟩;rcases h2.2 with⟨rfl,_⟩ | ⟨g,cap,cur,rfl,_,hg,_⟩;·simp [blk]at hk
  ·simp [blk]at hk;subst hk;exact(Array.getElem?_eq_some_iff.1 hg).1
 |mp str f=>obtain⟨b,es,cl,h1,h2,h3,h4,_⟩:=h;exact⟨_,h1,fun k hk=>by simp [blk]at hk;subst hk;exact⟨(Array.getElem?_eq_some_iff.1 h4).1,h2,h3⟩⟩
structure Ext(w:World)(L:Nat->Prop)(ρ:Nat->Option Value)(w':World)(L':Nat->Prop)(ρ':Nat->Option Value):Prop where
  l:∀b,L b->L' b/\w'.heap[b]?=w.heap[b]?
  r:∀id v,ρ id=some v->ρ' id=some v
theorem Ext.refl(w:World)(L:Nat->Prop)(ρ:Nat->Option Value):Ext w L ρ w L ρ:=⟨fun _ h=>⟨h,rfl⟩,fun _ _ h=>h⟩
theorem Ext.trans{w w' w'':World}{L L' L'':Nat->Prop}{ρ ρ' ρ'':Nat->Option Value}(h:Ext w L ρ w' L' ρ')(k:Ext w' L' ρ' w'' L'' ρ''):Ext w L ρ w'' L'' ρ'':= ⟨fun b hb=>⟨(k.l b (h.l b hb).1).1,(k.l b (h.l b hb).1).2.trans (h.l b hb).2⟩,fun id v hv=>k.r id v (h.r id v hv)⟩
theorem R.ext{w w':World}{L L':Nat->Prop}{ρ ρ':Nat->Option Value}{u:V}{x:Value}(h:R w L ρ u x)(e:Ext w L ρ w' L' ρ'):R w' L' ρ' u x:=h.mono e.l e.r
theorem RL.ext{w w':World}{L L':Nat->Prop}{ρ ρ':Nat->Option Value}{u:List V}{x:List Value}(h:RL w L ρ u x)(e:Ext w L ρ w' L' ρ'):RL w' L' ρ' u x:=h.mono e.l e.r
theorem RV.ext{w w':World}{L L':Nat->Prop}{ρ ρ':Nat->Option Value}{u:List V}{x:List Value}(h:RV w L ρ u x)(e:Ext w L ρ w' L' ρ'):RV w' L' ρ' u x:=h.mono e.l e.r
theorem G.Pa{W LB L L':Nat->Prop}{w w':World}{σ:Nat->Option Ob}{ρ:Nat->Option Value}(h:G W LB σ w L ρ)(e:∀b,L b->L' b/\w'.heap[b]?=w.heap[b]?):∀g,R w' L' ρ0 (jn g) (ql g):=fun g=>(h.gl g).mono e fun _ _ h=>h
theorem G.tN{W LB L L':Nat->Prop}{w w':World}{σ:Nat->Option Ob}{ρ ρ':Nat->Option Value}(h:G W LB σ w L ρ)(e:Ext w L ρ w' L' ρ'):∀g,R w' L' ρ0 (jn g) (ql g):=fun g=>(h.gl g).mono e.l fun _ _ h=>h
theorem Real.keep{W L L':Nat->Prop}{w w':World}{ρ ρ':Nat->Option Value}{id:Nat}{o:Ob}(h:Real W w L ρ id o)(e:Ext w L ρ w' L' ρ') (hb:∀x k,ρ id=some x->blk x=some k->w'.heap[k]?=w.heap[k]?/\¬L' k):Real W w' L' ρ' id o:=by
 cases o with
 |box t cs=>obtain⟨b,xs,h1,h2,h3,h4,h5⟩:=h;have:=hb _ b h1 rfl;exact⟨b,xs,e.r _ _ h1,h2,this.2,this.1.trans h4,h5.ext e⟩
 |row t sz n row=>
  obtain⟨v,xs,h1,h2,h3,h4,h5⟩:=h;refine⟨v,xs,e.r _ _ h1,⟨h2.1,?_⟩,h3,h4.ext e,fun k hk=>⟨(h5 k hk).1,(hb _ k h1 hk).2⟩⟩;rcases h2.2 with hn | ⟨g,cap,cur,rfl,hg,hh,rest⟩;·exact .inl hn
  ·exact .inr ⟨g,cap,cur,rfl,hg,(hb _ g h1 rfl).1.trans hh,rest⟩
 |mp str f=>obtain⟨b,es,cl,h1,h2,h3,h4,h5⟩:=h;have:=hb _ b h1 rfl;exact⟨b,es,cl,e.r _ _ h1,h2,this.2,this.1.trans h4,h5.imp fun _ _ _ _ h=>h.ext e⟩
def bL{α:Type}(f:Nat->α)(k:Nat)(x:α):Nat->α:=fun i=>if i=k then x else f i
theorem ak{α:Type}(f:Nat->α)(k:Nat)(x:α):bL f k x k=x:=by simp [bL]
theorem ah{α:Type}(f:Nat->α){k i:Nat}(x:α)(h:i≠k):bL f k x i=f i:=by simp [bL,h]
theorem G.quiet{W LB L L':Nat->Prop}{w w':World}{σ:Nat->Option Ob}{ρ:Nat->Option Value}(h:G W LB σ w L ρ)(hb:Below w.heap.size w w') (hL:∀b,L b->L' b) (hL':∀b,L' b->L b\/(w.heap.size<=b/\b< w'.heap.size)):G W LB σ w' L' ρ/\Ext w L ρ w' L' ρ:=by
 have e:Ext w L ρ w' L' ρ:=⟨fun b hbl=>⟨hL b hbl,hb.block b (h.ll b hbl).1⟩,fun _ _ h=>h⟩;refine⟨⟨fun b hbl=> ?_,fun b hbs=>h.new b (Nat.le_trans hb.size hbs),fun id o ho=> ?_,h.sep,h.tN e⟩,e⟩
 ·rcases hL' b hbl with h1 | ⟨h1,h2⟩;·exact⟨Nat.lt_of_lt_of_le (h.ll b h1).1 hb.size,(h.ll b h1).2⟩
  ·exact⟨h2,(h.new b h1).2⟩
 ·refine(h.ob id o ho).keep e fun x k hx hk=> ?_;obtain⟨y,hy,hlt⟩:=(h.ob id o ho).lt;rw [hx]at hy;injection hy with hy;subst hy;obtain⟨l1,l2,l3⟩:=hlt k hk;exact⟨hb.block k l1,fun hk'=>(hL' k hk').elim l3 fun h=>by omega⟩
def dM(w:World)(L:Nat->Prop)(w':World)(L':Nat->Prop):Prop:=∀D,w.heap[D]?=some (.deferred (some []))->w'.heap[D]?=some (.deferred (some []))/\(L' D->L D)
theorem dM.refl(w:World)(L:Nat->Prop):dM w L w L:=fun _ h=>⟨h,id⟩
theorem dM.trans{w w' w'':World}{L L' L'':Nat->Prop}(h:dM w L w' L')(k:dM w' L' w'' L''):dM w L w'' L'':=fun D hD=>⟨(k D (h D hD).1).1,fun hL=>(h D hD).2 ((k D (h D hD).1).2 hL)⟩
theorem dM.below{w w':World}{L L':Nat->Prop}(h:Below w.heap.size w w')(hL:∀b,L' b->L b\/w.heap.size<=b):dM w L w' L':=fun D hD=>by have hlt:=(Array.getElem?_eq_some_iff.1 hD).1;exact⟨(h.block D hlt).trans hD,fun h=>(hL D h).resolve_right oM⟩
theorem dM.grown{w w':World}{L:Nat->Prop}{ch:Option Nat}(h:w.grownBy w' ch)(hc:∀k,ch=some k->∃cs t f,w.heap[k]?=some (.cells cs t f)):dM w L w' L:=fun D hD=>by have hlt:=(Array.getElem?_eq_some_iff.1 hD).1;refine⟨(h.block D hlt fun e=> ?_).trans hD,id⟩;obtain⟨cs,t,f,hk⟩:=hc D e.symm;rw [hD]at hk;cases hk
def y8(P:Program)(s f:Nat):Option Nat:=
 match P.underlying s with
  |some (.struct fs)=>match fs[f]? with
   |some fd=>match P.info? fd.type with
    |some i=>if i.size=0 then none else some fd.offset
    |none=>none
   |none=>none
  |_=>none
def lB(P:Program)(t:Nat):Option Bool:=(P.underlying t).map fun | .struct _=>true | .array _ _=>true |_=>false
def cc(P:Program)(t:Nat):Option Nat:=(P.info? t).map (·.size)
def dw(P:Program)(t:Nat):Option Nat:=match P.underlying t with |some (.slice e)=>some e |_=>none
def wG(P:Program)(t:Nat):Option (Nat×Nat):=match P.underlying t with |some (.array n e)=>some (n,e) |_=>none
def uW(P:Program)(t:Nat):Option IntKind:=match P.underlying t with |some (.int k)=>some k |_=>none
def A9:Value->V
 | .slice none 0 0=> .nil
 |v=> .c v
def gN(P:Program)(t:Nat):Option (List V):=match P.info? t with
 |some i=>match i.zero with
  |some z=>if z.cells.toList.all (·.oneCell')then some (z.cells.toList.map A9)else none
  |none=>none
 |none=>none
def uV(P:Program)(s:Nat):Option (List (Nat×Nat)):=match P.underlying s with
 |some (.struct fs)=>fs.toList.mapM fun f=>(P.info? f.type).map fun i=>(f.offset,i.size)
 |_=>none
theorem R.A9(w:World)(L:Nat->Prop)(ρ:Nat->Option Value)(v:Value):R w L ρ (A9 v) v:=by
 unfold Ab.A9;split;·exact .nil _
 ·exact .c _ _
def FW(F:Fence):Prop:=F=Fence.wide\/∃l,F=Fence.wide.inRound l
theorem FW.fn{F:Fence}(h:FW F)(f:FuncId):F.fn f:=by rcases h with rfl | ⟨l,rfl⟩ <;> trivial
theorem FW.depth{F:Fence}(h:FW F):F.depth=none:=by rcases h with rfl | ⟨l,rfl⟩ <;> rfl
theorem FW.calls{F:Fence}(h:FW F){P:Program}{n:Nat}{f:FuncId}{args:Array Value}{w:World}{R:Ending->World->Prop}(k:Calls P f args w R):CallsIn F n P f args w R:=by
 have:=callsIn_wide (n:=n).2 k;rcases h with rfl | ⟨l,rfl⟩;·exact this
 ·exact this
def bk(P:Program)(o:Oper)(g:Operand->Value)(w:World)(K:Value->World->Prop):Prop:= ∀(F:Fence),FW F->∀(a:Act) (next:Act->World->Prop) (Q:Exit->Act->World->Prop),(∀x∈o.op.operands,a.eval x=g x)->(∀x w',K x w'->next (a.put o.dst x) w')->o.wpIn F 0 P a w next Q
def jT:Op->Bool
 | .select _ _ | .defer _=>false
 |_=>true
theorem bk.value{P:Program}{o:Oper}{g:Operand->Value}{w w':World}{K:Value->World->Prop}{v:Value}(hp:jT o.op=true) (h:(execOp g o).run P w= .ok (.value v) w') (hK:K v w'):bk P o g w K:=by
 intro F hF a next Q ha hn
 have hs:∀cs b,o.op≠ .select cs b:=fun cs b e=>by rw [e]at hp;cases hp
 have hd:∀c,o.op≠ .defer c:=fun c e=>by rw [e]at hp;cases hp
 unfold Oper.wpIn;rw [Oper.semAt_eq _ _ _ hd,execOp_congr o hs ha,h];exact⟨fun f _=>hF.fn f,hn _ _ hK⟩
theorem bk.skip{P:Program}{o:Oper}{g:Operand->Value}{w w':World}{K:Value->World->Prop}(hp:jT o.op=true) (h:(execOp g o).run P w= .ok .skip w') (hK:K undef w'):bk P o g w K:=by
 intro F hF a next Q ha hn
 have hs:∀cs b,o.op≠ .select cs b:=fun cs b e=>by rw [e]at hp;cases hp
 have hd:∀c,o.op≠ .defer c:=fun c e=>by rw [e]at hp;cases hp
 unfold Oper.wpIn;rw [Oper.semAt_eq _ _ _ hd,execOp_congr o hs ha,h];exact⟨fun f _=>hF.fn f,hn _ _ hK⟩
theorem bk.enter{P:Program}{o:Oper}{g:Operand->Value}{w w':World}{K:Value->World->Prop}{f:FuncId}{args:Array Value}(hp:jT o.op=true) (h:(execOp g o).run P w= .ok (.enter f args) w') (hK:Calls P f args w' fun e w''=>∃v,e= .returned v/\K v w''):bk P o g w K:=by
 intro F hF a next Q ha hn
 have hs:∀cs b,o.op≠ .select cs b:=fun cs b e=>by rw [e]at hp;cases hp
 have hd:∀c,o.op≠ .defer c:=fun c e=>by rw [e]at hp;cases hp
 unfold Oper.wpIn;rw [Oper.semAt_eq _ _ _ hd,execOp_congr o hs ha,h];rw [Oper.uponIn_enter];refine⟨fun f _=>hF.fn f,⟨(fun e=>by rw [hF.depth]at e;cases e),hF.calls (hK.mono ?_)⟩⟩;rintro e w'' ⟨v,rfl,hv⟩;exact hn _ _ hv
def aD(P:Program)(o:Oper)(ev:Operand->V)(v:V):Prop:= ∀w L ρ g,(∀x∈o.op.operands,R w L ρ (ev x) (g x))->(∀b,L b->b< w.heap.size)-> bk P o g w fun x w'=>Below w.heap.size w w'/\∃L':Nat->Prop,(∀b,L b->L' b)/\(∀b,L' b->L b\/(w.heap.size<=b/\b< w'.heap.size))/\R w' L' ρ v x
def bG(σ:Nat->Option Ob):List (Nat×Option Ob)->Nat->Option Ob
 | []=>σ
 | (k,o)::δ=>bG (bL σ k o) δ
def aU(P:Program)(W LB:Nat->Prop)(o:Oper)(ev:Operand->V)(v:V)(pre:List (Nat×Ob))(nw:List Nat)(δ:List (Nat×Option Ob)):Prop:= ∀σ w L ρ g,G W LB σ w L ρ->(∀x∈o.op.operands,R w L ρ (ev x) (g x))->(∀p∈pre,σ p.1=some p.2)->(∀id∈nw,ρ id=none)-> bk P o g w fun x w'=>∃L' ρ',G W LB (bG σ δ) w' L' ρ'/\R w' L' ρ' v x/\aZ W w w'/\Ext w L ρ w' L' ρ'/\(∀id,id∉nw->ρ' id=ρ id)/\dM w L w' L'
theorem bk.mono{P:Program}{o:Oper}{g:Operand->Value}{w:World}{K K':Value->World->Prop}(h:bk P o g w K)(hk:∀x w',K x w'->K' x w'):bk P o g w K':= fun F hF a next Q ha hn=>h F hF a next Q ha fun x w' hx=>hn x w' (hk x w' hx)
theorem aD.step{P:Program}{W LB:Nat->Prop}{o:Oper}{ev:Operand->V}{v:V}(h:aD P o ev v):aU P W LB o ev v [] [] []:=by intro σ w L ρ g hG hr _ _;refine(h w L ρ g hr fun b hb=>(hG.ll b hb).1).mono ?_;rintro x w' ⟨hb,L',h1,h2,h3⟩;obtain⟨hG',e⟩:=hG.quiet hb h1 h2;exact⟨L',ρ,hG',h3,aZ.gw hb fun k _ hk=>(hG.new k hk).1,e,fun _ _=>rfl,dM.below hb fun b hb=>(h2 b hb).imp id fun h=>h.1⟩
theorem aD.same{P:Program}{o:Oper}{ev:Operand->V}{v:V}(hp:jT o.op=true) (h:∀w L ρ g,(∀x∈o.op.operands,R w L ρ (ev x) (g x))->∃x,(execOp g o).run P w= .ok (.value x) w/\R w L ρ v x):aD P o ev v:=by intro w L ρ g hr _;obtain⟨x,hx,hv⟩:=h w L ρ g hr;exact bk.value hp hx ⟨Below.refl _ _,L,fun _ h=>h,fun _ h=> .inl h,hv⟩
section
variable {P:Program}{d:Option Tmp}{ty:TypeId}{pos:String}{af:Array Edge}{gd:Option (Nat×Bool)}{ev:Operand->V}
theorem IC(x:Operand){v:V}(h:ev x=v):aD P ⟨d,.move x,ty,pos,af,gd⟩ ev v:= aD.same rfl fun w L ρ g hr=>⟨g x,rfl,h ▸ hr x (by simp [Op.operands])⟩
theorem CJ(x:Operand){v:V}(h:ev x=v):aD P ⟨d,.assign x,ty,pos,af,gd⟩ ev v:= aD.same rfl fun w L ρ g hr=>⟨g x,rfl,h ▸ hr x (by simp [Op.operands])⟩
theorem zM(x:Operand)(i:Nat){cs:List V}{v:V}(h:ev x= .tup cs)(hv:cs[i]?=some v):aD P ⟨d,.extract x i,ty,pos,af,gd⟩ ev v:= aD.same rfl fun w L ρ g hr=>by have h1:=hr x (by simp [Op.operands]);rw [h]at h1;obtain⟨xs,hx,hl⟩:=h1.lX;obtain⟨y,hy,hr'⟩:=hl.get hv;rw [Array.getElem?_toList]at hy;exact⟨y,by simp [execOp,hx,Instr.extract,hy],hr'⟩
def Fj(op:BinOp)(k:IntKind)(x y:Int):Int:=
 let a:=BitVec.ofInt k.bits x
 let b:=BitVec.ofInt k.bits y
 match op with
  | .and=>k.wrap (a &&& b).toNat
  | .or=>k.wrap (a ||| b).toNat
  | .xor=>k.wrap (a ^^^ b).toNat
  |_=>k.wrap (a &&& ~~~b).toNat
def xy(op:BinOp)(k:IntKind)(a b:Int):Prop×V:=
 match op with
  | .add=>(True,.c (.int k (k.wrap (a+b))))
  | .sub=>(True,.c (.int k (k.wrap (a- b))))
  | .mul=>(True,.c (.int k (k.wrap (a*b))))
  | .quo=>(b≠0,.c (.int k (k.wrap (a.tdiv b))))
  | .rem=>(b≠0,.c (.int k (a.tmod b)))
  | .eql=>(True,.b (decide (a=b)))
  | .neq=>(True,.b (!decide (a=b)))
  | .lss=>(True,.b (decide (a< b)))
  | .leq=>(True,.b (decide (a<=b)))
  | .gtr=>(True,.b (decide (b< a)))
  | .geq=>(True,.b (decide (b<=a)))
  | .shl=>(False,.any)
  | .shr=>(False,.any)
  |op=>(True,.c (.int k (Fj op k a b)))
theorem Iu(op:BinOp)(t t':TypeId)(x y:Operand){k:IntKind}{a b:Int}(hx:ev x= .c (.int k a))(hy:ev y= .c (.int k b))(hc:(xy op k a b).1) : aD P ⟨d,.binOp op t x y t',ty,pos,af,gd⟩ ev (xy op k a b).2:= aD.same rfl fun w L ρ g hr=>by
 have h1:=hr x (by simp [Op.operands]);have h2:=hr y (by simp [Op.operands]);rw [hx]at h1;rw [hy]at h2;have e1:=h1.aN;have e2:=h2.aN;cases op <;> simp only [xy,ne_eq]at hc ⊢ <;> first
  | (refine⟨_,?_,.c _ _⟩;simp [execOp,e1,e2,eqGuard,binOp,Op.intArith];done)
  | (refine⟨_,?_,.c _ _⟩;simp [execOp,e1,e2,eqGuard,binOp,Op.intCmp];done)
  | (refine⟨_,?_,.c _ _⟩;simp [execOp,e1,e2,eqGuard,binOp];rfl)
  | (refine⟨_,?_,.c _ _⟩;simp [execOp,e1,e2,eqGuard,binOp,Op.intDiv,hc];done)
  | (refine⟨_,?_,.c _ _⟩;simp [execOp,e1,e2,eqGuard,binOp,Op.intBits,Fj];done)
theorem E8(t t':TypeId)(x y:Operand){k k':IntKind}{a b:Int}(hx:ev x= .c (.int k a))(hy:ev y= .c (.int k' b))(hc:0<=b) : aD P ⟨d,.binOp .shl t x y t',ty,pos,af,gd⟩ ev (.c (.int k (k.wrap (a*2 ^ (min b.toNat k.bits))))):= aD.same rfl fun w L ρ g hr=>by have h1:=hr x (by simp [Op.operands]);have h2:=hr y (by simp [Op.operands]);rw [hx]at h1;rw [hy]at h2;have e1:=h1.aN;have e2:=h2.aN;refine⟨_,?_,.c _ _⟩;simp [execOp,e1,e2,eqGuard,binOp,Op.shift];omega
theorem Lz(t t':TypeId)(x y:Operand){k k':IntKind}{a b:Int}(hx:ev x= .c (.int k a))(hy:ev y= .c (.int k' b))(hc:0<=b) : aD P ⟨d,.binOp .shr t x y t',ty,pos,af,gd⟩ ev (.c (.int k (a.fdiv (2 ^ (min b.toNat k.bits))))):= aD.same rfl fun w L ρ g hr=>by have h1:=hr x (by simp [Op.operands]);have h2:=hr y (by simp [Op.operands]);rw [hx]at h1;rw [hy]at h2;have e1:=h1.aN;have e2:=h2.aN;refine⟨_,?_,.c _ _⟩;simp [execOp,e1,e2,eqGuard,binOp,Op.shift];omega
theorem Ly(t:TypeId)(x:Operand){b:Bool}(hx:ev x= .b b):aD P ⟨d,.unOp .not t x,ty,pos,af,gd⟩ ev (.b (!b)):= aD.same rfl fun w L ρ g hr=>by have h1:=hr x (by simp [Op.operands]);rw [hx]at h1;have e1:=h1.aN;exact⟨_,by simp [execOp,e1,Op.unary],.c _ _⟩
theorem E7(t:TypeId)(x:Operand){k:IntKind}{a:Int}(hx:ev x= .c (.int k a)):aD P ⟨d,.unOp .neg t x,ty,pos,af,gd⟩ ev (.c (.int k (k.wrap (0- a)))):= aD.same rfl fun w L ρ g hr=>by have h1:=hr x (by simp [Op.operands]);rw [hx]at h1;have e1:=h1.aN;exact⟨_,by simp [execOp,e1,Op.unary,Op.intArith],.c _ _⟩
theorem aA{t:TypeId}{u:TypeDesc}(h:P.underlying t=some u)(w:World):(underlying t).run P w= .ok u w:=by simp [underlying,h]
theorem sW{t:TypeId}{k:IntKind}(h:uW P t=some k):P.underlying t=some (.int k):=by
 unfold uW at h;split at h;·injection h with h;subst h;assumption
 ·cases h
theorem xb(s t:TypeId)(x:Operand){k k':IntKind}{a:Int}(hs:(P.underlying s).isSome=true)(ht:uW P t=some k)(hx:ev x= .c (.int k' a)) : aD P ⟨d,.convert s t x,ty,pos,af,gd⟩ ev (.c (.int k (k.wrap a))):= aD.same rfl fun w L ρ g hr=>by have h1:=hr x (by simp [Op.operands]);rw [hx]at h1;have e1:=h1.aN;obtain⟨us,hus⟩:=Option.isSome_iff_exists.1 hs;refine⟨.int k (k.wrap a),?_,.c _ _⟩;simp [execOp,e1,convert,aA hus,aA (sW ht),Conv.intToInt]
end
mutual
def V.ck:V->Bool
 | .agg cs=>V.bA cs
 | .tup cs=>V.bA cs
 | .fn _ a b=>V.bA a && V.bA b
 | .ifc _ v=>v.ck
 | .gd _ v=>v.ck
 | .alt _ v u=>v.ck && u.ck
 | .own _=>false
 | .ref _ _=>false
 | .oel _ _ _ _=>false
 | .osl _ _ _ _=>false
 |_=>true
def V.bA:List V->Bool
 | []=>true
 |v::l=>v.ck && V.bA l
end
theorem V.dW:∀ {l:List V}(_:V.bA l=true){i:Nat}{u:V}(_:l[i]?=some u),u.ck=true
 |v::l,h,0,u,hu=>by simp at hu;subst hu;simp only [V.bA,Bool.and_eq_true]at h;exact h.1
 |v::l,h,i+1,u,hu=>by simp only [V.bA,Bool.and_eq_true]at h;exact V.dW h.2 (by simpa using hu)
theorem R.free{w:World}{L:Nat->Prop}{ρ:Nat->Option Value}{u:V}{x:Value}(h:R w L ρ u x):∀(_:u.ck=true) (ρ':Nat->Option Value),R w L ρ' u x:=by
 induction h with
 |any=>exact fun _ _=> .any _ _
 |c=>exact fun _ _=> .c _ _
 |agg ρ cs xs f hl hf hr ih=>intro hi ρ';simp only [V.ck]at hi;exact .agg _ _ _ f hl hf fun i u hu=>ih i u hu (V.dW hi hu) ρ'
 |tup ρ cs xs f hl hf hr ih=>intro hi ρ';simp only [V.ck]at hi;exact .tup _ _ _ f hl hf fun i u hu=>ih i u hu (V.dW hi hu) ρ'
 |nil=>exact fun _ _=> .nil _
 |emp=>exact fun _ _=> .emp _ _
 |sl0=>exact fun _ _=> .sl0 _ _ _ _ _
 |sl ρ sz n row b o c f hb hcap hlen hf hr ih=>exact fun _ _=> .sl _ _ _ _ _ _ _ f hb hcap hlen hf hr
 |ptr ρ cs b o f hb hf hr ih=>exact fun _ _=> .ptr _ _ _ _ f hb hf hr
 |own=>intro hi;simp [V.ck]at hi
 |ref=>intro hi;simp [V.ck]at hi
 |oel=>intro hi;simp [V.ck]at hi
 |osl=>intro hi;simp [V.ck]at hi
 |fset ρ str has b es cl hb hh hk hf=>exact fun _ _=> .fset _ _ _ b es cl hb hh hk hf
 |fn ρ f fs cs xs ys g h hl hm hg hh hr hs ih1 ih2=>intro hi ρ';simp only [V.ck,Bool.and_eq_true]at hi;exact .fn _ _ _ _ _ _ g h hl hm hg hh (fun i u hu=>ih1 i u hu (V.dW hi.1 hu) ρ') fun i u hu=>ih2 i u hu (V.dW hi.2 hu) ρ'
 |ifc ρ t u x h ih=>intro hi ρ';simp only [V.ck]at hi;exact .ifc _ _ _ _ (ih hi ρ')
 |gd ρ g u x h h' ih=>intro hi ρ';simp only [V.ck]at hi;exact .gd _ _ _ _ (fun hg=>ih hg hi ρ') h'
 |alt ρ g u v x h h' ih ih'=>intro hi ρ';simp only [V.ck,Bool.and_eq_true]at hi;exact .alt _ _ _ _ _ (fun hg=>ih hg hi.1 ρ') fun hg=>ih' hg hi.2 ρ'
def bY:V->Option (List V)
 | .agg cs=>some cs
 | .c v=>if v.oneCell' then some [.c v]else none
 | .any=>none
 | .tup _=>none
 | .gd _ _=>none
 | .alt _ _ _=>none
 |v=>some [v]
theorem Dh{x:Value}(h:x.oneCell'=true):x.cells= #[x]:=by cases x <;> first |rfl | (simp [Value.oneCell']at h)
theorem ji{w:World}{L:Nat->Prop}{ρ:Nat->Option Value}{u:V}{x:Value}{us:List V}(h:R w L ρ u x)(hc:bY u=some us):RL w L ρ us x.cells.toList:=by
 have one:x.oneCell'=true->us=[u]->RL w L ρ us x.cells.toList:=by rintro h1 rfl;rw [Dh h1];exact .cons h h1 .nil
 cases u with
 |any=>simp [bY]at hc
 |c v=>
  simp only [bY]at hc;split at hc;·rename_i h1;injection hc with hc;exact one (by rw [h.aN];exact h1) hc.symm
  ·cases hc
 |agg cs=>simp only [bY]at hc;injection hc with hc;subst hc;obtain⟨xs,rfl,hl⟩:=h.eU;exact hl
 |tup=>simp [bY]at hc
 |gd=>simp [bY]at hc
 |alt=>simp [bY]at hc
 |nil=>simp only [bY]at hc;injection hc with hc;exact one (by cases h;rfl) hc.symm
 |emp=>simp only [bY]at hc;injection hc with hc;exact one (by cases h;rfl) hc.symm
 |sl=>simp only [bY]at hc;injection hc with hc;exact one (by cases h <;> rfl) hc.symm
 |ptr=>simp only [bY]at hc;injection hc with hc;exact one (by cases h;rfl) hc.symm
 |own=>simp only [bY]at hc;injection hc with hc;exact one (by cases h;assumption) hc.symm
 |ref=>simp only [bY]at hc;injection hc with hc;exact one (by cases h;rfl) hc.symm
 |oel=>simp only [bY]at hc;injection hc with hc;exact one (by cases h;rfl) hc.symm
 |osl=>simp only [bY]at hc;injection hc with hc;exact one (by cases h;rfl) hc.symm
 |fset=>simp only [bY]at hc;injection hc with hc;exact one (by cases h;rfl) hc.symm
 |fn=>simp only [bY]at hc;injection hc with hc;exact one (by cases h;rfl) hc.symm
 |ifc=>simp only [bY]at hc;injection hc with hc;exact one (by cases h;rfl) hc.symm
section
variable {w w':World}{L L':Nat->Prop}{ρ ρ':Nat->Option Value}
theorem R.gU{cs:List V}{x:Value}(h:R w L ρ (.ptr cs) x):∃b o,x= .pointer (some ⟨b,o,none⟩)/\L b/\∀(j:Nat) u,cs[j]?=some u->∃y,w.cell? ⟨b,o+j,none⟩=some y/\y.oneCell'=true/\R w L ρ0 u y:=by
 cases h with
 |ptr _ _ b o f hb hf hr=>exact⟨b,o,rfl,hb,fun j u hu=>⟨_,(hf j u hu).1,(hf j u hu).2,hr j u hu⟩⟩
theorem R.ptr'{cs:List V}{b o:Nat}(hb:L b)(h:∀(j:Nat) u,cs[j]?=some u->∃y,w.cell? ⟨b,o+j,none⟩=some y/\y.oneCell'=true/\R w L ρ0 u y):R w L ρ (.ptr cs) (.pointer (some ⟨b,o,none⟩)):=by
 refine .ptr _ _ _ _ (fun j=>(w.cell? ⟨b,o+j,none⟩).getD undef) hb (fun j u hu=> ?_) fun j u hu=> ?_;·obtain⟨y,h1,h2,h3⟩:=h j u hu;simp only [h1,Option.getD_some];exact⟨trivial,h2⟩
 ·obtain⟨y,h1,h2,h3⟩:=h j u hu;simp only [h1,Option.getD_some];exact h3
theorem R.jg{sz n:Nat}{row:Nat->List V}{x:Value}(h:R w L ρ (.sl sz n row) x):∃A c,x= .slice A n c/\(0< n->∃b o,A=some ⟨b,o,none⟩/\L b/\(∀i,i< n->(row i).length=sz)/\ ∀(i j:Nat) u,i< n->(row i)[j]?=some u->∃y,w.cell? ⟨b,o+i*sz+j,none⟩=some y/\y.oneCell'=true/\R w L ρ0 u y):=by
 cases h with
 |sl0=>exact⟨_,_,rfl,fun h=>by omega⟩
 |sl _ _ _ _ b o c f hb _ hlen hf hr=>exact⟨_,_,rfl,fun _=>⟨b,o,rfl,hb,hlen,fun i j u hi hu=>⟨_,(hf i j u hi hu).1,(hf i j u hi hu).2,hr i j u hi hu⟩⟩⟩
theorem R.wB{sz n m:Nat}{row:Nat->List V}{A:Option Addr}{c:Nat}(h:R w L ρ (.sl sz n row) (.slice A m c)):n<=c:=by
 cases h with
 |sl0=>exact Nat.zero_le _
 |sl _ _ _ _ b o c f hb hcap=>exact hcap
theorem R.HE{sz n:Nat}{row:Nat->List V}{A:Option Addr}{c:Nat}(hcap:n<=c)(h:0< n->∃b o,A=some ⟨b,o,none⟩/\L b/\(∀i,i< n->(row i).length=sz)/\ ∀(i j:Nat) u,i< n->(row i)[j]?=some u->∃y,w.cell? ⟨b,o+i*sz+j,none⟩=some y/\y.oneCell'=true/\R w L ρ0 u y):R w L ρ (.sl sz n row) (.slice A n c):=by
 rcases Nat.eq_zero_or_pos n with rfl |hn;·exact .sl0 _ _ _ _ _
 ·obtain⟨b,o,rfl,hb,hlen,hc⟩:=h hn;refine .sl _ _ _ _ _ _ _ (fun i j=>(w.cell? ⟨b,o+i*sz+j,none⟩).getD undef) hb hcap hlen (fun i j u hi hu=> ?_) fun i j u hi hu=> ?_;·obtain⟨y,h1,h2,h3⟩:=hc i j u hi hu;simp only [h1,Option.getD_some];exact⟨trivial,h2⟩
  ·obtain⟨y,h1,h2,h3⟩:=hc i j u hi hu;simp only [h1,Option.getD_some];exact h3
theorem jG{b o:Nat}:∀(us:List V),(∀(j:Nat) u,us[j]?=some u->∃y,w.cell? ⟨b,o+j,none⟩=some y/\y.oneCell'=true/\R w L ρ u y)-> ∃xs,RL w L ρ us xs/\∀(j:Nat) y,xs[j]?=some y->w.cell? ⟨b,o+j,none⟩=some y:=by
 intro us h;induction us generalizing o with
 |nil=>exact⟨[],.nil,fun j y hy=>by simp at hy⟩
 |cons u us ih=>
  obtain⟨y,h1,h2,h3⟩:=h 0 u rfl;obtain⟨xs,hl,hc⟩:=ih (o:=o+1) fun j v hv=>by have:=h (j+1) v (by simpa using hv);rwa [show o+1+j=o+(j+1) by omega]
  refine⟨y::xs,.cons h3 h2 hl,fun j z hz=> ?_⟩;cases j with
  |zero=>simp at hz;subst hz;exact h1
  |succ j=>have:=hc j z (by simpa using hz);rwa [show o+1+j=o+(j+1) by omega]at this
theorem RL.free{us:List V}{xs:List Value}(h:RL w L ρ us xs)(hi:V.bA us=true):RL w L ρ' us xs:= ⟨h.1,fun i u x hu hx=>⟨(h.2 i u x hu hx).1.free (V.dW hi hu) _,(h.2 i u x hu hx).2⟩⟩
theorem RV.free{us:List V}{xs:List Value}(h:RV w L ρ us xs)(hi:V.bA us=true):RV w L ρ' us xs:= ⟨h.1,fun i u x hu hx=>(h.2 i u x hu hx).free (V.dW hi hu) _⟩
end
theorem G.put{W LB L:Nat->Prop}{w w':World}{σ σ1:Nat->Option Ob}{ρ ρ':Nat->Option Value}{ch:Option Nat}(h:G W LB σ w L ρ)(hg:w.grownBy w' ch)
    (hch:∀k,ch=some k->W k/\¬L k) (tgt:Nat) (x:Value) (ob:Ob)
    (hsub:∀id o,id≠tgt->σ1 id=some o->σ id=some o/\∀y,ρ id=some y->∀k,ch=some k->blk y≠some k)
    (hρ:∀id,id≠tgt->ρ' id=ρ id) (hx:ρ' tgt=some x) (ht:ρ tgt=none\/ρ tgt=some x) (hblk:∀k,blk x=some k->ch=some k\/w.heap.size<=k)
    (hr:Ext w L ρ w' L ρ'->Real W w' L ρ' tgt ob):G W LB (bL σ1 tgt (some ob)) w' L ρ'/\Ext w L ρ w' L ρ':=by
  have e:Ext w L ρ w' L ρ':=by
    refine⟨fun b hb=>⟨hb,hg.block b (h.ll b hb).1 fun e=>(hch b e.symm).2 hb⟩,fun id v hv=> ?_⟩
    by_cases hid:id=tgt
    · subst hid
      rcases ht with h1 |h1
      · rw [h1]at hv;cases hv
      · rw [h1]at hv;injection hv with hv;subst hv;exact hx
    · rw [hρ id hid];exact hv
  have stand:∀id o,id≠tgt->σ1 id=some o->∀y k,ρ id=some y->blk y=some k->k< w.heap.size/\w'.heap[k]?=w.heap[k]?/\¬L k:=by
    intro id o hid ho y k hy hk
    obtain⟨h1,h2⟩:=hsub id o hid ho
    obtain⟨z,hz,hlt⟩:=(h.ob id o h1).lt
    rw [hy]at hz;injection hz with hz;subst hz
    obtain⟨l1,l2,l3⟩:=hlt k hk
    exact⟨l1,hg.block k l1 fun e=>h2 y hy k e.symm hk,l3⟩
  refine⟨⟨fun b hb=>⟨Nat.lt_of_lt_of_le (h.ll b hb).1 hg.size,(h.ll b hb).2⟩,fun b hb=>h.new b (Nat.le_trans hg.size hb),fun id o ho=> ?_,?_,h.tN e⟩,e⟩
  · by_cases hid:id=tgt
    · subst hid
      rw [ak]at ho;injection ho with ho;subst ho
      exact hr e
    · rw [ah _ _ hid]at ho
      refine(h.ob id o (hsub id o hid ho).1).keep e fun y k hy hk=> ?_
      exact(stand id o hid ho y k hy hk).2
  · intro i j y z k hij hi hj hy hz hk hkz
    have pair:∀(i:Nat) (y:Value),i≠tgt->bL σ1 tgt (some ob) i≠none->ρ' i=some y->∀k,blk y=some k->blk x≠some k:=by
      intro i y hne hi hy k hk hkx
      rw [ah _ _ hne]at hi
      rw [hρ i hne]at hy
      cases ho:σ1 i with
      |none=>exact hi ho
      |some o=>
        obtain⟨l1,l2,l3⟩:=stand i o hne ho y k hy hk
        rcases hblk k hkx with h1 |h1
        · exact(hsub i o hne ho).2 y hy k h1 hk
        · omega
    by_cases h1:i=tgt
    · subst h1
      rw [hx]at hy;injection hy with hy;subst hy
      exact pair j z (fun e=>hij e.symm) hj hz k hkz hk
    · by_cases h2:j=tgt
      · subst h2
        rw [hx]at hz;injection hz with hz;subst hz
        exact pair i y h1 hi hy k hk hkz
      · rw [ah _ _ h1]at hi
        rw [ah _ _ h2]at hj
        rw [hρ i h1]at hy
        rw [hρ j h2]at hz
        refine h.sep i j y z k hij ?_ ?_ hy hz hk hkz
        · cases ho:σ1 i with
          |none=>exact absurd ho hi
          |some o=>rw [(hsub i o h1 ho).1];simp
        · cases ho:σ1 j with
          |none=>exact absurd ho hj
          |some o=>rw [(hsub j o h2 ho).1];simp
theorem cB{W L:Nat->Prop}{w w':World}{ch:Option Nat}(hg:w.grownBy w' ch)(hch:∀k,ch=some k->W k/\¬L k):aZ W w w':= ⟨hg.os,hg.tape,hg.output,hg.size,fun k hk hW=>hg.block k hk fun e=>hW (hch k e.symm).1⟩
theorem G.G2{W LB L:Nat->Prop}{w:World}{σ:Nat->Option Ob}{ρ:Nat->Option Value}(h:G W LB σ w L ρ){id:Nat}(hn:ρ id=none)(t:TypeId){us:List V}{xs:Array Value}(hl:RL w L ρ us xs.toList) : G W LB (bL σ id (some (.box t us))) (w.alloc (.cells xs t)) L (bL ρ id (some (.pointer (some ⟨w.heap.size,0,none⟩))))/\Ext w L ρ (w.alloc (.cells xs t)) L (bL ρ id (some (.pointer (some ⟨w.heap.size,0,none⟩)))):=by refine h.put (World.grownBy_alloc w _ none) (by simp) id _ _ (fun i o hi ho=>⟨ho,by simp⟩) (fun i hi=>ah _ _ hi) (ak _ _ _) (.inl hn) (fun k hk=> .inr (by simp [blk]at hk;omega)) fun e=> ?_;exact⟨w.heap.size,xs,ak _ _ _,(h.new _ (Nat.le_refl _)).1,fun hL=>by have:=(h.ll _ hL).1;omega,heap_alloc_new w _,hl.ext e⟩
theorem cR{sz:Nat}:∀ {rows:List (List V)},(∀r∈rows,r.length=sz)->rows.flatten.length=rows.length*sz
 | [],_=>by simp
 |r::rows,h=>by rw [List.flatten_cons,List.length_append,h r (by simp),cR (rows:=rows) fun r hr=>h r (by simp [hr]),List.length_cons,Nat.add_mul];omega
theorem G.newRow{W LB L:Nat->Prop}{w:World}{σ:Nat->Option Ob}{ρ:Nat->Option Value}(h:G W LB σ w L ρ){id:Nat}(hn:ρ id=none)(e:TypeId)(sz n:Nat){row:Nat->List V}{xs:Array Value}(hsz:∀i,i< n->(row i).length=sz) (hl:RL w L ρ (aE n row).flatten xs.toList) (hm:n<=maxLen) : G W LB (bL σ id (some (.row e sz n row))) (w.alloc (.cells xs e)) L (bL ρ id (some (.slice (some ⟨w.heap.size,0,none⟩) n n)))/\Ext w L ρ (w.alloc (.cells xs e)) L (bL ρ id (some (.slice (some ⟨w.heap.size,0,none⟩) n n))):=by
 refine h.put (World.grownBy_alloc w _ none) (by simp) id _ _ (fun i o hi ho=>⟨ho,by simp⟩) (fun i hi=>ah _ _ hi) (ak _ _ _) (.inl hn) (fun k hk=> .inr (by simp [blk]at hk;omega)) fun ex=> ?_;have hxs:xs.size=n*sz:=by have h1:=hl.1;have h2:=cR (cq hsz);rw [b8]at h2;rw [<-h2,h1];simp
 refine⟨_,xs.toList,ak _ _ _,⟨by simpa using hxs,.inr ⟨w.heap.size,n,xs,rfl,Nat.zero_le _,heap_alloc_new w _,Nat.le_refl _,hm,hxs,?_⟩⟩,hsz,hl.ext ex,fun k hk=> ?_⟩;·rw [<-hxs];exact List.take_of_length_le (by simp)
 ·simp [blk]at hk;subst hk;exact⟨(h.new _ (Nat.le_refl _)).1,fun hL=>by have:=(h.ll _ hL).1;omega⟩
end Go.Ab

namespace Go.Ab
open Go.RowKit Go.Dw
section
variable {P:Program}{d:Option Tmp}{ty:TypeId}{pos:String}{af:Array Edge}{gd:Option (Nat×Bool)}{ev:Operand->V}{W LB:Nat->Prop}
theorem Ep{s f off:Nat}(h:y8 P s f=some off):∃fs fd i,P.underlying s=some (.struct fs)/\fs[f]?=some fd/\P.info? fd.type=some i/\i.size≠0/\fd.offset=off:=by
 unfold y8 at h;split at h
 ·rename_i fs hfs;split at h
  ·rename_i fd hfd;split at h
   ·rename_i i hi;split at h;·cases h
    ·injection h with h;exact⟨fs,fd,i,hfs,hfd,hi,by assumption,h⟩
   ·cases h
  ·cases h
 ·cases h
theorem lu{s f off:Nat}(h:y8 P s f=some off)(b o:Nat)(w:World):(Instr.fieldAt s (.pointer (some ⟨b,o,none⟩)) f).run P w= .ok (.pointer (some ⟨b,o+off,none⟩)) w:=by obtain⟨fs,fd,i,h1,h2,h3,h4,rfl⟩:=Ep h;simp [Instr.fieldAt,aA h1,h2,Instr.sureAddr,fieldPlace,sizeOf,typeInfo,h3,h4,Addr.add_lit]
theorem CN(s f:Nat)(x:Operand){cs:List V}{off:Nat}(hf:y8 P s f=some off)(hx:ev x= .ptr cs):aD P ⟨d,.fieldAddr s x f,ty,pos,af,gd⟩ ev (.ptr (cs.drop off)):= aD.same rfl fun w L ρ g hr=>by have h1:=hr x (by simp [Op.operands]);rw [hx]at h1;obtain⟨b,o,e,hb,hc⟩:=h1.gU;refine⟨.pointer (some ⟨b,o+off,none⟩),by simp [execOp,e,lu hf],.ptr' hb fun j u hu=> ?_⟩;have:=hc (off+j) u (by simpa using hu);rwa [show o+off+j=o+(off+j) by omega]
theorem CO(s f:Nat)(x:Operand){id o off:Nat}(hf:y8 P s f=some off)(hx:ev x= .ref id o):aD P ⟨d,.fieldAddr s x f,ty,pos,af,gd⟩ ev (.ref id (o+off)):= aD.same rfl fun w L ρ g hr=>by
 have h1:=hr x (by simp [Op.operands]);rw [hx]at h1;generalize g x=gx at h1;have e:∃b,gx= .pointer (some ⟨b,o,none⟩)/\ρ id=some (.pointer (some ⟨b,0,none⟩)):=by cases h1 with |ref _ _ _ b h=>exact⟨b,rfl,h⟩
 obtain⟨b,rfl,hρ⟩:=e;have e2:g x= .pointer (some ⟨b,o,none⟩):=by have h2:=hr x (by simp [Op.operands]);rw [hx]at h2;generalize g x=gx at h2;cases h2 with |ref _ _ _ b' h=>rw [hρ]at h;injection h with h;injection h with h;injection h with h;injection h with h;subst h;rfl
 exact⟨.pointer (some ⟨b,o+off,none⟩),by simp [execOp,e2,lu hf],.ref _ _ _ _ hρ⟩
theorem R.iS{w:World}{L:Nat->Prop}{ρ:Nat->Option Value}{id o:Nat}{x:Value}(h:R w L ρ (.ref id o) x):∃b,x= .pointer (some ⟨b,o,none⟩)/\ρ id=some (.pointer (some ⟨b,0,none⟩)):=by cases h with |ref _ _ _ b h=>exact⟨b,rfl,h⟩
theorem R.cX{w:World}{L:Nat->Prop}{ρ:Nat->Option Value}{id:Nat}{x:Value}(h:R w L ρ (.own id) x):ρ id=some x:=by cases h with |own _ _ _ h=>exact h
theorem R.qI{w:World}{L:Nat->Prop}{ρ:Nat->Option Value}{id sz i o:Nat}{x:Value}(h:R w L ρ (.oel id sz i o) x):∃b n c,x= .pointer (some ⟨b,i*sz+o,none⟩)/\ρ id=some (.slice (some ⟨b,0,none⟩) n c):=by cases h with |oel _ _ _ _ _ b n c h=>exact⟨b,n,c,rfl,h⟩
theorem R.JK{w:World}{L:Nat->Prop}{ρ:Nat->Option Value}{id sz o n:Nat}{x:Value}(h:R w L ρ (.osl id sz o n) x):∃b m c c2 A,x= .slice A n c2/\n<=c2/\ρ id=some (.slice (some ⟨b,0,none⟩) m c)/\(0< n->A=some ⟨b,o*sz,none⟩):=by cases h with |osl _ _ _ _ _ b m c c2 A h hn hA=>exact⟨b,m,c,c2,A,rfl,hn,h,hA⟩
theorem CM(s f:Nat)(x:Operand){id sz i o off:Nat}(hf:y8 P s f=some off)(hx:ev x= .oel id sz i o):aD P ⟨d,.fieldAddr s x f,ty,pos,af,gd⟩ ev (.oel id sz i (o+off)):= aD.same rfl fun w L ρ g hr=>by have h1:=hr x (by simp [Op.operands]);rw [hx]at h1;obtain⟨b,n,c,e,hρ⟩:=h1.qI;refine⟨.pointer (some ⟨b,i*sz+(o+off),none⟩),by simp [execOp,e,lu hf,Nat.add_assoc],.oel _ _ _ _ _ _ n c hρ⟩
theorem bM{t e:Nat}(h:dw P t=some e):P.underlying t=some (.slice e):=by
 unfold dw at h;split at h;·injection h with h;subst h;assumption
 ·cases h
theorem ic{t n e:Nat}(h:wG P t=some (n,e)):P.underlying t=some (.array n e):=by
 unfold wG at h;split at h;·injection h with h;injection h with h1 h2;subst h1 h2;assumption
 ·cases h
theorem bO{e sz:Nat}(h:cc P e=some sz)(w:World):(sizeOf e).run P w= .ok sz w:=by
 unfold cc at h;cases hi:P.info? e with
 |none=>rw [hi]at h;cases h
 |some i=>rw [hi]at h;injection h with h;simp [sizeOf,typeInfo,hi,h]
theorem CQ(t:Nat)(x ix:Operand){sz n e:Nat}{row:Nat->List V}{k:IntKind}{i:Int}(he:dw P t=some e)(hs:cc P e=some sz)(hx:ev x= .sl sz n row)(hi:ev ix= .c (.int k i)) (hc:0<=i/\i< n):aD P ⟨d,.indexAddr t x ix,ty,pos,af,gd⟩ ev (.ptr (row i.toNat)):= aD.same rfl fun w L ρ g hr=>by have h1:=hr x (by simp [Op.operands]);have h2:=hr ix (by simp [Op.operands]);rw [hx]at h1;rw [hi]at h2;have e2:=h2.aN;obtain⟨A,c,e1,hA⟩:=h1.jg;obtain⟨b,o,rfl,hb,hlen,hcell⟩:=hA oM;refine⟨.pointer (some ⟨b,o+i.toNat*sz,none⟩),?_,.ptr' hb fun j u hu=>hcell i.toNat j u oM hu⟩;simp [execOp,e1,e2,Instr.indexAt,asIntOf,aA (bM he),hc.1,hc.2,bO hs,Addr.add_lit]
theorem CP(t:Nat)(x ix:Operand){sz n e:Nat}{cs:List V}{k:IntKind}{i:Int}(he:wG P t=some (n,e))(hs:cc P e=some sz)(hx:ev x= .ptr cs)(hi:ev ix= .c (.int k i)) (hc:0<=i/\i< n):aD P ⟨d,.indexAddr t x ix,ty,pos,af,gd⟩ ev (.ptr (cs.drop (i.toNat*sz))):= aD.same rfl fun w L ρ g hr=>by
 have h1:=hr x (by simp [Op.operands]);have h2:=hr ix (by simp [Op.operands]);rw [hx]at h1;rw [hi]at h2;have e2:=h2.aN;obtain⟨b,o,e1,hb,hcell⟩:=h1.gU;refine⟨.pointer (some ⟨b,o+i.toNat*sz,none⟩),?_,.ptr' hb fun j u hu=> ?_⟩;·simp [execOp,e1,e2,Instr.indexAt,Instr.sureAddr,asIntOf,aA (ic he),hc.1,hc.2,bO hs,Addr.add_lit]
 ·have:=hcell (i.toNat*sz+j) u (by simpa using hu);rwa [show o+i.toNat*sz+j=o+(i.toNat*sz+j) by omega]
theorem zN(t:Nat)(x ix:Operand){sz n e id o:Nat}{k:IntKind}{i:Int}(he:wG P t=some (n,e))(hs:cc P e=some sz)(hx:ev x= .ref id o)(hi:ev ix= .c (.int k i)) (hc:0<=i/\i< n):aD P ⟨d,.indexAddr t x ix,ty,pos,af,gd⟩ ev (.ref id (o+i.toNat*sz)):= aD.same rfl fun w L ρ g hr=>by have h1:=hr x (by simp [Op.operands]);have h2:=hr ix (by simp [Op.operands]);rw [hx]at h1;rw [hi]at h2;have e2:=h2.aN;obtain⟨b,e1,hρ⟩:=h1.iS;refine⟨.pointer (some ⟨b,o+i.toNat*sz,none⟩),?_,.ref _ _ _ _ hρ⟩;simp [execOp,e1,e2,Instr.indexAt,Instr.sureAddr,asIntOf,aA (ic he),hc.1,hc.2,bO hs,Addr.add_lit]
theorem C1(t:Nat)(x ix:Operand){sz e e' id n:Nat}{row:Nat->List V}{k:IntKind}{i:Int}(he:dw P t=some e)(hs:cc P e=some sz)(hx:ev x= .own id)(hi:ev ix= .c (.int k i)) (hc:0<=i/\i< n):aU P W LB ⟨d,.indexAddr t x ix,ty,pos,af,gd⟩ ev (.oel id sz i.toNat 0) [(id,.row e' sz n row)] [] []:=by
 intro σ w L ρ g hG hr hpre _;have h1:=hr x (by simp [Op.operands]);have h2:=hr ix (by simp [Op.operands]);rw [hx]at h1;rw [hi]at h2;have e2:=h2.aN;have hρ:=h1.cX;obtain⟨v,xs,hv,hown,_⟩:=hG.ob id _ (hpre _ (List.Mem.head _));rw [hρ]at hv;injection hv with hv
 rcases hown.2 with⟨_,h0⟩ | ⟨g',cap,cur,hv2,_⟩;·omega
 rw [hv2]at hv;have e1:g x= .slice (some ⟨g',0,none⟩) n cap:=hv;refine bk.value rfl (v:= .pointer (some ⟨g',i.toNat*sz,none⟩)) (w':=w) ?_ ⟨L,ρ,hG,?_,aZ.refl _ _,Ext.refl _ _ _,fun _ _=>rfl,dM.refl _ _⟩;·simp [execOp,e1,e2,Instr.indexAt,asIntOf,aA (bM he),hc.1,hc.2,bO hs,Addr.add_lit]
 ·exact .oel _ _ _ _ _ _ n cap (by rw [hρ,e1])
theorem lW{t:Nat}{b:Bool}(h:lB P t=some b)(w:World):(isAgg t).run P w= .ok b w:=by
 unfold lB at h;cases hu:P.underlying t with
 |none=>rw [hu]at h;cases h
 |some u=>rw [hu]at h;injection h with h;subst h;cases u <;> simp [isAgg,aA hu]
theorem gV{t:Nat}(h:lB P t=some false){b o:Nat}{w:World}{y:Value}(hc:w.cell? ⟨b,o,none⟩=some y):(loadVar t ⟨b,o,none⟩).run P w= .ok y w:=by simp [loadVar,lW h,hc]
theorem gW{t n:Nat}(h:lB P t=some true)(hs:cc P t=some n){b o:Nat}{w:World}{xs:List Value}(hl:xs.length=n)(hc:∀(j:Nat) y,xs[j]?=some y->w.cell? ⟨b,o+j,none⟩=some y) : (loadVar t ⟨b,o,none⟩).run P w= .ok (.agg xs.toArray) w:=by
 have hl':=run_loadCells_list (P:=P) w ⟨b,o,none⟩ xs fun j y hy=>by rw [Addr.add_lit];exact hc j y hy
 rw [hl]at hl';simp [loadVar,lW h,bO hs,hl']
theorem E2(t:Nat)(x:Operand){cs:List V}{v:V}(h:lB P t=some false)(hx:ev x= .ptr cs)(hv:cs[0]?=some v):aD P ⟨d,.load t x,ty,pos,af,gd⟩ ev v:= aD.same rfl fun w L ρ g hr=>by have h1:=hr x (by simp [Op.operands]);rw [hx]at h1;obtain⟨b,o,e1,hb,hcell⟩:=h1.gU;obtain⟨y,hy,_,hr0⟩:=hcell 0 v hv;rw [Nat.add_zero]at hy;refine⟨y,?_,hr0.Mv⟩;simp [execOp,e1,Instr.loadAt,Instr.sureAddr,gV h hy]
theorem E3(t:Nat)(x:Operand){cs:List V}{n:Nat}(h:lB P t=some true)(hs:cc P t=some n)(hx:ev x= .ptr cs)(hn:n<=cs.length):aD P ⟨d,.load t x,ty,pos,af,gd⟩ ev (.agg (cs.take n)):= aD.same rfl fun w L ρ g hr=>by
 have h1:=hr x (by simp [Op.operands]);rw [hx]at h1;obtain⟨b,o,e1,hb,hcell⟩:=h1.gU;obtain⟨xs,hl,hc⟩:=jG (ρ:=ρ0) (cs.take n) fun j u hu=>hcell j u (by
  rw [List.getElem?_take]at hu;split at hu;·exact hu
  ·cases hu)
 refine⟨.agg xs.toArray,?_,.lZ (hl.mono (fun _ h=>⟨h,rfl⟩) fun _ _ h=>by cases h)⟩;simp [execOp,e1,Instr.loadAt,Instr.sureAddr,gW h hs (by rw [<-hl.1];simp;omega) hc]
theorem vw{σ:Nat->Option Ob}{w:World}{L:Nat->Prop}{ρ:Nat->Option Value}{id o:Nat}{t:TypeId}{cs:List V}{x:Value}(hG:G W LB σ w L ρ)(h1:R w L ρ (.ref id o) x)(hσ:σ id=some (.box t cs)) : ∃b xs,x= .pointer (some ⟨b,o,none⟩)/\ρ id=some (.pointer (some ⟨b,0,none⟩))/\W b/\¬L b/\w.heap[b]?=some (.cells xs t (0,0))/\RL w L ρ cs xs.toList:=by
 obtain⟨b,e1,hρ⟩:=h1.iS;obtain⟨b',xs,hv,r⟩:=hG.ob id _ hσ;rw [hρ]at hv;injection hv with hv;injection hv with hv;injection hv with hv;injection hv with hv
 subst hv;exact⟨b,xs,e1,hρ,r⟩
theorem C6(t:Nat)(x:Operand){id o t':Nat}{cs:List V}{v:V}(h:lB P t=some false)(hx:ev x= .ref id o)(hv:cs[o]?=some v) : aU P W LB ⟨d,.load t x,ty,pos,af,gd⟩ ev v [(id,.box t' cs)] [] []:=by
 intro σ w L ρ g hG hr hpre _;have h1:=hr x (by simp [Op.operands]);rw [hx]at h1;obtain⟨b,xs,e1,hρ,hW,hL,hh,hl⟩:=vw hG h1 (hpre _ (List.Mem.head _));obtain⟨y,hy,hry,_⟩:=hl.get hv;have hcell:w.cell? ⟨b,o,none⟩=some y:=by rw [cell_of_row w b o xs t' (0,0) hh];simpa using hy
 refine bk.value rfl (v:=y) (w':=w) ?_ ⟨L,ρ,hG,hry,aZ.refl _ _,Ext.refl _ _ _,fun _ _=>rfl,dM.refl _ _⟩;simp [execOp,e1,Instr.loadAt,Instr.sureAddr,gV h hcell]
theorem C7(t:Nat)(x:Operand){id o t' n:Nat}{cs:List V}(h:lB P t=some true)(hs:cc P t=some n)(hx:ev x= .ref id o)(hn:o+n<=cs.length) : aU P W LB ⟨d,.load t x,ty,pos,af,gd⟩ ev (.agg ((cs.drop o).take n)) [(id,.box t' cs)] [] []:=by
 intro σ w L ρ g hG hr hpre _;have h1:=hr x (by simp [Op.operands]);rw [hx]at h1;obtain⟨b,xs,e1,hρ,hW,hL,hh,hl⟩:=vw hG h1 (hpre _ (List.Mem.head _));refine bk.value rfl (v:= .agg ((xs.toList.drop o).take n).toArray) (w':=w) ?_ ⟨L,ρ,hG,.lZ (hl.sub o n),aZ.refl _ _,Ext.refl _ _ _,fun _ _=>rfl,dM.refl _ _⟩;have:=gW (P:=P) h hs (b:=b) (o:=o) (w:=w) (xs:=(xs.toList.drop o).take n) (by have:=hl.1;simp at this ⊢;omega) fun j y hy=>by
  rw [cell_of_row w b (o+j) xs t' (0,0) hh];rw [List.getElem?_take]at hy;split at hy;·simpa using hy
  ·cases hy
 simp [execOp,e1,Instr.loadAt,Instr.sureAddr,this]
theorem flat_get{sz:Nat}:∀ {rows:List (List V)}(_:∀r∈rows,r.length=sz){i j:Nat}{r:List V}(_:rows[i]?=some r) (_:j< sz),rows.flatten[i*sz+j]?=r[j]?
 |r::rows,h,0,j,r',hr,hj=>by simp at hr;subst hr;rw [Nat.zero_mul,Nat.zero_add,List.flatten_cons,List.getElem?_append_left (by rw [h r (by simp)];exact hj)]
 |r::rows,h,i+1,j,r',hr,hj=>by rw [List.flatten_cons,List.getElem?_append_right (by rw [h r (by simp),Nat.add_mul];omega),h r (by simp),show(i+1)*sz+j- sz=i*sz+j by rw [Nat.add_mul];omega];exact flat_get (fun r hr=>h r (by simp [hr])) (by simpa using hr) hj
theorem wv{σ:Nat->Option Ob}{w:World}{L:Nat->Prop}{ρ:Nat->Option Value}{id:Nat}{e sz m:Nat}{row:Nat->List V}{b n c:Nat}(hG:G W LB σ w L ρ)(hρ:ρ id=some (.slice (some ⟨b,0,none⟩) n c))(hσ:σ id=some (.row e sz m row)) : ∃xs cur,n=m/\W b/\¬L b/\w.heap[b]?=some (.cells cur e (0,0))/\n<=c/\c<=maxLen/\cur.size=c*sz/\cur.toList.take (n*sz)=xs/\(∀i,i< m->(row i).length=sz)/\RL w L ρ (aE m row).flatten xs:=by
 obtain⟨v,xs,hv,hown,hsz,hl,hb⟩:=hG.ob id _ hσ;rw [hρ]at hv;injection hv with hv;subst hv
 rcases hown.2 with⟨hn,_⟩ | ⟨g',cap,cur,hv2,_,h1,h2,h3,h4,h5⟩;·cases hn
 injection hv2 with a1 a2 a3;injection a1 with a1;injection a1 with a1;subst a1 a2 a3;exact⟨xs,cur,rfl,(hb _ rfl).1,(hb _ rfl).2,h1,h2,h3,h4,h5,hsz,hl⟩
theorem C4(t:Nat)(x:Operand){id sz i o e n:Nat}{row:Nat->List V}{v:V}(h:lB P t=some false)(hx:ev x= .oel id sz i o)(hi:i< n)(hv:(row i)[o]?=some v) : aU P W LB ⟨d,.load t x,ty,pos,af,gd⟩ ev v [(id,.row e sz n row)] [] []:=by
 intro σ w L ρ g hG hr hpre _;have h1:=hr x (by simp [Op.operands]);rw [hx]at h1;obtain⟨b,m,c,e1,hρ⟩:=h1.qI;obtain⟨xs,cur,rfl,hW,hL,hh,hnc,_,hcs,htk,hsz,hl⟩:=wv hG hρ (hpre _ (List.Mem.head _));have ho:o< sz:=by rw [<-hsz i hi];exact(List.getElem?_eq_some_iff.1 hv).1
 have hv':(aE m row).flatten[i*sz+o]?=some v:=by rw [flat_get (cq hsz) (bK hi) ho,hv]
 obtain⟨y,hy,hry,_⟩:=hl.get hv';have hcell:w.cell? ⟨b,i*sz+o,none⟩=some y:=by
  rw [cell_of_row w b _ cur e (0,0) hh];rw [<-htk,List.getElem?_take]at hy;split at hy;·simpa using hy
  ·cases hy
 refine bk.value rfl (v:=y) (w':=w) ?_ ⟨L,ρ,hG,hry,aZ.refl _ _,Ext.refl _ _ _,fun _ _=>rfl,dM.refl _ _⟩;simp [execOp,e1,Instr.loadAt,Instr.sureAddr,gV h hcell]
theorem C5(t:Nat)(x:Operand){id sz i o e n N:Nat}{row:Nat->List V}(h:lB P t=some true)(hs:cc P t=some n)(hx:ev x= .oel id sz i o)(hi:i< N)(ho:o+n<=(row i).length) : aU P W LB ⟨d,.load t x,ty,pos,af,gd⟩ ev (.agg (((row i).drop o).take n)) [(id,.row e sz N row)] [] []:=by
 intro σ w L ρ g hG hr hpre _;have h1:=hr x (by simp [Op.operands]);rw [hx]at h1;obtain⟨b,m,c,e1,hρ⟩:=h1.qI;obtain⟨xs,cur,rfl,hW,hL,hh,hnc,_,hcs,htk,hsz,hl⟩:=wv hG hρ (hpre _ (List.Mem.head _));have hrl:=hsz i hi;obtain⟨ys,hyl,hyc⟩:=jG (w:=w) (L:=L) (ρ:=ρ) (b:=b) (o:=i*sz+o) (((row i).drop o).take n) fun j u hu=>by
  rw [List.getElem?_take]at hu;split at hu
  ·rename_i hj;rw [List.getElem?_drop]at hu;have hv':(aE m row).flatten[i*sz+(o+j)]?=some u:=by rw [flat_get (cq hsz) (bK hi) oM,hu]
   obtain⟨y,hy,hry,h1y⟩:=hl.get hv';refine⟨y,?_,h1y,hry⟩;rw [cell_of_row w b _ cur e (0,0) hh,Nat.add_assoc];rw [<-htk,List.getElem?_take]at hy;split at hy;·simpa using hy
   ·cases hy
  ·cases hu
 refine bk.value rfl (v:= .agg ys.toArray) (w':=w) ?_ ⟨L,ρ,hG,.lZ (by simpa using hyl),aZ.refl _ _,Ext.refl _ _ _,fun _ _=>rfl,dM.refl _ _⟩;simp [execOp,e1,Instr.loadAt,Instr.sureAddr,gW h hs (by rw [<-hyl.1];simp;omega) hyc]
end
theorem cz(w:World)(g:Nat)(cs:Array Value):w.grownBy (w.setRow g cs) (some g):= ⟨rfl,rfl,rfl,by simp,fun k _ hk=>setRow_other w g k _ (fun e=>hk (by simp [e]))⟩
theorem m0(w:World)(L:Nat->Prop)(ρ:Nat->Option Value)(xs:List Value)(h:xs.all (·.oneCell')=true):RL w L ρ (xs.map A9) xs:=by refine⟨by simp,fun i u x hu hx=> ?_⟩;rw [List.getElem?_map,hx]at hu;simp at hu;subst hu;exact⟨R.A9 _ _ _ _,by rw [List.all_eq_true]at h;exact h x (List.mem_of_getElem? hx)⟩
def splice(cs:List V)(o:Nat)(us:List V):List V:=cs.take o++us++cs.drop (o+us.length)
theorem A5{cs us:List V}{o:Nat}(h:o+us.length<=cs.length):(splice cs o us).length=cs.length:=by simp [splice];omega
theorem A6(cs:List V)(o:Nat)(u:V)(h:o< cs.length):splice cs o [u]=cs.set o u:=by simp [splice,List.set_eq_take_append_cons_drop,h]
theorem RL.splice{w:World}{L:Nat->Prop}{ρ:Nat->Option Value}{cs us:List V}{xs ys:List Value}(h:RL w L ρ cs xs)(k:RL w L ρ us ys)(o:Nat):RL w L ρ (splice cs o us) (xs.take o++ys++xs.drop (o+ys.length)):=by have h1:=h.sub 0 o;have h2:=h.sub (o+us.length) (cs.length);rw [k.1]at h2;simp only [List.drop_zero]at h1;have e1:((cs.drop (o+ys.length)).take cs.length)=cs.drop (o+ys.length):=List.take_of_length_le (by simp);have e2:((xs.drop (o+ys.length)).take cs.length)=xs.drop (o+ys.length):=List.take_of_length_le (by simp [h.1]);rw [e1,e2]at h2;rw [Ab.splice,k.1];exact(h1.append k).append h2
theorem qe{sz:Nat}:∀ {rows:List (List V)}(_:∀r∈rows,r.length=sz){i o:Nat}{r us:List V}(_:rows[i]?=some r) (_:o+us.length<=sz),splice rows.flatten (i*sz+o) us=(rows.set i (splice r o us)).flatten
 |r::rows,h,0,o,r',us,hr,hj=>by simp at hr;subst hr;have hl:=h r (by simp);simp only [splice,Nat.zero_mul,Nat.zero_add,List.flatten_cons,List.set_cons_zero,List.append_assoc];rw [List.take_append_of_le_length oM,List.drop_append_of_le_length oM]
 |r::rows,h,i+1,o,r',us,hr,hj=>by have hl:=h r (by simp);have ih:=qe (rows:=rows) (fun r hr=>h r (by simp [hr])) (i:=i) (o:=o) (us:=us) (by simpa using hr) hj;simp only [splice]at ih ⊢;simp only [List.flatten_cons,List.set_cons_succ];rw [<-ih,List.take_append,List.drop_append,hl];rw [List.take_of_length_le (by rw [hl,Nat.add_mul];omega),List.drop_eq_nil_of_le (by rw [hl,Nat.add_mul];omega)];rw [show(i+1)*sz+o- sz=i*sz+o by rw [Nat.add_mul];omega,show(i+1)*sz+o+us.length- sz=i*sz+o+us.length by rw [Nat.add_mul];omega];simp
theorem A4{n i:Nat}{row:Nat->List V}(r:List V)(hi:i< n):aE n (fun j=>if j=i then r else row j)=(aE n row).set i r:=by
 apply List.ext_getElem?;intro j;rw [List.getElem?_set];by_cases hj:j< n
 ·rw [bK hj,bK hj,b8];by_cases hij:i=j;·subst hij;simp [hi]
  ·simp [hij,Ne.symm hij]
 ·rw [List.getElem?_eq_none (by rw [b8];omega),List.getElem?_eq_none (by rw [b8];omega)];split;·simp;omega
  ·rfl
section
variable {P:Program}{d:Option Tmp}{ty:TypeId}{pos:String}{af:Array Edge}{gd:Option (Nat×Bool)}{ev:Operand->V}{W LB:Nat->Prop}
theorem mq{t:Nat}{b o:Nat}{w:World}{x:Value}{cur:Array Value}{e:TypeId}(hs:cc P t=some x.cells.size)(hh:w.heap[b]?=some (.cells cur e (0,0)))(hfit:o+x.cells.size<=cur.size)(h1:∀v∈x.cells.toList,v.oneCell'=true) : (storeVar t ⟨b,o,none⟩ x).run P w= .ok () (w.setRow b (cur.toList.take o++x.cells.toList++cur.toList.drop (o+x.cells.size)).toArray):=by have:=run_storeCells_at P b o e x.cells.toList 0 cur w hh (by simpa using hfit) h1;simp only [Nat.add_zero,Array.length_toList]at this;simp only [storeVar];simp [bO hs,this]
theorem ou(t:Nat)(x y:Operand){id o t':Nat}{cs us:List V}{vy:V}(hx:ev x= .ref id o)(hy:ev y=vy)(hc:bY vy=some us)(hs:cc P t=some us.length)(hn:o+us.length<=cs.length) : aU P W LB ⟨d,.store t x y,ty,pos,af,gd⟩ ev .any [(id,.box t' cs)] [] [(id,some (.box t' (splice cs o us)))]:=by
 intro σ w L ρ g hG hr hpre _;have h1:=hr x (by simp [Op.operands]);have h2:=hr y (by simp [Op.operands]);rw [hx]at h1;rw [hy]at h2;have hσ:=hpre _ (List.Mem.head _);obtain⟨b,xs,e1,hρ,hW,hL,hh,hl⟩:=vw hG h1 hσ;have hu:=ji h2 hc;have hul:(g y).cells.size=us.length:=by have:=hu.1;simpa using this.symm
 have hxl:xs.size=cs.length:=by have:=hl.1;simpa using this.symm
 have hst:=mq (P:=P) (t:=t) (b:=b) (o:=o) (w:=w) (x:=g y) (cur:=xs) (e:=t') (by rw [hul];exact hs) hh (by rw [hul,hxl];exact hn) hu.one;obtain⟨hG',e⟩:=hG.put (σ1:=σ) (ρ':=ρ) (cz w b (xs.toList.take o++(g y).cells.toList++xs.toList.drop (o+(g y).cells.size)).toArray) (by rintro k hk;injection hk with hk;subst hk;exact⟨hW,hL⟩) id _ (.box t' (splice cs o us))
  (fun i ob hi ho=>⟨ho,fun z hz k hk hkz=>by injection hk with hk;subst hk;exact hG.sep i id z _ b hi (by rw [ho];simp) (by rw [hσ];simp) hz hρ hkz rfl⟩) (fun _ _=>rfl) hρ (.inr hρ) (fun k hk=> .inl (by simpa [blk]using hk)) (fun ex=>⟨b,_,hρ,hW,hL,setRow_heap w b xs _ t' (0,0) hh,by have:=(hl.ext ex).splice (hu.ext ex) o;simpa using this⟩)
 refine bk.skip rfl (w':=w.setRow b (xs.toList.take o++(g y).cells.toList++xs.toList.drop (o+(g y).cells.size)).toArray) ?_ ⟨L,ρ,hG',.any _ _,cB (cz w b _) (by rintro k hk;injection hk with hk;subst hk;exact⟨hW,hL⟩),e,fun _ _=>rfl,dM.grown (cz w b _) (by rintro k hk;injection hk with hk;subst hk;exact⟨_,_,_,hh⟩)⟩;simp only [execOp,Instr.storeAt];simp [e1,Instr.sureAddr,hst]
theorem C9(t:Nat)(x y:Operand){id sz i o e n:Nat}{row:Nat->List V}{us:List V}{vy:V}(hx:ev x= .oel id sz i o)(hy:ev y=vy)(hc:bY vy=some us)(hs:cc P t=some us.length)(hi:i< n)(hn0:o+us.length<=(row i).length) : aU P W LB ⟨d,.store t x y,ty,pos,af,gd⟩ ev .any [(id,.row e sz n row)] [] [(id,some (.row e sz n fun j=>if j=i then splice (row i) o us else row j))]:=by
 intro σ w L ρ g hG hr hpre _;have h1:=hr x (by simp [Op.operands]);have h2:=hr y (by simp [Op.operands]);rw [hx]at h1;rw [hy]at h2;have hσ:=hpre _ (List.Mem.head _);obtain⟨b,m,c,e1,hρ⟩:=h1.qI;obtain⟨xs,cur,rfl,hW,hL,hh,hnc,hcm,hcs,htk,hsz,hl⟩:=wv hG hρ hσ;have hu:=ji h2 hc;have hul:(g y).cells.size=us.length:=by have:=hu.1;simpa using this.symm
 have hrl:=hsz i hi;have hn:o+us.length<=sz:=by rw [<-hrl];exact hn0
 have hfit:i*sz+o+us.length<=m*sz:=by
  have:i*sz+sz<=m*sz:=by rw [<-Nat.succ_mul];exact Nat.mul_le_mul_right _ hi
  omega
 have hcap:m*sz<=c*sz:=Nat.mul_le_mul_right _ hnc;have hst:=mq (P:=P) (t:=t) (b:=b) (o:=i*sz+o) (w:=w) (x:=g y) (cur:=cur) (e:=e) (by rw [hul];exact hs) hh (by rw [hul,hcs];omega) hu.one;generalize hnew:(cur.toList.take (i*sz+o)++(g y).cells.toList++cur.toList.drop (i*sz+o+(g y).cells.size)).toArray=new at hst;have hnl:new.size=cur.size:=by rw [<-hnew];simp;omega
 obtain⟨hG',ex⟩:=hG.put (σ1:=σ) (ρ':=ρ) (cz w b new) (by rintro k hk;injection hk with hk;subst hk;exact⟨hW,hL⟩) id _ (.row e sz m fun j=>if j=i then splice (row i) o us else row j)
  (fun j ob hj ho=>⟨ho,fun z hz k hk hkz=>by
   injection hk with hk;subst hk;exact hG.sep j id z _ b hj (by rw [ho];simp) (by rw [hσ];simp) hz hρ hkz rfl⟩) (fun _ _=>rfl) hρ (.inr hρ) (fun k hk=> .inl (by simpa [blk]using hk)) (fun ex=>by
    refine⟨_,xs.take (i*sz+o)++(g y).cells.toList++xs.drop (i*sz+o+(g y).cells.toList.length),hρ,?_,?_,?_,fun k hk=>by simp [blk]at hk;subst hk;exact⟨hW,hL⟩⟩
    ·have hxl:xs.length=m*sz:=by rw [<-htk];simp;omega
     refine⟨by simp;omega,.inr ⟨b,c,new,by simp,Nat.zero_le _,setRow_heap w b cur _ e (0,0) hh,by simpa using hnc,hcm,by rw [hnl];exact hcs,?_⟩⟩;rw [<-hnew,<-htk];simp only [List.append_assoc,Array.length_toList];rw [List.take_append,List.take_append,List.take_take,List.take_take,List.drop_take];congr 1
     ·congr 1;omega
     ·congr 1
      ·exact List.take_of_length_le (by simp;omega)
      ·congr 1;simp;omega
    ·intro j hj;by_cases hji:j=i;·simp only [hji,if_true];rw [A5 oM];exact hrl
     ·simp only [hji,if_false];exact hsz j hj
    ·rw [A4 _ hi,<-qe (cq hsz) (bK hi) hn];have:=(hl.ext ex).splice (hu.ext ex) (i*sz+o);simpa using this)
 refine bk.skip rfl (w':=w.setRow b new) ?_ ⟨L,ρ,hG',.any _ _,cB (cz w b _) (by rintro k hk;injection hk with hk;subst hk;exact⟨hW,hL⟩),ex,fun _ _=>rfl,dM.grown (cz w b _) (by rintro k hk;injection hk with hk;subst hk;exact⟨_,_,_,hh⟩)⟩;simp only [execOp,Instr.storeAt];simp [e1,Instr.sureAddr,hst]
theorem eZ{t:Nat}{zs:List V}(h:gN P t=some zs):∃i z,P.info? t=some i/\i.zero=some z/\z.cells.toList.all (·.oneCell')=true/\zs=z.cells.toList.map A9:=by
 unfold gN at h;split at h
 ·rename_i i hi;split at h
  ·rename_i z hz;split at h;·injection h with h;exact⟨i,z,hi,hz,by assumption,h.symm⟩
   ·cases h
  ·cases h
 ·cases h
theorem Fe(t:Nat){zs:List V}(hz:gN P t=some zs)(id:Nat):aU P W LB ⟨d,.alloc t,ty,pos,af,gd⟩ ev (.ref id 0) [] [id] [(id,some (.box t zs))]:=by intro σ w L ρ g hG hr hpre hn;obtain⟨i,z,hi,hz',h1,rfl⟩:=eZ hz;obtain⟨hG',e⟩:=hG.G2 (hn id (by simp)) t (m0 w L ρ z.cells.toList h1);refine bk.value rfl (v:= .pointer (some ⟨w.heap.size,0,none⟩)) (w':=w.alloc (.cells z.cells t)) ?_ ⟨L,_,hG',.ref _ _ _ _ (ak _ _ _),cB (L:=L) (World.grownBy_alloc w _ none) (by simp),e,fun i hi=>ah _ _ (by simpa using hi),dM.grown (World.grownBy_alloc w _ none) (by simp)⟩;simp only [execOp,Instr.alloc];simp [zeroValue,typeInfo,hi,hz',newVar,newRow]
theorem LC(t:Nat)(y:Operand){us:List V}{vy:V}(hy:ev y=vy)(hc:bY vy=some us)(id:Nat):aU P W LB ⟨d,.box t y,ty,pos,af,gd⟩ ev (.ref id 0) [] [id] [(id,some (.box t us))]:=by intro σ w L ρ g hG hr hpre hn;have h2:=hr y (by simp [Op.operands]);rw [hy]at h2;obtain⟨hG',e⟩:=hG.G2 (hn id (by simp)) t (ji h2 hc);refine bk.value rfl (v:= .pointer (some ⟨w.heap.size,0,none⟩)) (w':=w.alloc (.cells (g y).cells t)) ?_ ⟨L,_,hG',.ref _ _ _ _ (ak _ _ _),cB (L:=L) (World.grownBy_alloc w _ none) (by simp),e,fun i hi=>ah _ _ (by simpa using hi),dM.grown (World.grownBy_alloc w _ none) (by simp)⟩;simp [execOp,Instr.box,newVar,newRow]
theorem rO{w:World}{L:Nat->Prop}{ρ:Nat->Option Value}{us:List V}{xs:Array Value}(t:TypeId)(hlt:∀b,L b->b< w.heap.size)(hl:RL w L ρ us xs.toList)(hi:V.bA us=true) : ∀(j:Nat) u,us[j]?=some u->∃y,(w.alloc (.cells xs t)).cell? ⟨w.heap.size,0+j,none⟩=some y/\y.oneCell'=true/\R (w.alloc (.cells xs t)) (fun b=>L b\/b=w.heap.size) ρ0 u y:=by intro j u hu;obtain⟨y,hy,hr,h1⟩:=(hl.free (ρ':=ρ0) hi).get hu;refine⟨y,?_,h1,hr.mono (fun b hb=>⟨.inl hb,Below.heap_alloc w _ b (hlt b hb)⟩) fun _ _ h=>h⟩;rw [cell_of_row _ w.heap.size (0+j) xs t (0,0) (heap_alloc_new w _),Nat.zero_add];simpa using hy
theorem Lu(t:Nat)(y:Operand){us:List V}{vy:V}(hy:ev y=vy)(hc:bY vy=some us)(hi:V.bA us=true):aD P ⟨d,.box t y,ty,pos,af,gd⟩ ev (.ptr us):=by intro w L ρ g hr hlt;have h2:=hr y (by simp [Op.operands]);rw [hy]at h2;have hf:=rO t hlt (ji h2 hc) hi;refine bk.value rfl (v:= .pointer (some ⟨w.heap.size,0,none⟩)) (w':=w.alloc (.cells (g y).cells t)) ?_ ⟨bC _ _,fun b=>L b\/b=w.heap.size,fun _ h=> .inl h,fun b h=>h.imp id fun e=>by subst e;simp,.ptr' (.inr rfl) hf⟩;simp [execOp,Instr.box,newVar,newRow]
end
def iq(place:Nat->Option (Nat×Nat)):List V->List (Nat×V)->Option (List V)
 |cs,[]=>some cs
 |cs,(i,v)::rest=>
  match place i with
   |some (off,size)=>
    match bY v with
     |some us=>if us.length=size/\off+us.length<=cs.length then iq place (splice cs off us) rest else none
     |none=>none
   |none=>none
theorem foldl_set(ys:List Value):∀(cs:Array Value) (off k:Nat),off+k+ys.length<=cs.size-> ((ys.zipIdx k).foldl (fun(cs:Array Value) (p:Value×Nat)=>cs.setIfInBounds (off+p.2) p.1) cs).toList=cs.toList.take (off+k)++ys++cs.toList.drop (off+k+ys.length):=by
 induction ys with
 |nil=>intro cs off k _;simp
 |cons y ys ih=>
  intro cs off k h;simp only [List.length_cons]at h;rw [List.zipIdx_cons,List.foldl_cons,ih _ _ _ (by simp;omega)];simp only [Array.toList_setIfInBounds,List.length_cons,List.append_assoc,List.cons_append];rw [show off+(k+1)=off+k+1 by omega,List.take_set,List.drop_set];rw [if_pos oM];have hlt:off+k< cs.toList.length:=by simp;omega
  rw [show off+k+1+ys.length=off+k+(ys.length+1) by omega];rw [List.take_succ_eq_append_getElem hlt,List.set_append_right _ _ (by simp only [List.length_take];omega)];have hz:off+k- min (off+k) cs.size=0:=by omega
  simp [hz]
theorem qA{w:World}{L:Nat->Prop}{ρ:Nat->Option Value}{place:Nat->Option (Nat×Nat)}:∀(ps:List (Nat×V)) (qs:List (Nat×Value)) (cs:List V) (xs:Array Value) (us:List V),RL w L ρ cs xs.toList-> ps.map (·.1)=qs.map (·.1)->RV w L ρ (ps.map (·.2)) (qs.map (·.2))->iq place cs ps=some us->∃ys,Instr.fill place xs qs=some ys/\RL w L ρ us ys.toList
 | [],[],cs,xs,us,h,_,_,hf=>by simp [iq]at hf;subst hf;exact⟨xs,rfl,h⟩
 | [],_::_,cs,xs,us,h,e,_,hf=>by simp at e
 |_::_,[],cs,xs,us,h,e,_,hf=>by simp at e
 | (i,v)::ps,(i',x)::qs,cs,xs,us,h,e,hv,hf=>by
  simp only [List.map_cons,List.cons.injEq]at e;obtain⟨rfl,e⟩:=e;have hx:R w L ρ v x:=hv.2 0 v x rfl rfl;have hv':RV w L ρ (ps.map (·.2)) (qs.map (·.2)):=⟨by simpa using hv.1,fun j u y hu hy=>hv.2 (j+1) u y (by simpa using hu) (by simpa using hy)⟩;simp only [iq]at hf;split at hf
  ·rename_i off size hp;split at hf
   ·rename_i vs hc;split at hf
    ·rename_i hcond;have hu:=ji hx hc;have hul:x.cells.size=vs.length:=by have:=hu.1;simpa using this.symm
     have hxl:xs.size=cs.length:=by have:=h.1;simpa using this.symm
     have hnew:=h.splice hu off;have hfold:=foldl_set x.cells.toList xs off 0 (by simp;omega);obtain⟨ys,h1,h2⟩:=qA (place:=place) ps qs (splice cs off vs) (x.cells.toList.zipIdx.foldl (fun(cs:Array Value) (p:Value×Nat)=>cs.setIfInBounds (off+p.2) p.1) xs) us (by rw [hfold];simpa using hnew) e hv' hf;refine⟨ys,?_,h2⟩;simp only [Instr.fill,hp];rw [if_neg (by simp;omega),<-h1];congr 1
     rw [<-Array.foldl_toList,Array.toList_zipIdx]
    ·cases hf
   ·cases hf
  ·cases hf
section
variable {P:Program}{d:Option Tmp}{ty:TypeId}{pos:String}{af:Array Edge}{gd:Option (Nat×Bool)}{ev:Operand->V}{W LB:Nat->Prop}
theorem sv{w:World}{L:Nat->Prop}{ρ:Nat->Option Value}{g:Operand->Value}(parts:Array (Nat×Operand))(h:∀x∈(parts.toList.map (·.2)).toArray,R w L ρ (ev x) (g x)) : ((parts.toList.map fun p=>(p.1,ev p.2)).map (·.1))=((parts.map fun(i,x)=>(i,g x)).toList.map (·.1))/\RV w L ρ ((parts.toList.map fun p=>(p.1,ev p.2)).map (·.2)) ((parts.map fun(i,x)=>(i,g x)).toList.map (·.2)):=by refine⟨by simp,by simp,fun i u x hu hx=> ?_⟩;simp only [List.map_map,List.getElem?_map,Option.map_eq_some_iff,Function.comp,Array.toList_map]at hu hx;obtain⟨p,hp,rfl⟩:=hu;obtain⟨q,hq,rfl⟩:=hx;rw [hp]at hq;injection hq with hq;subst hq;exact h p.2 (by simp;exact⟨p.1,by have:=List.mem_of_getElem? hp;simpa using this⟩)
theorem DS{fs:List Field}{pl:List (Nat×Nat)}(w:World)(h:(fs.mapM fun f=>(P.info? f.type).map fun i=>(f.offset,i.size))=some pl) : (fs.mapM (fun f=>Prod.mk f.offset <$> sizeOf f.type:Field->Sem (Nat×Nat))).run P w= .ok pl w:=by
 induction fs generalizing pl with
 |nil=>simp at h;subst h;simp
 |cons f fs ih=>
  rw [List.mapM_cons]at h;cases hi:P.info? f.type with
  |none=>rw [hi]at h;simp at h
  |some i=>
   rw [hi]at h;cases hr:(fs.mapM fun f=>(P.info? f.type).map fun i=>(f.offset,i.size))with
   |none=>rw [hr]at h;simp at h
   |some qs=>rw [hr]at h;simp at h;subst h;rw [List.mapM_cons];have hs:=bO (P:=P) (e:=f.type) (sz:=i.size) (by simp [cc,hi]) w;simp [hs,ih hr]
theorem A7{t:Nat}{pl:List (Nat×Nat)}(h:uV P t=some pl):∃fs,P.underlying t=some (.struct fs)/\(fs.toList.mapM fun f=>(P.info? f.type).map fun i=>(f.offset,i.size))=some pl:=by
 unfold uV at h;split at h;·exact⟨_,by assumption,h⟩
 ·cases h
theorem EV(t:Nat)(parts:Array (Nat×Operand)){zs us:List V}{pl:List (Nat×Nat)}(hz:gN P t=some zs)(hp:uV P t=some pl)(hf:iq (pl[·]?) zs (parts.toList.map fun p=>(p.1,ev p.2))=some us) : aD P ⟨d,.build t parts,ty,pos,af,gd⟩ ev (.agg us):= aD.same rfl fun w L ρ g hr=>by
 obtain⟨i,z,hi,hz',h1,rfl⟩:=eZ hz;obtain⟨fs,hu,hm⟩:=A7 hp;obtain⟨e1,e2⟩:=sv (w:=w) (L:=L) (ρ:=ρ) (ev:=ev) (g:=g) parts (fun x hx=>hr x hx);obtain⟨ys,hy,hl⟩:=qA _ _ _ z.cells _ (m0 w L ρ z.cells.toList h1) e1 e2 hf;refine⟨.agg ys,?_,.lZ hl⟩;have hm':=DS (P:=P) w hm;simp only [execOp,Instr.build];have e3:(fs.mapM (fun f=>Prod.mk f.offset <$> sizeOf f.type:Field->Sem (Nat×Nat))).run P w= .ok pl.toArray w:=by rw [Array.mapM_eq_mapM_toList];simp [hm']
 simp at hy;simp [zeroValue,typeInfo,hi,hz',aA hu,e3,hy]
def l7(n:Nat)(zs:List V):List V:=(List.replicate n zs).flatten
def rowsOf(sz n:Nat)(cs:List V):List (List V):=(List.range n).map fun i=>(cs.drop (i*sz)).take sz
theorem qc(sz:Nat):∀(n:Nat) (cs:List V),cs.length=n*sz->(rowsOf sz n cs).flatten=cs
 |0,cs,h=>by simp at h;subst h;rfl
 |n+1,cs,h=>by
  have ih:=qc sz n (cs.drop sz) (by simp [h,Nat.add_mul]);simp only [rowsOf,List.range_succ_eq_map,List.map_cons,List.map_map,List.flatten_cons]at ih ⊢;have e:((List.range n).map ((fun i=>(cs.drop (i*sz)).take sz)∘Nat.succ))=(List.range n).map fun i=>((cs.drop sz).drop (i*sz)).take sz:=by apply List.map_congr_left;intro i _;simp only [Function.comp,List.drop_drop];rw [show sz+i*sz=i.succ*sz by rw [Nat.succ_mul];omega]
  rw [e,ih];simp
theorem Ef{sz n:Nat}{cs:List V}(h:cs.length=n*sz):∀r∈rowsOf sz n cs,r.length=sz:=by
 intro r hr;simp only [rowsOf,List.mem_map,List.mem_range]at hr;obtain⟨i,hi,rfl⟩:=hr;have:i*sz+sz<=n*sz:=by rw [<-Nat.succ_mul];exact Nat.mul_le_mul_right _ hi
 simp;omega
theorem AQ{w:World}{L:Nat->Prop}{ρ:Nat->Option Value}{zs:List V}{z:Array Value}(h:RL w L ρ zs z.toList)(hz:0< z.size):∀n:Nat,RL w L ρ (l7 n zs) (((Array.range (n*z.size)).map (z[· % z.size]!)).toList)
  |0=>by simp [l7];exact .nil
  |n+1=>by
    have ih:=AQ h hz n
    have e:l7 (n+1) zs=l7 n zs++zs:=by simp [l7,List.replicate_succ',List.flatten_append]
    rw [e]
    have e2:((Array.range ((n+1)*z.size)).map (z[· % z.size]!)).toList=((Array.range (n*z.size)).map (z[· % z.size]!)).toList++z.toList:=by
      rw [Nat.add_mul,Nat.one_mul]
      simp only [Array.toList_map,Array.toList_range,List.range_add,List.map_append,List.map_map]
      congr 1
      apply List.ext_getElem
      · simp
      · intro i h1 h2
        simp at h1 h2
        simp [Nat.add_mod,Nat.mod_eq_of_lt h2,h2]
    rw [e2]
    exact ih.append h
theorem y7{t e n sz:Nat}{zs cs:List V}(he:dw P t=some e)(hs:cc P e=some sz)(hz:gN P e=some zs)(hsz:zs.length=sz)(hpos:0< sz)(hn:n*sz<=4096)(parts:Array (Nat×Operand))(hcs:iq (fun i=>some (i*sz,sz)) (l7 n zs) (parts.toList.map fun p=>(p.1,ev p.2))=some cs) {w:World}{L:Nat->Prop}{ρ:Nat->Option Value}{g:Operand->Value}(hr:∀x∈(parts.toList.map (·.2)).toArray,R w L ρ (ev x) (g x)):∃xs:Array Value,(Instr.buildSlice t n (parts.map fun(i,x)=>(i,g x))).run P w= .ok (.slice (some ⟨w.heap.size,0,none⟩) n n) (w.alloc (.cells xs e))/\RL w L ρ cs xs.toList:=by
 obtain⟨i,z,hi,hz',h1,rfl⟩:=eZ hz;obtain⟨e1,e2⟩:=sv (w:=w) (L:=L) (ρ:=ρ) (ev:=ev) (g:=g) parts hr;have hzs:z.cells.size=sz:=by simpa using hsz
 have hsi:i.size=sz:=by simpa [cc,hi]using hs
 have h0:=AQ (m0 w L ρ z.cells.toList h1) oM n;rw [hzs]at h0;obtain⟨ys,hy,hl⟩:=qA _ _ _ _ _ h0 e1 e2 hcs;refine⟨ys,?_,hl⟩;have e0:∀f:Nat->Value,Array.map f (Array.range 0)= #[]:=fun f=>by simp
 subst hsi;by_cases hn0:n*i.size=0
 ·have hn':n=0:=by
   rcases Nat.mul_eq_zero.1 hn0 with h |h;·exact h
   ·omega
  subst hn';rw [Nat.zero_mul,e0]at hy;simp at hy;simp [Instr.buildSlice,aA (bM he),bO hs,e0,hy,newRow]
 ·have hsm:¬n*i.size> 2 ^ 24:=by omega
  exact run_buildSlice w t e n _ ys i z (bM he) hi hz' hsm hn0 (by rw [hzs];exact hy)
theorem CL(t n:Nat)(parts:Array (Nat×Operand)){e sz:Nat}{zs cs:List V}(he:dw P t=some e)(hs:cc P e=some sz)(hz:gN P e=some zs)(hsz:zs.length=sz)(hpos:0< sz)(hn:n*sz<=4096) (hcs:iq (fun i=>some (i*sz,sz)) (l7 n zs) (parts.toList.map fun p=>(p.1,ev p.2))=some cs) (hlen:cs.length=n*sz) (hid:V.bA cs=true) : aD P ⟨d,.buildSlice t n parts,ty,pos,af,gd⟩ ev (.sl sz n fun i=>(cs.drop (i*sz)).take sz):=by
 intro w L ρ g hr hlt;obtain⟨xs,hx,hl⟩:=y7 he hs hz hsz hpos hn parts hcs (w:=w) (L:=L) (ρ:=ρ) (g:=g) hr;have hf:=rO e hlt hl hid;refine bk.value rfl (v:= .slice (some ⟨w.heap.size,0,none⟩) n n) (w':=w.alloc (.cells xs e)) ?_ ⟨bC _ _,fun b=>L b\/b=w.heap.size,fun _ h=> .inl h,fun b h=>h.imp id fun e=>by subst e;simp,.HE (Nat.le_refl _) fun _=>⟨w.heap.size,0,rfl,.inr rfl,fun i hi=> ?_,fun i j u hi hu=> ?_⟩⟩;·simp [execOp,hx]
 ·have:i*sz+sz<=n*sz:=by rw [<-Nat.succ_mul];exact Nat.mul_le_mul_right _ hi
  simp;omega
 ·rw [List.getElem?_take]at hu;split at hu;·rw [List.getElem?_drop]at hu;have:=hf _ u hu;rwa [<-Nat.add_assoc]at this
  ·cases hu
theorem CZ(t n:Nat)(parts:Array (Nat×Operand)){e sz:Nat}{zs cs:List V}(he:dw P t=some e)(hs:cc P e=some sz)(hz:gN P e=some zs)(hsz:zs.length=sz)(hpos:0< sz)(hn:n*sz<=4096) (hcs:iq (fun i=>some (i*sz,sz)) (l7 n zs) (parts.toList.map fun p=>(p.1,ev p.2))=some cs) (hlen:cs.length=n*sz) (id:Nat) : aU P W LB ⟨d,.buildSlice t n parts,ty,pos,af,gd⟩ ev (.own id) [] [id] [(id,some (.row e sz n fun i=>(cs.drop (i*sz)).take sz))]:=by
 intro σ w L ρ g hG hr hpre hnew;obtain⟨xs,hx,hl⟩:=y7 he hs hz hsz hpos hn parts hcs (w:=w) (L:=L) (ρ:=ρ) (g:=g) hr;have hn4:n<=4096:=by have:n*1<=n*sz:=Nat.mul_le_mul_left _ hpos;omega
 obtain⟨hG',ex⟩:=hG.newRow (hnew id (by simp)) e sz n (row:=fun i=>(cs.drop (i*sz)).take sz) (xs:=xs) (fun i hi=>Ef hlen _ (List.mem_map.2 ⟨i,by simpa using hi,rfl⟩)) (by have:=qc _ _ _ hlen;unfold rowsOf at this;unfold aE;rw [this];exact hl) (by unfold maxLen;omega);exact bk.value rfl (v:= .slice (some ⟨w.heap.size,0,none⟩) n n) (w':=w.alloc (.cells xs e)) (by simp [execOp,hx]) ⟨L,_,hG',.own _ _ _ (ak _ _ _) rfl,cB (L:=L) (World.grownBy_alloc w _ none) (by simp),ex,fun i hi=>ah _ _ (by simpa using hi),dM.grown (World.grownBy_alloc w _ none) (by simp)⟩
end
def jh(P:Program)(t:Nat):Option Nat:=(P.info? t).map (·.bytes)
theorem wA(n:Nat)(zs:List V):aE n (fun _=>zs)=List.replicate n zs:=by simp [aE,List.map_const']
def aF(n:Nat)(row row':Nat->List V):Nat->List V:=fun j=>if j< n then row j else row' (j- n)
theorem sQ(n m:Nat)(row row':Nat->List V):aE (n+m) (aF n row row')=aE n row++aE m row':=by
 apply List.ext_getElem?;intro j;by_cases hj:j< n;·rw [List.getElem?_append_left (by rw [b8];exact hj),bK oM,bK hj];simp [aF,hj]
 ·rw [List.getElem?_append_right (by rw [b8];omega),b8];by_cases hj2:j< n+m;·rw [bK hj2,bK oM];simp [aF,hj]
  ·rw [List.getElem?_eq_none (by rw [b8];omega),List.getElem?_eq_none (by rw [b8];omega)]
section
variable {P:Program}{d:Option Tmp}{ty:TypeId}{pos:String}{af:Array Edge}{gd:Option (Nat×Bool)}{ev:Operand->V}{W LB:Nat->Prop}
theorem IG(t:Nat)(x y:Operand){e sz by':Nat}{zs:List V}{k k':IntKind}{l c:Int}(he:dw P t=some e)(hs:cc P e=some sz)(hb:jh P e=some by')(hz:gN P e=some zs)(hsz:zs.length=sz)(hpos:0< sz) (hx:ev x= .c (.int k l)) (hy:ev y= .c (.int k' c)) (hc:0<=l/\l<=c/\c<=1099511627776) (hb1:by'<=128) (id:Nat) : aU P W LB ⟨d,.makeSlice t x y,ty,pos,af,gd⟩ ev (.own id) [] [id] [(id,some (.row e sz l.toNat fun _=>zs))]:=by
 intro σ w L ρ g hG hr hpre hn;have h1:=hr x (by simp [Op.operands]);have h2:=hr y (by simp [Op.operands]);rw [hx]at h1;rw [hy]at h2;have e1:=h1.aN;have e2:=h2.aN;obtain⟨i,z,hi,hz',h1',rfl⟩:=eZ hz;have hzs:z.cells.size=sz:=by simpa using hsz
 have hsi:i.size=sz:=by simpa [cc,hi]using hs
 have hbi:i.bytes=by':=by simpa [jh,hi]using hb
 have hbytes:(i.bytes:Int)*c<=281474976710656:=by have h3:(i.bytes:Int)*c<=128*c:=Int.mul_le_mul_of_nonneg_right oM oM;omega
 have hm:=run_make (P:=P) w t e i z (bM he) hi hz' k k' l c hc.1 hc.2.1 hbytes oM;rw [hsi]at hm;have hrl:=AQ (w:=w) (L:=L) (ρ:=ρ) (m0 w L ρ z.cells.toList h1') oM c.toNat;rw [hzs]at hrl;have hmade:madeCells z.cells (c.toNat*sz)=(Array.range (c.toNat*sz)).map (z.cells[· % z.cells.size]!):=rfl;rw [hzs]at hmade;rw [<-hmade]at hrl;have hlc:l.toNat<=c.toNat:=by omega
 obtain⟨hG',ex⟩:=hG.put (w':=w.alloc (.cells (madeCells z.cells (c.toNat*sz)) e)) (σ1:=σ) (ρ':=bL ρ id (some (.slice (some ⟨w.heap.size,0,none⟩) l.toNat c.toNat))) (World.grownBy_alloc w _ none) (by simp) id _ (.row e sz l.toNat fun _=>z.cells.toList.map A9)
  (fun i o hi ho=>⟨ho,by simp⟩) (fun i hi=>ah _ _ hi) (ak _ _ _) (.inl (hn id (by simp))) (fun k hk=> .inr (by simp [blk]at hk;omega)) (fun ex=>by
   refine⟨_,(madeCells z.cells (c.toNat*sz)).toList.take (l.toNat*sz),ak _ _ _,⟨?_,.inr ⟨w.heap.size,c.toNat,_,by simp,Nat.zero_le _,heap_alloc_new w _,by simpa using hlc,by unfold maxLen;omega,size_madeCells _ _,by simp⟩⟩,?_,?_,fun k hk=> ?_⟩;·have:l.toNat*sz<=c.toNat*sz:=Nat.mul_le_mul_right _ hlc;rw [List.length_take,Array.length_toList,size_madeCells];omega
   ·intro i hi;exact hsz
   ·rw [wA];have h5:=(hrl.ext ex).sub 0 (l.toNat*sz);simp only [List.drop_zero]at h5;have e5:(l7 c.toNat (z.cells.toList.map A9)).take (l.toNat*sz)=(List.replicate l.toNat (z.cells.toList.map A9)).flatten:=by obtain⟨q,hq⟩:=Nat.le.dest hlc;rw [<-hq,l7,<-List.replicate_append_replicate,List.flatten_append,List.take_append_of_le_length (by rw [cR (sz:=sz) fun r hr=>by rw [List.eq_of_mem_replicate hr];exact hsz];simp),List.take_of_length_le (by rw [cR (sz:=sz) fun r hr=>by rw [List.eq_of_mem_replicate hr];exact hsz];simp)]
    rw [<-e5];exact h5
   ·simp [blk]at hk;subst hk;exact⟨(hG.new _ (Nat.le_refl _)).1,fun hL=>by have:=(hG.ll _ hL).1;omega⟩)
 refine bk.value rfl (v:= .slice (some ⟨w.heap.size,0,none⟩) l.toNat c.toNat) (w':=w.alloc (.cells (madeCells z.cells (c.toNat*sz)) e)) (by simp [execOp,e1,e2,hm]) ⟨L,_,hG',.own _ _ _ (ak _ _ _) rfl,cB (L:=L) (World.grownBy_alloc w _ none) (by simp),ex,fun i hi=>ah _ _ (by simpa using hi),dM.grown (World.grownBy_alloc w _ none) (by simp)⟩
theorem HF{w:World}{L:Nat->Prop}{ρ:Nat->Option Value}{sz n b o:Nat}{row:Nat->List V}(hlen:∀i,i< n->(row i).length=sz) (h:∀(i j:Nat) u,i< n->(row i)[j]?=some u->∃y,w.cell? ⟨b,o+i*sz+j,none⟩=some y/\y.oneCell'=true/\R w L ρ0 u y) : ∃xs,RL w L ρ (aE n row).flatten xs/\xs.length=n*sz/\∀(j:Nat) y,xs[j]?=some y->w.cell? ⟨b,o+j,none⟩=some y:=by
 have hfl:(aE n row).flatten.length=n*sz:=by
  rw [cR (sz:=sz)];·simp [aE]
  ·intro r hr;simp only [aE,List.mem_map,List.mem_range]at hr;obtain⟨i,hi,rfl⟩:=hr;exact hlen i hi
 obtain⟨xs,h1,h2⟩:=jG (w:=w) (L:=L) (ρ:=ρ) (b:=b) (o:=o) (aE n row).flatten fun j u hu=>by
  have hj:j< n*sz:=by rw [<-hfl];exact(List.getElem?_eq_some_iff.1 hu).1
  have hsz:0< sz:=by
   rcases Nat.eq_zero_or_pos sz with h |h;·subst h;omega
   ·exact h
  have hq:j / sz< n:=by rw [Nat.div_lt_iff_lt_mul hsz];exact hj
  have hm:=Nat.mod_lt j hsz;have hdm:=Nat.div_add_mod j sz;rw [Nat.mul_comm]at hdm;rw [<-hdm,flat_get (sz:=sz) (r:=row (j / sz)) ?_ (by simp [aE,hq]) hm]at hu;·obtain⟨y,hy,h1,hr⟩:=h (j / sz) (j% sz) u hq hu;exact⟨y,by rw [<-hy,show o+j=o+j / sz*sz+j% sz by omega],h1,hr.Mv⟩
  ·intro r hr;simp only [aE,List.mem_map,List.mem_range]at hr;obtain⟨i,hi,rfl⟩:=hr;exact hlen i hi
 exact⟨xs,h1,by rw [<-h1.1];exact hfl,h2⟩
theorem qv(t ty:TypeId){e sz:Nat}(he:dw P t=some e)(hs:cc P e=some sz)(base A:Option Addr)(n cap c:Nat)(hn:n<=cap)(w:World) : (Builtin.append_ #[t,t] ty #[.slice base n cap,.slice A 0 c]).run P w= .ok (.slice base n cap) w:=by cases A <;> cases base <;> simp [Builtin.append_,aA (bM he),bO hs,Builtin.lenOf,Builtin.firstCells,loadCells,loadCellsFrom,storeCells,hn]
def qV(w:World)(L:Nat->Prop)(ρ:Nat->Option Value)(sz m:Nat)(row:Nat->List V)(x:Value):Prop:= ∃A c ys,x= .slice A m c/\RL w L ρ (aE m row).flatten ys/\ys.length=m*sz/\(0< m->∃b o,A=some ⟨b,o,none⟩/\∀(j:Nat) y,ys[j]?=some y->w.cell? ⟨b,o+j,none⟩=some y)/\∀i,i< m->(row i).length=sz
theorem qV.sl{w:World}{L L':Nat->Prop}{ρ:Nat->Option Value}{sz m:Nat}{row:Nat->List V}{x:Value}(hx:R w L' ρ (.sl sz m row) x)(hback:∀ys,RL w L' ρ (aE m row).flatten ys->RL w L ρ (aE m row).flatten ys):qV w L ρ sz m row x:=by
 obtain⟨A,c,rfl,hA⟩:=hx.jg;rcases Nat.eq_zero_or_pos m with rfl |hm;·exact⟨A,c,[],rfl,by simp [aE];exact .nil,by simp,fun h=>by omega,fun i hi=>by omega⟩
 ·obtain⟨b,o,rfl,hb,hlen,hcell⟩:=hA hm;obtain⟨ys,hl,hyl,hc⟩:=HF (ρ:=ρ) hlen hcell;exact⟨_,c,ys,rfl,hback _ hl,hyl,fun _=>⟨b,o,rfl,hc⟩,hlen⟩
theorem lq{w:World}{L:Nat->Prop}{ρ:Nat->Option Value}(t:Nat){e sz by':Nat}{zs:List V}(he:dw P t=some e)(hs:cc P e=some sz)(hb:jh P e=some by')(hz:gN P e=some zs)(hsz:zs.length=sz)(hpos:0< sz)(hb1:by'<=128)
    {v:Value}{n:Nat}{xs:List Value}(hown:w.ownsRow 0 e sz v n xs){m:Nat}{row:Nat->List V}{x:Value}(hx:qV w L ρ sz m row x) (hnm:n+m<=1099511627776) :
    ∃v' w' ys,(Builtin.append_ #[t,t] t #[v,x]).run P w= .ok v' w'/\RL w L ρ (aE m row).flatten ys/\w'.ownsRow 0 e sz v' (n+m) (xs++ys)/\w.grownBy w' v.ownBlock/\(v'.ownBlock=v.ownBlock\/v'.ownBlock=some w.heap.size)/\(∀i,i< m->(row i).length=sz):=by
  obtain⟨i,z,hi,hz',h1',rfl⟩:=eZ hz
  have hzs:z.cells.size=sz:=by simpa using hsz
  have hsi:i.size=sz:=by simpa [cc,hi]using hs
  have hbi:i.bytes=by':=by simpa [jh,hi]using hb
  obtain⟨A,c,ys,rfl,hl,hyl,hA,hlen⟩:=hx
  rcases Nat.eq_zero_or_pos m with rfl |hm
  · obtain⟨B,cap,rfl,hcap⟩:∃B cap,v= .slice B n cap/\n<=cap:=by
      rcases hown.2 with⟨rfl,rfl⟩ | ⟨g,cap,cur,rfl,_,_,hc,_⟩
      · exact⟨none,0,rfl,Nat.le_refl _⟩
      · exact⟨_,_,rfl,hc⟩
    exact⟨_,w,[],qv t t he hs B A n cap c hcap w,by simp [aE];exact .nil,by simpa using hown,World.grownBy.refl _ _,.inl rfl,fun i hi=>by omega⟩
  · obtain⟨b,o,rfl,hc⟩:=hA hm
    obtain⟨v',w',h1,h2,h3,_,h4⟩:=run_append_own_at (P:=P) w 0 t t e i z sz by' (bM he) hi hz' hsi hbi hzs hpos v n xs hown ⟨b,o,none⟩ m c ys hyl (fun j u hu=>by rw [Addr.add_lit];exact hc j u hu) hl.one (by unfold maxLen;omega)
      (by have h1:(n+m)*by'<=1099511627776*128:=Nat.mul_le_mul hnm hb1
          omega) (Nat.zero_le _)
    exact⟨v',w',ys,h1,hl,h2,h3,h4,hlen⟩
theorem vv{v:Value}{w:World}{e sz n:Nat}{xs:List Value}(h:w.ownsRow 0 e sz v n xs):blk v=v.ownBlock:=by rcases h.2 with⟨rfl,_⟩ | ⟨g,cap,cur,rfl,_⟩ <;> rfl
theorem kG(t:Nat)(s x:Operand){e sz by' m:Nat}{zs:List V}{row:Nat->List V}(he:dw P t=some e)(hs:cc P e=some sz)(hb:jh P e=some by')(hz:gN P e=some zs)(hsz:zs.length=sz)(hpos:0< sz)(hb1:by'<=128) (hsn:ev s= .nil) (rs:List (Nat×Ob)) (hsrc:∀(σ:Nat->Option Ob) (w:World) (L:Nat->Prop) (ρ:Nat->Option Value) (g:Operand->Value),G W LB σ w L ρ->R w L ρ (ev x) (g x)->(∀p∈rs,σ p.1=some p.2)->qV w L ρ sz m row (g x)) (hm:m<=1099511627776) (id:Nat) : aU P W LB ⟨d,.call {callee:= .builtin .append,args:= #[s,x],argTypes:= #[t,t]},t,pos,af,gd⟩ ev (.own id) rs [id] [(id,some (.row e sz m row))]:=by
 intro σ w L ρ g hG hr hpre hn;have h1:=hr s (by simp [Op.operands,Call.operands]);have h2:=hr x (by simp [Op.operands,Call.operands]);rw [hsn]at h1;have h2:=hsrc σ w L ρ g hG h2 hpre;have e1:g s= .slice none 0 0:=by generalize g s=gs at h1;cases h1;rfl
 have hown:=World.ownsRow_nil w 0 e sz;obtain⟨v',w',ys,h3,h4,h5,h6,h7,hlen⟩:=lq t he hs hb hz hsz hpos hb1 hown h2 oM;rw [Nat.zero_add,List.nil_append]at h5;have hbo:=vv h5;obtain⟨hG',ex⟩:=hG.put (w':=w') (σ1:=σ) (ρ':=bL ρ id (some v')) h6 (by simp [Value.ownBlock]) id v' (.row e sz m row) (fun i o hi ho=>⟨ho,by simp [Value.ownBlock]⟩) (fun i hi=>ah _ _ hi) (ak _ _ _) (.inl (hn id (by simp)))
  (fun k hk=> .inr (by rw [hbo]at hk;rcases h7 with h7 |h7 <;> rw [h7]at hk <;> simp [Value.ownBlock]at hk;omega)) (fun ex=>by
   refine⟨v',ys,ak _ _ _,h5,hlen,h4.ext ex,fun k hk=> ?_⟩
   ·rw [hbo]at hk;rcases h7 with h7 |h7 <;> rw [h7]at hk <;> simp [Value.ownBlock]at hk
    subst hk;exact⟨(hG.new _ (Nat.le_refl _)).1,fun hL=>by have:=(hG.ll _ hL).1;omega⟩)
 have hone:v'.oneCell'=true:=by rcases h5.2 with⟨rfl,_⟩ | ⟨g,cap,cur,rfl,_⟩ <;> rfl
 refine bk.value rfl (v:=v') (w':=w') ?_ ⟨L,_,hG',.own _ _ _ (ak _ _ _) hone,cB (L:=L) h6 (by simp [Value.ownBlock]),ex,fun i hi=>ah _ _ (by simpa using hi),dM.grown h6 (by simp [Value.ownBlock])⟩;simp [execOp,resolve,invoke,builtin,e1,h3]
theorem zP(t:Nat)(s x:Operand){e sz by' m:Nat}{zs:List V}{row:Nat->List V}(he:dw P t=some e)(hs:cc P e=some sz)(hb:jh P e=some by')(hz:gN P e=some zs)(hsz:zs.length=sz)(hpos:0< sz)(hb1:by'<=128)
 (hsn:ev s= .nil) (hx:ev x= .sl sz m row) (hm:m<=1099511627776) (id:Nat) :
 aU P W LB ⟨d,.call {callee:= .builtin .append,args:= #[s,x],argTypes:= #[t,t]},t,pos,af,gd⟩ ev (.own id) [] [id] [(id,some (.row e sz m row))]:=
 kG t s x he hs hb hz hsz hpos hb1 hsn [] (fun _ _ L _ _ _ h2 _=> .sl (L':=L) (by rw [hx]at h2;exact h2) fun _ h=>h) hm id
theorem kH(t:Nat)(s x:Operand){e sz by' m id0 n:Nat}{zs:List V}{row row0:Nat->List V}(he:dw P t=some e)(hs:cc P e=some sz)(hb:jh P e=some by')(hz:gN P e=some zs)(hsz:zs.length=sz)(hpos:0< sz)(hb1:by'<=128)
    (hsn:ev s= .own id0) (rs:List (Nat×Ob)) (hsrc:∀(σ:Nat->Option Ob) (w:World) (L:Nat->Prop) (ρ:Nat->Option Value) (g:Operand->Value),G W LB σ w L ρ->R w L ρ (ev x) (g x)->(∀p∈rs,σ p.1=some p.2)->qV w L ρ sz m row (g x)) (hm:n+m<=1099511627776) (id:Nat) (hne:id≠id0) :
    aU P W LB ⟨d,.call {callee:= .builtin .append,args:= #[s,x],argTypes:= #[t,t]},t,pos,af,gd⟩ ev (.own id) ((id0,.row e sz n row0)::rs) [id] [(id0,none),(id,some (.row e sz (n+m) (aF n row0 row)))]:=by
  intro σ w L ρ g hG hr hpre hn
  have h1:=hr s (by simp [Op.operands,Call.operands])
  have h2:=hr x (by simp [Op.operands,Call.operands])
  rw [hsn]at h1
  have h2:=hsrc σ w L ρ g hG h2 (fun p hp=>hpre p (List.Mem.tail _ hp))
  have hσ:=hpre _ (List.Mem.head _)
  have hρ:=h1.cX
  obtain⟨v,xs,hv,hown,hrs,hl,hbl⟩:=hG.ob id0 _ hσ
  rw [hρ]at hv;injection hv with hv
  subst hv
  obtain⟨v',w',ys,h3,h4,h5,h6,h7,hlen⟩:=lq t he hs hb hz hsz hpos hb1 hown h2 hm
  have hbo:=vv h5
  have hbv:=vv hown
  rw [<-hbv]at h6 h7
  have hch:∀k,blk (g s)=some k->W k/\¬L k:=hbl
  have hidn:=hn id (by simp)
  obtain⟨hG',ex⟩:=hG.put (w':=w') (σ1:=bL σ id0 none) (ρ':=bL ρ id (some v')) h6 hch id v' (.row e sz (n+m) (aF n row0 row)) (fun i o hi ho=>by
      by_cases h0:i=id0
      · subst h0;rw [ak]at ho;cases ho
      · rw [ah _ _ h0]at ho
        exact⟨ho,fun y hy k hk hky=>hG.sep i id0 y _ k h0 (by rw [ho];simp) (by rw [hσ];simp) hy hρ hky hk⟩) (fun i hi=>ah _ _ hi) (ak _ _ _) (.inl hidn)
    (fun k hk=>by
      rw [hbo]at hk
      rcases h7 with h7 |h7
      · exact .inl (by rw [<-h7];exact hk)
      · rw [h7]at hk;injection hk with hk;exact .inr oM) (fun ex=>by
      refine⟨v',xs++ys,ak _ _ _,h5,?_,by rw [sQ,List.flatten_append];exact(hl.ext ex).append (h4.ext ex),fun k hk=> ?_⟩
      · intro j hj
        unfold aF
        split
        · exact hrs j (by assumption)
        · exact hlen _ oM
      · rw [hbo]at hk
        rcases h7 with h7 |h7
        · rw [h7]at hk;exact hbl k hk
        · rw [h7]at hk;injection hk with hk
          subst hk
          exact⟨(hG.new _ (Nat.le_refl _)).1,fun hL=>by have:=(hG.ll _ hL).1;omega⟩)
  have hone:v'.oneCell'=true:=by rcases h5.2 with⟨rfl,_⟩ | ⟨g,cap,cur,rfl,_⟩ <;> rfl
  refine bk.value rfl (v:=v') (w':=w') ?_ ⟨L,_,hG',.own _ _ _ (ak _ _ _) hone,cB (L:=L) h6 hch,ex,fun i hi=>ah _ _ (by simpa using hi),dM.grown h6 fun k hk=>by
      rcases hown.2 with⟨h,_⟩ | ⟨g',cap,cur,h,_,hh,_⟩
      · rw [h]at hk;simp [blk]at hk
      · rw [h]at hk;simp [blk]at hk;subst hk;exact⟨_,_,_,hh⟩⟩
  simp [execOp,resolve,invoke,builtin,h3]
theorem zQ(t:Nat)(s x:Operand){e sz by' m id0 n:Nat}{zs:List V}{row row0:Nat->List V}(he:dw P t=some e)(hs:cc P e=some sz)(hb:jh P e=some by')(hz:gN P e=some zs)(hsz:zs.length=sz)(hpos:0< sz)(hb1:by'<=128)
 (hsn:ev s= .own id0) (hx:ev x= .sl sz m row) (hm:n+m<=1099511627776) (id:Nat) (hne:id≠id0) :
 aU P W LB ⟨d,.call {callee:= .builtin .append,args:= #[s,x],argTypes:= #[t,t]},t,pos,af,gd⟩ ev (.own id) [(id0,.row e sz n row0)] [id] [(id0,none),(id,some (.row e sz (n+m) (aF n row0 row)))]:=
 kH t s x he hs hb hz hsz hpos hb1 hsn [] (fun _ _ L _ _ _ h2 _=> .sl (L':=L) (by rw [hx]at h2;exact h2) fun _ h=>h) hm id hne
theorem Real.slice{W:Nat->Prop}{w:World}{L:Nat->Prop}{ρ:Nat->Option Value}{id e sz n:Nat}{row:Nat->List V}(h:Real W w L ρ id (.row e sz n row))(hi:∀i,i< n->V.bA (row i)=true) : ∃v,ρ id=some v/\(∀k,blk v=some k->k< w.heap.size/\W k/\¬L k)/\R w (fun b=>L b\/blk v=some b) ρ (.sl sz n row) v:=by
 obtain⟨v,xs,hv,hown,hsz,hl,hb⟩:=h;obtain⟨v',hv',hlt⟩:=Real.lt (show Real W w L ρ id (.row e sz n row)from⟨v,xs,hv,hown,hsz,hl,hb⟩);rw [hv]at hv';injection hv' with hv';subst hv'
 refine⟨v,hv,hlt,?_⟩;obtain⟨A,c,hA⟩:∃A c,v= .slice A n c:=by
  rcases hown.2 with⟨h1,h2⟩ | ⟨g',cap,cur,h1,_⟩;·exact⟨_,_,by rw [h1,h2]⟩
  ·exact⟨_,_,h1⟩
 have hcap:n<=c:=by
  rcases hown.2 with⟨h1,h2⟩ | ⟨g',cap,cur,h1,_,_,h3,_⟩;·omega
  ·rw [h1]at hA;injection hA with _ _ hA3;omega
 rw [hA];refine .HE hcap fun hpos=> ?_;rcases hown.2 with⟨_,h2⟩ | ⟨g',cap,cur,h1,_,hh,hc1,hc2,hc3,hc4⟩;·omega
 ·rw [h1]at hA;injection hA with hA1 hA2 hA3;refine⟨g',0,hA1.symm,.inr (by rw [<-hA1];rfl),fun i hi=>hsz i hi,fun i j u hil hu=> ?_⟩;have hj:j< sz:=by rw [<-hsz i hil];exact(List.getElem?_eq_some_iff.1 hu).1
  have hfl:(aE n row).flatten[i*sz+j]?=some u:=by rw [flat_get (cq hsz) (bK hil) hj,hu]
  obtain⟨y,hy,hry,hone⟩:=hl.get hfl;refine⟨y,?_,hone,(hry.free (V.dW (hi i hil) hu) ρ0).ext ⟨fun b hb=>⟨.inl hb,rfl⟩,fun _ _ h=>h⟩⟩;rw [cell_of_row w g' _ cur e (0,0) hh,Nat.zero_add];rw [<-hc4,List.getElem?_take]at hy;split at hy;·simpa using hy
  ·cases hy
def V.BW:V->Bool
 | .c _=>true
 |_=>false
theorem RL.Qx{w:World}{L L':Nat->Prop}{ρ ρ':Nat->Option Value}{us:List V}{xs:List Value}(h:RL w L ρ us xs)(hc:∀u∈us,u.BW=true):RL w L' ρ' us xs:=by
 refine⟨h.1,fun i u y hu hy=> ?_⟩;have hi:=hc u (List.mem_of_getElem? hu);obtain⟨hr,h1⟩:=h.2 i u y hu hy;cases u with
 |c v=>cases hr;exact⟨.c _ _,h1⟩
 |_=>simp [V.BW]at hi
theorem Cd{W LB:Nat->Prop}{ev:Operand->V}{x:Operand}{id1 sz o m n1 e1:Nat}{fR:Nat->List V}(hx:ev x= .osl id1 sz o m)(ho:o+m<=n1)(hC:∀i u,u∈fR i->u.BW=true) (σ:Nat->Option Ob) (w:World) (L:Nat->Prop) (ρ:Nat->Option Value) (g:Operand->Value) (hG:G W LB σ w L ρ) (h2:R w L ρ (ev x) (g x)) (hp:∀p∈[(id1,Ob.row e1 sz n1 fR)],σ p.1=some p.2) : qV w L ρ sz m (fun i=>fR (i+o)) (g x):=by
 rw [hx]at h2;obtain⟨b,N,c,c2,A2,eg,hc2,hρ,hA2⟩:=h2.JK;have hre:=hG.ob id1 _ (hp _ (List.Mem.head _));have hidf:∀i,i< n1->V.bA (fR i)=true:=fun i _=>by
  have:=hC i;generalize fR i=l at this;induction l with
  |nil=>rfl
  |cons u l ih=>have hu:=this u (List.Mem.head _);rw [V.bA,ih fun v hv=>this v (List.Mem.tail _ hv),Bool.and_true];cases u <;> first |rfl |simp [V.BW]at hu
 obtain⟨v,hv,_,hR⟩:=hre.slice hidf;rw [hρ]at hv;injection hv with hv;subst hv
 refine .sl (L':=fun k=>L k\/blk (.slice (some ⟨b,0,none⟩) N c)=some k) ?_ fun ys h=>h.Qx fun u hu=> ?_;·rw [eg];obtain⟨A,c',eA,hA⟩:=hR.jg;refine R.HE hc2 fun hpos=> ?_;obtain⟨b',o',eb,hb,hlen,hcell⟩:=hA oM;injection eA with e1 e2 e3;rw [<-e1]at eb;injection eb with eb;injection eb with eb1 eb2;subst eb1;subst eb2;exact⟨b,o*sz,hA2 hpos,hb,fun i hi=>hlen _ oM,fun i j u hi hu=>by have:=hcell (i+o) j u oM hu;rwa [Nat.zero_add,show(i+o)*sz+j=o*sz+i*sz+j by rw [Nat.add_mul];omega]at this⟩
 ·obtain⟨l,hl,hul⟩:=List.mem_flatten.1 hu;obtain⟨i,hi,rfl⟩:=List.mem_iff_getElem.1 hl;have:(aE m fun i=>fR (i+o))[i]?=some (fR (i+o)):=bK (by simpa [b8]using hi);rw [List.getElem?_eq_getElem hi]at this;injection this with this;rw [this]at hul;exact hC _ _ hul
theorem Cf{W LB:Nat->Prop}{ev:Operand->V}{x:Operand}{id1 sz n1 e1:Nat}{fR:Nat->List V}(hx:ev x= .own id1) (σ:Nat->Option Ob) (w:World) (L:Nat->Prop) (ρ:Nat->Option Value) (g:Operand->Value) (hG:G W LB σ w L ρ) (h2:R w L ρ (ev x) (g x)) (hp:∀p∈[(id1,Ob.row e1 sz n1 fR)],σ p.1=some p.2) : qV w L ρ sz n1 fR (g x):=by
 rw [hx]at h2;have hρ:=h2.cX;obtain⟨v,xs,hv,hown,hrs,hl,_⟩:=hG.ob id1 _ (hp _ (List.Mem.head _));rw [hρ]at hv;injection hv with hv
 rw [hv];rcases hown.2 with⟨h1,h0⟩ | ⟨g',cap,cur,h1,_,hh,hc1,hc2,hc3,hc4⟩;·subst h0;exact⟨none,0,xs,h1,hl,hown.1,fun h=>by omega,hrs⟩
 ·refine⟨_,cap,xs,h1,hl,hown.1,fun _=>⟨g',0,rfl,fun j y hy=> ?_⟩,hrs⟩;rw [cell_of_row w g' _ cur e1 (0,0) hh,Nat.zero_add];rw [<-hc4,List.getElem?_take]at hy;split at hy;·simpa using hy
  ·cases hy
theorem Iw(t:Nat)(x:Operand){e sz n:Nat}{row:Nat->List V}(he:dw P t=some e)(hx:ev x= .sl sz n row):aD P ⟨d,.call {callee:= .builtin .len,args:= #[x],argTypes:= #[t]},ty,pos,af,gd⟩ ev (.i n):= aD.same rfl fun w L ρ g hr=>by have h1:=hr x (by simp [Op.operands,Call.operands]);rw [hx]at h1;obtain⟨A,c,e1,_⟩:=h1.jg;exact⟨_,by simp [execOp,resolve,invoke,builtin,Builtin.len_,e1,aA (bM he),goInt],.c _ _⟩
theorem Iv(t:Nat)(x:Operand){e:Nat}(he:dw P t=some e)(hx:ev x= .nil):aD P ⟨d,.call {callee:= .builtin .len,args:= #[x],argTypes:= #[t]},ty,pos,af,gd⟩ ev (.i 0):= aD.same rfl fun w L ρ g hr=>by
 have h1:=hr x (by simp [Op.operands,Call.operands]);rw [hx]at h1;have e1:g x= .slice none 0 0:=by generalize g x=gs at h1;cases h1;rfl
 exact⟨_,by simp [execOp,resolve,invoke,builtin,Builtin.len_,e1,aA (bM he),goInt],.c _ _⟩
theorem IF(t:Nat)(x:Operand){e e' sz id n:Nat}{row:Nat->List V}(he:dw P t=some e)(hx:ev x= .own id) : aU P W LB ⟨d,.call {callee:= .builtin .len,args:= #[x],argTypes:= #[t]},ty,pos,af,gd⟩ ev (.i n) [(id,.row e' sz n row)] [] []:=by
 intro σ w L ρ g hG hr hpre _;have h1:=hr x (by simp [Op.operands,Call.operands]);rw [hx]at h1;obtain⟨v,xs,hv,hown,_⟩:=hG.ob id _ (hpre _ (List.Mem.head _));rw [h1.cX]at hv;injection hv with hv
 obtain⟨A,c,e1⟩:∃A c,g x= .slice A n c:=by
  rw [hv];rcases hown.2 with⟨h1,h2⟩ | ⟨g',cap,cur,h1,_⟩;·exact⟨_,_,by rw [h1,h2]⟩
  ·exact⟨_,_,h1⟩
 refine bk.value rfl (v:=goInt n) (w':=w) ?_ ⟨L,ρ,hG,.c _ _,aZ.refl _ _,Ext.refl _ _ _,fun _ _=>rfl,dM.refl _ _⟩;simp [execOp,resolve,invoke,builtin,Builtin.len_,e1,aA (bM he)]
end
end Go.Ab
