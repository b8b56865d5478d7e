/-
  Several texts in one: Ranges over functions whose rounds lay new memory, and hold it: the iterator writes to memory that it laid itself alone. Conditions: told in each theorem. .. The step of an operation, kind by kind: the same function, cheaper to run. No condition.
-/
import Derived.Maps.RangeRun
import Derived.Sort.LoopGhostIn
import Derived.RecoverIn
import Derived.Test.YtdgkdpgjnilmjaaGreatDoorX00
import Derived.Test.YtdgkdpgjnilmjaaGreatDoorX01
import Derived.Test.YtdgkdpgjnilmjaaGreatDoorMD
import Derived.Test.YtdgkdpgjnilmjaaGreatDoorAbs42
namespace Go.Dw
open Go.RowKit Go.Shelf
end Go.Dw
namespace Go.Ab
open Go.RowKit Go.Dw Go.Shelf
theorem Real.Gr{W W' L L':Nat->Prop}{w w':World}{ρ ρ':Nat->Option Value}{id:Nat}{o:Ob}(h:Real W w L ρ id o)(e:Ext w L ρ w' L' ρ') (hb:∀x k,ρ id=some x->blk x=some k->w'.heap[k]?=w.heap[k]?/\¬L' k/\W' k):Real W' w' L' ρ' id o:=by
 cases o with
 |box t cs=>obtain⟨b,xs,h1,h2,h3,h4,h5⟩:=h;have:=hb _ b h1 rfl;exact⟨b,xs,e.r _ _ h1,this.2.2,this.2.1,this.1.trans h4,h5.ext e⟩
 |row t sz n row=>
  obtain⟨v,xs,h1,h2,h3,h4,h5⟩:=h;refine⟨v,xs,e.r _ _ h1,⟨h2.1,?_⟩,h3,h4.ext e,fun k hk=>⟨(hb _ k h1 hk).2.2,(hb _ k h1 hk).2.1⟩⟩;rcases h2.2 with hn | ⟨g,cap,cur,rfl,hg,hh,rest⟩;·exact .inl hn
  ·exact .inr ⟨g,cap,cur,rfl,hg,(hb _ g h1 rfl).1.trans hh,rest⟩
 |mp str f=>obtain⟨b,es,cl,h1,h2,h3,h4,h5⟩:=h;have:=hb _ b h1 rfl;exact⟨b,es,cl,e.r _ _ h1,this.2.2,this.2.1,this.1.trans h4,h5.imp fun _ _ _ _ h=>h.ext e⟩
def HO(es:List (List V))(k:Nat)(x:Array Value)(W:World):Prop:= ∃v,es[k]?=some v/\V.eM v=true/\RV W (fun _=>False) ρ0 v x.toList
theorem cO{F:Fence}(hF:FW F){P:Program}{ops:Array Oper}{Q:Exit->Act->World->Prop}{i:Nat}{K:Act->World->Prop}{a:Act}{w w':World}{o:Oper}{v:Value}(hi:ops[i]?=some o)(hg:o.guard=none)(hp:ij o.op=true) (hrun:(execOp a.eval o).run P w= .ok (.value v) w') (hK:K (a.put o.dst v) w'):wpOpIn F 0 P ops Q i K a w:=by
 unfold wpOpIn;rw [hi];have hwt:Region.wanted o (yielded ops a.tmps)=true:=by unfold Region.wanted;rw [hg]
 simp only [hwt,if_true];exact(aS.value (K:=fun x w''=>x=v/\w''=w') hp hrun ⟨rfl,rfl⟩) F hF a _ Q (fun _ _=>rfl) (by rintro _ _ ⟨rfl,rfl⟩;exact hK)
def Cx.sub{P:Program}{N:Nat}(C:Cx P N)(r bm id:Nat)(x:Value)(h:500<=id/\id< 1000):Cx P N:= ⟨fun b=>C.W b/\b≠r/\b≠bm,fun b=>C.LB b/\b≠r/\b≠bm,fun b h=>⟨C.wl b h.1,h.2⟩,⟨C.dfs.tl,bU C.dfs.pin id (some x),fun j y hy=>by
 by_cases e:j=id;·subst e;exact h
 ·rw [ak _ _ e]at hy;exact C.dfs.lo j y hy⟩,C.mx,C.F,C.hF⟩
section
variable {W LB:Nat->Prop}{N:Nat}{dfs:Dp}{fresh:Nat->Prop}{tm:Nat->V}{σ:Nat->Option Ob}{a:Act}{w w':World}{L:Nat->Prop}{ρ:Nat->Option Value}
theorem nD.HY(h:nD W LB N dfs fresh tm σ a w L ρ){r:Nat}(hs:w'.heap.size=w.heap.size)(hb:∀b,b≠r->w'.heap[b]?=w.heap[b]?)(hW:¬W r)(hL:¬LB r):nD W LB N dfs fresh tm σ a w' L ρ:=by
 have e:Ext w L ρ w' L ρ:=⟨fun b hbl=>⟨hbl,hb b fun he=>hL (by rw [<-he];exact(h.g.ll b hbl).2)⟩,fun _ _ h=>h⟩;refine⟨⟨fun b hbl=>by rw [hs];exact h.g.ll b hbl,fun b hbs=>h.g.new b (by rw [<-hs];exact hbs),fun id o ho=> ?_,h.g.sep,h.g.td e⟩,h.fr,h.tm.ext e,h.size,?_,h.pin⟩
 ·refine(h.g.ob id o ho).keep e fun x k hx hk=> ?_;obtain⟨y,hy,hlt⟩:=(h.g.ob id o ho).lt;rw [hx]at hy;injection hy with hy;subst hy
  obtain⟨l1,l2,l3⟩:=hlt k hk;exact⟨hb k fun he=>hW (by rw [<-he];exact l2),l3⟩
 ·obtain⟨Ds,h4,h5,h6⟩:=h.defers;refine⟨Ds,h4,h5,fun D hD=> ?_⟩;obtain⟨h7,h8,h9⟩:=h6 D hD;exact⟨(hb D fun he=>hW (by rw [<-he];exact h8)).trans h7,h8,h9⟩
theorem nD.vF(h:nD W LB N dfs fresh tm σ a w L ρ){t:Nat}(ht:t< N){v:V}{x:Value}(hv:R w L ρ v x):nD W LB N dfs fresh (bU tm t v) σ (a.put (some t) x) w L ρ:= ⟨h.g,h.fr,h.tm.put (d:=some t) (fun t' e=>by injection e with e;rw [<-e,h.size];exact ht) hv,by simp [Act.put,h.size],h.defers,h.pin⟩
end
theorem qk{k:MK}:∀ {es:List MapEntry}{x:Value},aW k es=some x->∃e∈es,k.is e.key=true
 | [],_,h=>by simp [aW]at h
 |e::es,x,h=>by
  rw [aW]at h;split at h;·rename_i hk;exact⟨e,by simp,hk⟩
  ·obtain⟨e',h1,h2⟩:=qk h;exact⟨e',by simp [h1],h2⟩
theorem qj{k:MK}:∀ {es:List MapEntry}{e:MapEntry},e∈es->k.is e.key=true->(aW k es).isSome=true
 | [],_,h,_=>by simp at h
 |e'::es,e,h,hk=>by
  rw [aW];split;·rfl
  ·rename_i hne;rcases List.mem_cons.1 h with rfl |h;·exact absurd hk hne
   ·exact qj h hk
theorem E5{n:Int}{v:Value}(h:(MK.i n).is v=true):v= .int .i64 n:=by
 unfold MK.is at h;split at h;·rename_i a b _ e;cases e;rw [of_decide_eq_true h]
 ·rename_i e;cases e
 ·cases h
theorem gJ{a:Act}{t:Nat}{x:Value}(h:t< a.tmps.size):(a.put (some t) x).eval (.tmp t)=x:=by simp [Act.put,Act.eval,h]
theorem mN{a:Act}{t t':Nat}{x:Value}(h:t'≠t):(a.put (some t) x).eval (.tmp t')=a.eval (.tmp t'):=by simp [Act.put,Act.eval,Array.getElem?_setIfInBounds,Ne.symm h]
open Classical in
theorem lW{α:Type}:∀ {l m:List α},l.Nodup->(∀x∈l,x∈m)->l.length<=m.length
 | [],_,_,_=>Nat.zero_le _
 |x::l,m,hn,h=>by rw [List.nodup_cons]at hn;have h1:=lW (m:=m.erase x) hn.2 fun y hy=>(List.mem_erase_of_ne fun e=>hn.1 (by rw [<-e];exact hy)).2 (h y (by simp [hy]));have h2:=List.length_erase_of_mem (h x (by simp));have h3:0< m.length:=List.length_pos_of_mem (h x (by simp));simp only [List.length_cons];omega
section
variable {P:Program}{N:Nat}{C:Cx P N}{Q:Exit->S->Prop}{tm:Nat->V}{σ:Nat->Option Ob}{nx:Nat}
def zf(tl:List Int->List (Nat×V))(sl:List Int->List (Nat×Ob))(ti r:Nat)(d:List Int):S:=⟨jz ((ti,.c (.pointer (some ⟨r,0,none⟩)))::tl d),cE (sl d),1⟩
abbrev ID(ti mt mm:Nat)(ty:TypeId)(p:String)(u:Array Edge):Oper:=⟨some ti,.range mt (.tmp mm),ty,p,u,none⟩
def FZ(p:Prop):Prop:=p
theorem sF{rid bid b2 r1 r2:Nat}{ol:List Oper}{mt kt et mm ti tn tb te tk tf id n:Nat}{has:Int->Bool}{ty1 ty2 ty3 ty4 ty5 ty6:TypeId}{p1 p2 p3 p4 p5 p6:String}{u1 u2 u3 u4 u5 u6:Array Edge}{body:Code} (tl:List Int->List (Nat×V)) (sl:List Int->List (Nat×Ob)) (hmt:P.underlying mt=some (.map kt et)) (hid:500<=id/\id< 1000) (kk:Nat) (hy:ol[kk]?=some (ID ti mt mm ty1 p1 u1)) (hlen:ol.length=kk+1) (hok:fK N ol=true) (hslots:(decide (tn< N) && decide (tb< N) && decide (te< N) && decide (tk< N) && decide (tf< N) && decide (nx≠0))=true) (hne:(decide (tn≠ti) && decide (tb≠ti) && decide (te≠ti) && decide (tk≠ti))=true) (h:bq C ol.toArray nx (ol.take kk) tm σ [] fun tm1 σ1 _=>FZ (tm1 mm= .own id/\σ1 id=some (.mp (false,n) (bB has))/\ ∀r,Le ⟨bU tm1 ti (.c (.pointer (some ⟨r,0,none⟩))),bU σ1 id none,nx+1⟩ (zf tl sl ti r []))) (hround:∀C':Cx P N,C'.F=C.F->∀(r:Nat) (d:List Int) (f:Int),has f=true->f∉d-> AW C' body (fun e s'=>FZ (e= .normal/\Le s' (zf tl sl ti r (f::d)))) ⟨bU (bU (bU (bU (bU (zf tl sl ti r d).tm tn .any) tb .any) te .any) tk .any) tf (.i f),cE (sl d),1⟩) (hdone:∀d:List Int,d.Nodup->(∀z,z∈d<->has z=true)->d.length=n->Q .normal ⟨bU (bU (bU (jz (tl d)) ti .any) tn .any) tb .any,cE ((id,.mp (false,n) (bB has))::sl d),1⟩) : AW C (.seq (.region rid ol.toArray false) (.block bid (.loop (.seq (.region r1 #[⟨some tn,.next (.tmp ti) false,ty2,p2,u2,none⟩,⟨some tb,.extract (.tmp tn) 0,ty3,p3,u3,none⟩] false) (.seq (.cond (.tmp tb) .skip (.exit bid)) (.block b2 (.seq (.region r2 #[⟨some te,.entry (.tmp ti),ty4,p4,u4,none⟩,⟨some tk,.extract (.tmp te) 0,ty5,p5,u5,none⟩,⟨some tf,.assign (.tmp tk),ty6,p6,u6,none⟩] false) body))))))) Q ⟨tm,σ,nx⟩:=by
 have hsp:ol=ol.take kk++[ID ti mt mm ty1 p1 u1]:=by
  have hn:kk< ol.length:=by omega
  have q1:ol.drop kk=ol[kk]::ol.drop (kk+1):=List.drop_eq_getElem_cons hn;have q2:ol[kk]=_:=(List.getElem?_eq_some_iff.1 hy).2;have q3:ol.drop (kk+1)=[]:=List.drop_eq_nil_of_le oM;rw [<-q2,<-q3,<-q1,List.take_append_drop]
 clear hy hlen;revert h;generalize ol.take kk=ol0 at hsp;subst hsp;obtain⟨ol,rfl⟩:∃ol,ol=ol0:=⟨_,rfl⟩;intro h;simp only [Bool.and_eq_true,decide_eq_true_eq]at hslots hne;obtain⟨⟨⟨⟨⟨htn,htb⟩,hte⟩,htk⟩,htf⟩,hnx⟩:=hslots;obtain⟨⟨⟨n1,n2⟩,n3⟩,n4⟩:=hne;intro a w ⟨L,ρ,g⟩;obtain⟨y,hyd⟩:∃y:Oper,y=ID ti mt mm ty1 p1 u1:=⟨_,rfl⟩;rw [<-hyd]at hok h ⊢;obtain⟨h1,h2⟩:=fL hok;obtain⟨tr,tm1,σ1,h3,hwt⟩:=h.run;obtain⟨hmm,hσ,hent⟩:tm1 mm= .own id/\σ1 id=some (.mp (false,n) (bB has))/\∀r,Le ⟨bU tm1 ti (.c (.pointer (some ⟨r,0,none⟩))),bU σ1 id none,nx+1⟩ (zf tl sl ti r []):=hwt;have hti:ti< N:=h1 y (by simp) ti (by rw [hyd]);refine wpIn_seq (wpIn_region ?_);rw [List.range_eq_range',show(ol++[y]).toArray.size=ol.length+[y].length by simp];refine rH (P:=P) (W:=C.W) (LB:=C.LB) (ops:=(ol++[y]).toArray) (nx:=nx) (N:=N) (dfs:=C.dfs) C.hF (by simpa using h1) [y] ol 0 tr tm tm1 σ σ1 a w w L ρ (bN nx) (fun j=>by simp) h3 g (fun o ho t ht id h5 h6 h7=>h5) (fun id hid=>eN hid) h2 (aU.refl _ _) ?_;intro a1 W1 L1 ρ1 fr1 g1 q1 q2 t1;rw [Nat.zero_add,List.length_singleton,List.range'_succ,wpOpsIn_cons];obtain⟨bm,es,cl,e1,e2,e3,e4,e5⟩:=g1.g.ob id _ hσ;have hmv:a1.eval (.tmp mm)= .map (some bm):=by have:=g1.tm.eval g1.g.gl (.tmp mm);rw [show ev tm1 (.tmp mm)= .own id from hmm]at this;have:=this.cy;rw [e1]at this;injection this with this;exact this.symm
 obtain⟨v1,v2,v3⟩:=e5.2.2.2.2;have hkey:∀e∈es.toList,∃z:Int,e.key= .int .i64 z:=fun e he=>by
  obtain⟨k,hk,hv⟩:=e5.1 e he;cases k with
  |i z=>exact⟨z,hv⟩
  |s b=>cases hk
 have hhas:∀z:Int,has z=true<->∃e∈es.toList,e.key= .int .i64 z:=by
  intro z;rw [<-fX has z];constructor
  ·intro hz;cases hm:aW (.i z) es.toList with
   |none=>rw [e5.2.2.1 (.i z) rfl hm]at hz;cases hz
   |some x=>obtain⟨e,he,hk⟩:=qk hm;exact⟨e,he,E5 hk⟩
  ·rintro⟨e,he,hk⟩;have:=qj (k:= .i z) he (by rw [hk];exact decide_eq_true rfl);cases hm:aW (.i z) es.toList with
   |none=>rw [hm]at this;cases this
   |some x=>obtain⟨u,hu,_⟩:=e5.2.1 (.i z) x rfl hm;rw [hu];rfl
 obtain⟨r,hr⟩:∃r,r=W1.heap.size:=⟨_,rfl⟩;refine cO C.hF (o:=y) (v:= .pointer (some ⟨r,0,none⟩)) (w':=W1.alloc (.mapIter (some bm) cl #[] cl)) (by simp) (by rw [hyd]) (by rw [hyd];rfl) ?_ ?_;·rw [hyd];simp [execOp,hmv,run_range_map W1 mt kt et bm es cl hmt e4,hr]
 rw [show y.dst=some ti by rw [hyd]];simp only [List.range'_zero,wpOpsIn,Exit.then];have hb0:Below W1.heap.size W1 (W1.alloc (.mapIter (some bm) cl #[] cl)):=bk _ _;have hbm:bm< W1.heap.size:=(Array.getElem?_eq_some_iff.1 e4).1;obtain⟨gq,eq⟩:=g1.g.quiet hb0 (L':=L1) (fun _ h=>h) (fun _ h=> .inl h);obtain⟨C',hC'⟩:∃C',C'=C.sub r bm id (.map (some bm)) hid:=⟨_,rfl⟩;have cW:C'.W=fun b=>C.W b/\b≠r/\b≠bm:=by rw [hC'];rfl
 have cL:C'.LB=fun b=>C.LB b/\b≠r/\b≠bm:=by rw [hC'];rfl
 have cF:C'.F=C.F:=by rw [hC'];rfl
 have cp:C'.dfs.pin=bU C.dfs.pin id (some (.map (some bm))):=by rw [hC'];rfl
 have ct:C'.dfs.tl=C.dfs.tl:=by rw [hC'];rfl
 have gm0:Gm C' ⟨bU tm1 ti (.c (.pointer (some ⟨r,0,none⟩))),bU σ1 id none,nx+1⟩ (a1.put (some ti) (.pointer (some ⟨r,0,none⟩))) (W1.alloc (.mapIter (some bm) cl #[] cl)):=by
  have hn':∀j o,bU σ1 id none j=some o->j≠id/\σ1 j=some o:=fun j o hj=>by
   by_cases e:j=id;·rw [e,av]at hj;cases hj
   ·exact⟨e,by rwa [ak _ _ e]at hj⟩
  refine⟨L1,ρ1,⟨⟨fun b hb=> ?_,fun b hb=> ?_,fun j o hj=> ?_,fun i j x y k hij hi hj=>gq.sep i j x y k hij ?_ ?_,gq.gl⟩,fun j hj=>g1.fr j (q2 j hj),?_,?_,?_,?_⟩⟩;·rw [cL];have hl:=g1.g.ll b hb;exact⟨(gq.ll b hb).1,hl.2,by omega,fun e=>e3 (by rw [<-e];exact hb)⟩
  ·have h5:=hb0.size;have hs:(W1.alloc (.mapIter (some bm) cl #[] cl)).heap.size=W1.heap.size+1:=Array.size_push ..;have:=gq.new b hb;rw [cW,cL];rw [hs]at hb;exact⟨⟨this.1,by omega,by omega⟩,this.2,by omega,by omega⟩
  ·obtain⟨hne,ho⟩:=hn' j o hj;refine(g1.g.ob j o ho).Gr eq fun x k hx hk=> ?_;obtain⟨y',hy',hlt⟩:=(g1.g.ob j o ho).lt;rw [hx]at hy';injection hy' with hy';subst hy'
   obtain⟨l1,l2,l3⟩:=hlt k hk;refine⟨hb0.block k l1,l3,?_⟩;rw [cW];exact⟨l2,by omega,fun e=>g1.g.sep id j _ _ bm (fun e=>hne e.symm) (by rw [hσ];simp) (by rw [ho];simp) e1 hx rfl (by rw [<-e];exact hk)⟩
  ·intro hc;apply hi;show bU σ1 id none i=none;by_cases e:i=id;·rw [e,av]
   ·rw [ak _ _ e];exact hc
  ·intro hc;apply hj;show bU σ1 id none j=none;by_cases e:j=id;·rw [e,av]
   ·rw [ak _ _ e];exact hc
  ·exact(g1.tm.ext eq).put (d:=some ti) (fun t e=>by injection e with e;rw [<-e,g1.size];exact hti) (.c _ _)
  ·simp [Act.put,g1.size]
  ·obtain⟨Ds,h4,h5,h6⟩:=g1.defers;refine⟨Ds,by rw [ct];exact h4,h5,fun D hD=> ?_⟩;obtain⟨h7,h8,h9⟩:=h6 D hD;have hlt:=(Array.getElem?_eq_some_iff.1 h7).1;refine⟨(hb0.block D hlt).trans h7,?_,h9⟩;rw [cW];exact⟨h8,by omega,fun e=>by rw [e,e4]at h7;cases h7⟩
  ·intro j x hj;rw [cp]at hj;by_cases e:j=id;·rw [e,av]at hj;injection hj with hj;rw [e,<-hj];exact e1
   ·rw [ak _ _ e]at hj;exact g1.pin j x hj
 have gm1:=hent r C' _ _ gm0;have hWr:C.W r:=(g1.g.new r oM).1;have hr0:(W1.alloc (.mapIter (some bm) cl #[] cl)).heap[r]?=some (.mapIter (some bm) cl #[] cl):=by rw [hr];exact Go.heap_alloc_new _ _
 have hb00:(W1.alloc (.mapIter (some bm) cl #[] cl)).heap[bm]?=some (.map es cl):=(hb0.block bm hbm).trans e4;have ht0:aU C.W w (W1.alloc (.mapIter (some bm) cl #[] cl)):=t1.alloc _;have hrb:r≠bm:=by omega
 refine wpIn_block (wpIn_loop_ghost (fun m a' w'=>∃d seen,Gm C' (zf tl sl ti r d) a' w'/\w'.heap[r]?=some (.mapIter (some bm) cl seen cl)/\w'.heap[bm]?=some (.map es cl)/\
  (∀e∈es.toList,∀z,e.key= .int .i64 z->seen.contains e.born=decide (z∈d))/\(∀z,z∈d->has z=true)/\d.Nodup/\m=(leftOf es seen).size/\aU C.W w w') (leftOf es #[]).size
  ?_ ?_)
 ·exact⟨[],#[],gm1,hr0,hb00,fun e _ z _=>(by simp),fun z hz=>(by cases hz),List.nodup_nil,rfl,ht0⟩
 rintro m a' w' ⟨d,seen,⟨L2,ρ2,g2⟩,hr1,hb1,hs,hd,hdn,rfl,ht⟩;have hite:a'.eval (.tmp ti)= .pointer (some ⟨r,0,none⟩):=by have:=g2.tm.eval g2.g.gl (.tmp ti);rw [show ev (zf tl sl ti r d).tm (.tmp ti)= .c (.pointer (some ⟨r,0,none⟩))from av _ _ _]at this;exact this.aJ
 have hN:a'.tmps.size=N:=g2.size;refine wpIn_seq (wpIn_region ?_);show wpOpsIn _ _ _ _ _ [0,1] _ _;rw [wpOpsIn_cons];rcases run_next_at (P:=P) w' ty2 r bm cl cl seen es cl hr1 hb1 (fun x hx=>v3 x hx) (Nat.le_refl _)with⟨hz,hrun⟩ | ⟨e,he,w1,hw1,hrun⟩
 ·refine cO C.hF (o:=⟨some tn,.next (.tmp ti) false,ty2,p2,u2,none⟩) (v:= .tuple #[.bool false]) (w':=w') rfl rfl rfl (by simp [execOp,hite,hrun]) ?_;rw [wpOpsIn_cons];refine cO C.hF (o:=⟨some tb,.extract (.tmp tn) 0,ty3,p3,u3,none⟩) (v:= .bool false) (w':=w') rfl rfl rfl (by simp [execOp,Instr.extract,gJ (show tn< a'.tmps.size by omega)]) ?_;simp only [wpOpsIn,Exit.then];refine wpIn_seq (wpIn_cond (gJ (x:= .bool false) (by simp [Act.put];omega)) ?_);refine wpIn_exit ?_;simp only [Exit.then,Exit.inBlock,if_pos];have hdh:∀z,z∈d<->has z=true:=fun z=>⟨hd z,fun hzz=>by obtain⟨e,he,hk⟩:=(hhas z).1 hzz;have:=all_seen es seen hz e he;rw [hs e he z hk]at this;exact of_decide_eq_true this⟩;have hlen:d.length=n:=by have hl:es.toList.length=n:=e5.2.2.2.1;have k1:=lW (l:=d.map fun z=>Value.int .i64 z) (m:=es.toList.map (·.key)) (List.Pairwise.map _ (fun a b hab he=>hab (by injection he)) hdn) (fun x hx=>by obtain⟨z,hz',rfl⟩:=List.mem_map.1 hx;obtain⟨e,he,hk⟩:=(hhas z).1 (hd z hz');exact List.mem_map.2 ⟨e,he,hk⟩);have k2:=lW (l:=es.toList.map (·.key)) (m:=d.map fun z=>Value.int .i64 z) v1 (fun x hx=>by obtain⟨e,he,rfl⟩:=List.mem_map.1 hx;obtain⟨z,hz'⟩:=hkey e he;exact List.mem_map.2 ⟨z,(hdh z).2 ((hhas z).2 ⟨e,he,hz'⟩),hz'.symm⟩);simp only [List.length_map]at k1 k2;omega
  refine⟨_,hdone d hdn hdh hlen,?_,ht⟩;have g3:=(g2.vF htn (v:= .any) (x:= .tuple #[.bool false]) (.any _ _)).vF htb (v:= .any) (x:= .bool false) (.any _ _);have hρ:ρ2 id=some (.map (some bm)):=g2.pin id _ (by rw [cp,av]);have hLb:¬L2 bm:=fun hl=>by have:=(g2.g.ll bm hl).2;rw [cL]at this;exact this.2.2 rfl
  have hup:∀j o,cE ((id,.mp (false,n) (bB has))::sl d) j=some o->(j=id/\o= .mp (false,n) (bB has))\/(j≠id/\cE (sl d) j=some o):=fun j o hj=>by
   have hj:bU (cE (sl d)) id (some (.mp (false,n) (bB has))) j=some o:=hj;by_cases e:j=id;·rw [e,av]at hj;injection hj with hj;exact .inl ⟨e,hj.symm⟩
   ·rw [ak _ _ e]at hj;exact .inr ⟨e,hj⟩
  have hblk:∀j o x k,cE (sl d) j=some o->ρ2 j=some x->blk x=some k->k≠bm:=fun j o x k ho hx hk=>by
   obtain⟨y',hy',hlt⟩:=(g2.g.ob j o ho).lt;rw [hx]at hy';injection hy' with hy';subst hy'
   have:=(hlt k hk).2.1;rw [cW]at this;exact this.2.2
  have hnn:∀ {j:Nat},cE ((id,.mp (false,n) (bB has))::sl d) j≠none->∃o,cE ((id,.mp (false,n) (bB has))::sl d) j=some o:=fun {j} h=>by
   cases ho:cE ((id,.mp (false,n) (bB has))::sl d) j with
   |none=>exact absurd ho h
   |some o=>exact⟨o,rfl⟩
  refine⟨L2,ρ2,⟨⟨fun b hb=> ?_,fun b hb=> ?_,fun j o hj=> ?_,fun i j x y k hij hi hj hx hy hk hk'=> ?_,g2.g.gl⟩,g2.fr,fun t=> ?_,g3.size,?_,fun j x hj=> ?_⟩⟩;·have:=g2.g.ll b hb;rw [cL]at this;exact⟨this.1,this.2.1⟩
  ·have:=g2.g.new b hb;rw [cW,cL]at this;exact⟨this.1.1,this.2.1⟩
  ·rcases hup j o hj with⟨rfl,rfl⟩ | ⟨hne,ho⟩
   ·exact⟨bm,es,cl,hρ,e2,hLb,hb1,e5.imp fun i u x hu hr=>by
     cases i with
     |s b=>cases hu
     |i z=>
      rw [dx]at hu;split at hu;·injection hu with hu;subst hu;rw [hr.aJ];exact .c _ _
      ·cases hu⟩
   ·exact(g2.g.ob j o ho).wider fun b hb=>by rw [cW]at hb;exact hb.1
  ·obtain⟨o1,ho1⟩:=hnn hi;obtain⟨o2,ho2⟩:=hnn hj;rcases hup i o1 ho1 with⟨rfl,_⟩ | ⟨hne,hi1⟩
   ·rcases hup j o2 ho2 with⟨rfl,_⟩ | ⟨hne2,hj1⟩;·exact hij rfl
    ·rw [hρ]at hx;injection hx with hx;subst hx
     simp [blk]at hk;exact hblk j o2 y k hj1 hy hk' hk.symm
   ·rcases hup j o2 ho2 with⟨rfl,_⟩ | ⟨hne2,hj1⟩
    ·rw [hρ]at hy;injection hy with hy;subst hy
     simp [blk]at hk';exact hblk i o1 x k hi1 hx hk hk'.symm
    ·exact g2.g.sep i j x y k hij (by rw [show(zf tl sl ti r d).σ i=some o1 from hi1];simp) (by rw [show(zf tl sl ti r d).σ j=some o2 from hj1];simp) hx hy hk hk'
  ·have h3:=g3.tm t;show R _ _ _ (bU (bU (bU (jz (tl d)) ti V.any) tn V.any) tb V.any t) _;by_cases q1:t=tb;·subst q1;rw [av];exact .any _ _
   by_cases q2:t=tn;·subst q2;rw [ak _ _ q1,av];exact .any _ _
   by_cases q3:t=ti;·subst q3;rw [ak _ _ q1,ak _ _ q2,av];exact .any _ _
   rw [ak _ _ q1,ak _ _ q2]at h3;rw [ak _ _ q1,ak _ _ q2,ak _ _ q3];have:(zf tl sl ti r d).tm t=jz (tl d) t:=ak _ _ q3;rw [this]at h3;exact h3
  ·obtain⟨Ds,h4,h5,h6⟩:=g3.defers;refine⟨Ds,by rw [<-ct];exact h4,h5,fun D hD=> ?_⟩;obtain⟨h7,h8,h9⟩:=h6 D hD;rw [cW]at h8;exact⟨h7,h8.1,h9⟩
  ·refine g2.pin j x ?_;rw [cp];by_cases e:j=id;·rw [e]at hj ⊢;rw [av];have:=g1.pin id x hj;rw [e1]at this;exact this
   ·rw [ak _ _ e];exact hj
 ·obtain⟨hem,hes⟩:=mem_left he;obtain⟨z,hz⟩:=hkey e hem;have hdz:z∉d:=fun hc=>by have:=hs e hem z hz;rw [hes,decide_eq_true hc]at this;cases this
  have hhz:has z=true:=(hhas z).2 ⟨e,hem,hz⟩;obtain⟨w2,hw2⟩:∃w2,w2=ChangeMaps.setBlock w1 r (.mapIter (some bm) cl (seen.push e.born) cl):=⟨_,rfl⟩;have hh1:w1.heap=w'.heap:=by rcases hw1 with rfl |rfl <;> rfl
  have hh2:w2.heap=w'.heap.setIfInBounds r (.mapIter (some bm) cl (seen.push e.born) cl):=by rw [hw2];show w1.heap.setIfInBounds _ _=_;rw [hh1]
  have hrl:r< w'.heap.size:=(Array.getElem?_eq_some_iff.1 hr1).1;have hr2:w2.heap[r]?=some (.mapIter (some bm) cl (seen.push e.born) cl):=by rw [hh2,Array.getElem?_setIfInBounds];simp [hrl]
  have ho2:∀b,b≠r->w2.heap[b]?=w'.heap[b]?:=fun b hb=>by rw [hh2,Array.getElem?_setIfInBounds];simp [Ne.symm hb]
  have hb2:w2.heap[bm]?=some (.map es cl):=(ho2 bm hrb.symm).trans hb1;have hs2:w2.heap.size=w'.heap.size:=by rw [hh2];simp
  have ht2:aU C.W w w2:=by
   refine ht.trans ⟨?_,?_,?_,by omega,fun k hk hn=>ho2 k fun he=>hn (by rw [he];exact hWr)⟩;·rw [hw2];rcases hw1 with rfl |rfl <;> rfl
   ·rw [hw2];rcases hw1 with rfl |rfl <;> rfl
   ·rw [hw2];rcases hw1 with rfl |rfl <;> rfl
  rw [<-hw2]at hrun;have g3:=g2.HY (w':=w2) (r:=r) hs2 ho2 (by rw [cW];exact fun h=>h.2.1 rfl) (by rw [cL];exact fun h=>h.2.1 rfl);refine cO C.hF (o:=⟨some tn,.next (.tmp ti) false,ty2,p2,u2,none⟩) (v:= .tuple #[.bool true,e.key,e.val]) (w':=w2) rfl rfl rfl (by simp [execOp,hite,hrun]) ?_;rw [wpOpsIn_cons];refine cO C.hF (o:=⟨some tb,.extract (.tmp tn) 0,ty3,p3,u3,none⟩) (v:= .bool true) (w':=w2) rfl rfl rfl (by simp [execOp,Instr.extract,gJ (show tn< a'.tmps.size by omega)]) ?_;simp only [wpOpsIn,Exit.then];have g4:=(g3.vF htn (v:= .any) (x:= .tuple #[.bool true,e.key,e.val]) (.any _ _)).vF htb (v:= .any) (x:= .bool true) (.any _ _);refine wpIn_seq (wpIn_cond (gJ (x:= .bool true) (by simp [Act.put];omega)) ?_);refine wpIn_skip ?_;simp only [Exit.then];refine wpIn_block (wpIn_seq (wpIn_region ?_));show wpOpsIn _ _ _ _ _ [0,1,2] _ _;rw [wpOpsIn_cons];have hite2:((a'.put (some tn) (.tuple #[.bool true,e.key,e.val])).put (some tb) (.bool true)).eval (.tmp ti)= .pointer (some ⟨r,0,none⟩):=by rw [mN n2.symm,mN n1.symm,hite]
  refine cO C.hF (o:=⟨some te,.entry (.tmp ti),ty4,p4,u4,none⟩) (v:= .tuple #[e.key,e.val]) (w':=w2) rfl rfl rfl (by simp [execOp,hite2,run_entry_at w2 r bm cl seen es cl e hr2 hb2 hem v2]) ?_;rw [wpOpsIn_cons];refine cO C.hF (o:=⟨some tk,.extract (.tmp te) 0,ty5,p5,u5,none⟩) (v:=e.key) (w':=w2) rfl rfl rfl (by simp [execOp,Instr.extract,gJ (show te< ((a'.put (some tn) (.tuple #[.bool true,e.key,e.val])).put (some tb) (.bool true)).tmps.size by simp [Act.put];omega)]) ?_;rw [wpOpsIn_cons];refine cO C.hF (o:=⟨some tf,.assign (.tmp tk),ty6,p6,u6,none⟩) (v:=e.key) (w':=w2) rfl rfl rfl (by simp [execOp,gJ (show tk< (((a'.put (some tn) (.tuple #[.bool true,e.key,e.val])).put (some tb) (.bool true)).put (some te) (.tuple #[e.key,e.val])).tmps.size by simp [Act.put];omega)]) ?_;simp only [wpOpsIn,Exit.then];have g5:=((g4.vF hte (v:= .any) (x:= .tuple #[e.key,e.val]) (.any _ _)).vF htk (v:= .any) (x:=e.key) (.any _ _)).vF htf (v:= .i z) (x:=e.key) (by rw [hz];exact .c _ _);have hb:=hround C' cF r d z hhz hdz _ _ ⟨L2,ρ2,g5⟩;rw [cF]at hb;refine wpIn_mono hb ?_;rintro e' a'' w'' ⟨s',hwt,g',t'⟩;obtain⟨rfl,hle⟩:e'= .normal/\Le s' (zf tl sl ti r (z::d)):=hwt;simp only [Exit.inBlock,Exit.then];refine⟨_,left_shrinks es seen e he,z::d,seen.push e.born,hle C' _ _ g',?_,?_,?_,?_,List.nodup_cons.2 ⟨hdz,hdn⟩,rfl,ht2.trans (t'.mono fun k _ hk=>by rw [cW]at hk;exact hk.1)⟩;·exact(t'.block r oM (by rw [cW];exact fun h=>h.2.1 rfl)).trans hr2
  ·exact(t'.block bm (by have:=(Array.getElem?_eq_some_iff.1 hb2).1;exact this) (by rw [cW];exact fun h=>h.2.2 rfl)).trans hb2
  ·intro e2 he2 z2 hz2;rw [contains_push,hs e2 he2 z2 hz2];have hsp:decide (z2∈z::d)=(decide (z2∈d) || decide (z2=z)):=by simp [List.mem_cons,or_comm,Bool.or_comm]
   rw [hsp];by_cases hq:z2=z
   ·have:e2=e:=by
     have hk2:e2.key=e.key:=by rw [hz2,hz,hq]
     have key:∀(l:List MapEntry),(l.map (·.key)).Nodup->e2∈l->e∈l->e2=e:=by
      intro l;induction l with
      |nil=>intro _ h;cases h
      |cons c l ih=>
       intro hn h1 h2;rw [List.map_cons,List.nodup_cons]at hn;rcases List.mem_cons.1 h1 with g1 |g1
       ·rcases List.mem_cons.1 h2 with g2 |g2;·rw [g1,g2]
        ·exact absurd (List.mem_map.2 ⟨e,g2,by rw [<-hk2,g1]⟩) hn.1
       ·rcases List.mem_cons.1 h2 with g2 |g2;·exact absurd (List.mem_map.2 ⟨e2,g1,by rw [hk2,g2]⟩) hn.1
        ·exact ih hn.2 g1 g2
     exact key es.toList v1 he2 hem
    subst this;simp [hq]
   ·have:e2.born≠e.born:=fun hb=>hq (by have:=born_inj v2 he2 hem hb;subst this;rw [hz]at hz2;injection hz2 with _ hz2;exact hz2.symm);simp [hq,this]
  ·intro z2 hz2;rcases List.mem_cons.1 hz2 with h |h;·rw [h];exact hhz
   ·exact hd z2 h
end
def nE(nm:Nat->Nat)(n:Nat)(x:Nat->Value)(ρ:Nat->Option Value):Prop:=∀i,i< n->∃b,ρ (nm i)=some (.pointer (some ⟨b,0,none⟩))/\x i= .pointer (some ⟨b,0,none⟩)
def we(nm:Nat->Nat)(n:Nat)(x:Nat->Value)(o o':Ob):Prop:=∀(W L:Nat->Prop) (w:World) (ρ:Nat->Option Value) (id:Nat),nE nm n x ρ->Real W w L ρ id o->Real W w L ρ id o'
theorem we.refl(nm:Nat->Nat)(n:Nat)(x:Nat->Value)(o:Ob):we nm n x o o:=fun _ _ _ _ _ _ h=>h
inductive DJ(nm:Nat->Nat)(n:Nat)(x:Nat->Value):List (Nat×Option Ob)->List (Nat×Option Ob)->Prop
  |nil:DJ nm n x [] []
  |none (k:Nat){l l':List (Nat×Option Ob)}(h:DJ nm n x l l'):DJ nm n x ((k,none)::l) ((k,none)::l')
  |some (k:Nat){o o':Ob}{l l':List (Nat×Option Ob)}(c:we nm n x o o') (h:DJ nm n x l l'):DJ nm n x ((k,some o)::l) ((k,some o')::l')
def En(nm:Nat->Nat)(n:Nat)(x:Nat->Value):Option Ob->Option Ob->Prop
 |none,none=>True
 |some o,some o'=>we nm n x o o'
 |_,_=>False
theorem DJ.bA{nm:Nat->Nat}{n:Nat}{x:Nat->Value}{l l':List (Nat×Option Ob)}(h:DJ nm n x l l'):∀ {σ σ':Nat->Option Ob},(∀j,En nm n x (σ j) (σ' j))->∀j,En nm n x (Ab.bA σ l j) (Ab.bA σ' l' j):=by
 induction h with
 |nil=>intro σ σ' h;exact h
 |none k _ ih=>
  intro σ σ' h;refine ih (σ:=bU σ k Option.none) (σ':=bU σ' k Option.none) fun j=> ?_;by_cases e:j=k;·subst e;rw [av,av];exact trivial
  ·rw [ak _ _ e,ak _ _ e];exact h j
 | @some k o o' _ _ c _ ih=>
  intro σ σ' h;refine ih (σ:=bU σ k (.some o)) (σ':=bU σ' k (.some o')) fun j=> ?_;by_cases e:j=k;·subst e;rw [av,av];exact c
  ·rw [ak _ _ e,ak _ _ e];exact h j
theorem En.refl{nm:Nat->Nat}{n:Nat}{x:Nat->Value}(a:Option Ob):En nm n x a a:=by
 cases a with
 |none=>exact trivial
 |some o=>exact we.refl _ _ _ _
theorem En.some{nm:Nat->Nat}{n:Nat}{x:Nat->Value}{a:Option Ob}{o:Ob}(h:En nm n x a (some o)):∃o',a=some o'/\we nm n x o' o:=by
 cases a with
 |none=>exact h.elim
 |some o'=>exact⟨o',rfl,h⟩
theorem we.row{nm:Nat->Nat}{n m:Nat}{x:Nat->Value}{e:TypeId}{r r':Nat->List V}
 (h:∀i,i< m->∃u u',r i=[u]/\r' i=[u']/\∀(w:World) (L:Nat->Prop) (ρ:Nat->Option Value) (y:Value),nE nm n x ρ->R w L ρ u y->R w L ρ u' y):we nm n x (.row e 1 m r) (.row e 1 m r'):=
 fun _ _ w ρ _ hp hr=>hr.d5 fun i hi=>by obtain⟨u,u',h1,h2,h3⟩:=h i hi;exact⟨u,u',h1,h2,fun y hy=>h3 w _ ρ y hp hy⟩
inductive eX(nm:Nat->Nat)(x:Nat->Value)(i:Nat):V->Prop
  |ref:eX nm x i (.ref (nm i) 0)
  |c:eX nm x i (.c (x i))
  |alt (k:Nat):eX nm x i (.alt (decide (i=k)) (.ref (nm k) 0) (.c (x i)))
theorem eX.of{nm:Nat->Nat}{n:Nat}{x:Nat->Value}{i:Nat}{u:V}(h:eX nm x i u)(hi:i< n){w:World}{L:Nat->Prop}{ρ:Nat->Option Value}{y:Value}(hp:nE nm n x ρ)(hr:R w L ρ u y):y=x i:=by
 obtain⟨b,h1,h2⟩:=hp i hi;have key:∀ {y:Value},R w L ρ (.ref (nm i) 0) y->y=x i:=fun {y} h=>by
  obtain⟨b',rfl,h4⟩:=h.fW;rw [h1]at h4;injection h4 with h4
  rw [h2,h4]
 cases h with
 |ref=>exact key hr
 |c=>exact hr.aJ
 |alt k=>
  by_cases e:i=k;·subst e;exact key (hr.wk (by simp))
  ·exact(hr.DN (by simp [e])).aJ
theorem eX.to{nm:Nat->Nat}{n:Nat}{x:Nat->Value}{i:Nat}{u:V}(h:eX nm x i u)(hi:i< n){w:World}{L:Nat->Prop}{ρ:Nat->Option Value}(hp:nE nm n x ρ):R w L ρ u (x i):=by
 obtain⟨b,h1,h2⟩:=hp i hi;have key:R w L ρ (.ref (nm i) 0) (x i):=by rw [h2];exact .ref _ _ _ _ h1
 cases h with
 |ref=>exact key
 |c=>exact .c _ _
 |alt k=>
  by_cases e:i=k;·subst e;exact .zy (by simp) key
  ·exact .zz (by simp [e]) (.c _ _)
theorem eX.conv{nm:Nat->Nat}{n:Nat}{x:Nat->Value}{i:Nat}{u u':V}(h:eX nm x i u)(k:eX nm x i u')(hi:i< n){w:World}{L:Nat->Prop}{ρ:Nat->Option Value}{y:Value}(hp:nE nm n x ρ)(hr:R w L ρ u y):R w L ρ u' y:=by rw [h.of hi hp hr];exact k.to hi hp
theorem we.uc{nm:Nat->Nat}{n:Nat}{x:Nat->Value}{e:TypeId}{c c':Nat->V}(h:∀i,i< n->eX nm x i (c i))(h':∀i,i< n->eX nm x i (c' i)):we nm n x (.row e 1 n fun i=>[c i]) (.row e 1 n fun i=>[c' i]):= .row fun i hi=>⟨c i,c' i,rfl,rfl,fun _ _ _ _ hp hr=>(h i hi).conv (h' i hi) hi hp hr⟩
theorem we.BM{nm:Nat->Nat}{n:Nat}{x:Nat->Value}{e:TypeId}{c:Nat->V}{p:Nat}(h:∀i,i< n->eX nm x i (c i)):we nm n x (.row e 1 (n+1) fun i=>[.alt (decide (i< n)) (c i) (.ref p 0)]) (.row e 1 (n+1) fun i=>[.ref (if i< n then nm i else p) 0]):= .row fun i hi=>⟨_,_,rfl,rfl,fun _ _ _ _ hp hr=>by
 by_cases hi':i< n;·rw [if_pos hi'];exact(h i hi').conv .ref hi' hp (hr.wk (by simp [hi']))
 ·rw [if_neg hi'];exact hr.DN (by simp [hi'])⟩
theorem aQ.const{P:Program}{W LB:Nat->Prop}{o:Oper}{ev:Operand->V}{v:V}{nw:List Nat}{id n:Nat}{e:TypeId}{nm:Nat->Nat}{rx:(Nat->Value)->Nat->V}{pre:List (Nat×Ob)}{δ:(Nat->Value)->List (Nat×Option Ob)}{δf:List (Nat×Option Ob)}
    (h:∀x,aQ P W LB o ev v ((id,.row e 1 n fun i=>[rx x i])::pre) nw (δ x)) (hne:∀p∈pre,p.1≠id) (ht:∀x i,i< n->eX nm x i (rx x i)) (hδ:∀x,DJ nm n x (δ x) δf) :
    aQ P W LB o ev v ((id,.row e 1 n fun i=>[.ref (nm i) 0])::pre) nw δf:=by
  intro σ w L ρ g hG hr hpre hnew
  have hσ:=hpre (id,.row e 1 n fun i=>[.ref (nm i) 0]) (by simp)
  have hrow:=hG.ob id _ hσ
  have hp:∀i,i< n->∃b,ρ (nm i)=some (.pointer (some ⟨b,0,none⟩)):=by
    obtain⟨v',xs,q1,q2,q3,q4,q5⟩:=hrow
    intro i hi
    have g':=flat_get (cg q3) (bD (row:=fun i=>[V.ref (nm i) 0]) hi) (show 0< 1 by decide)
    rw [Nat.mul_one,Nat.add_zero]at g'
    obtain⟨y,_,hy,_⟩:=q4.get (g'.trans rfl)
    obtain⟨b,_,hb⟩:=hy.fW
    exact⟨b,hb⟩
  obtain⟨x,hx⟩:∃x:Nat->Value,x=fun i=>(ρ (nm i)).getD undef:=⟨_,rfl⟩
  have hpt:nE nm n x ρ:=fun i hi=>by obtain⟨b,hb⟩:=hp i hi;exact⟨b,hb,by rw [hx];simp only [hb,Option.getD_some]⟩
  have cin:we nm n x (.row e 1 n fun i=>[.ref (nm i) 0]) (.row e 1 n fun i=>[rx x i]):= .uc (fun _ _=> .ref) (ht x)
  have cout:we nm n x (.row e 1 n fun i=>[rx x i]) (.row e 1 n fun i=>[.ref (nm i) 0]):= .uc (ht x) (fun _ _=> .ref)
  have hG':G W LB (bU σ id (some (.row e 1 n fun i=>[rx x i]))) w L ρ:=by
    refine⟨hG.ll,hG.new,fun j ob ho=> ?_,fun i j y z k hij hi hj=>hG.sep i j y z k hij ?_ ?_,hG.gl⟩
    · by_cases ej:j=id
      · subst ej;rw [av]at ho;injection ho with ho;subst ho
        exact cin _ _ _ _ _ hpt hrow
      · rw [ak _ _ ej]at ho;exact hG.ob j ob ho
    · by_cases ei:i=id
      · rw [ei,hσ];simp
      · rwa [ak _ _ ei]at hi
    · by_cases ej:j=id
      · rw [ej,hσ];simp
      · rwa [ak _ _ ej]at hj
  refine(h x _ w L ρ g hG' hr (fun p hp=> ?_) hnew).mono ?_
  · rcases List.mem_cons.1 hp with rfl |hp
    · exact av _ _ _
    · rw [ak _ _ (hne p hp)];exact hpre p (by simp [hp])
  rintro xv w' ⟨L',ρ',hG2,hv,ht',hx',hρ,hk⟩
  have hpt':nE nm n x ρ':=fun i hi=>by obtain⟨b,h1,h2⟩:=hpt i hi;exact⟨b,hx'.r _ _ h1,h2⟩
  have hrel:∀j,En nm n x (Ab.bA (bU σ id (some (.row e 1 n fun i=>[rx x i]))) (δ x) j) (Ab.bA σ δf j):=(hδ x).bA fun j=>by
    by_cases ej:j=id
    · rw [ej,av,hσ];exact cout
    · rw [ak _ _ ej];exact .refl _
  refine⟨L',ρ',⟨hG2.ll,hG2.new,fun j ob ho=> ?_,fun i j y z k hij hi hj=>hG2.sep i j y z k hij ?_ ?_,hG2.gl⟩,hv,ht',hx',hρ,hk⟩
  · have:=hrel j
    rw [ho]at this
    obtain⟨o',h1,h2⟩:=this.some
    exact h2 _ _ _ _ _ hpt' (hG2.ob j o' h1)
  · intro hc;have:=hrel i;rw [hc]at this
    cases ho:Ab.bA σ δf i with
    |none=>exact hi ho
    |some o=>rw [ho]at this;exact this.elim
  · intro hc;have:=hrel j;rw [hc]at this
    cases ho:Ab.bA σ δf j with
    |none=>exact hj ho
    |some o=>rw [ho]at this;exact this.elim
def B6(s s':S):Prop:=∀(P:Program) (N:Nat) (C:Cx P N) a w,C.dfs=r9->Gm C s a w->Gm C s' a w
theorem uO{P:Program}{N:Nat}{C:Cx P N}{Q:Exit->S->Prop}{s s':S}{c:Code}(hd:C.dfs=r9)(h:B6 s s')(k:AW C c Q s'):AW C c Q s:=fun a w g=>k a w (h _ _ C a w hd g)
theorem Le.d{s s':S}(h:Le s s'):B6 s s':=fun _ _ C a w _ g=>h C a w g
theorem B6.trans{s s' s'':S}(h:B6 s s')(k:B6 s' s''):B6 s s'':=fun _ _ C a w hd g=>k _ _ C a w hd (h _ _ C a w hd g)
theorem wL{tm:Nat->V}{σ σ':Nat->Option Ob}{nx:Nat}{tl:List (Nat×V)}(h:Nat->Nat)(hσ:∀id o,σ' id=some o->∃ob,σ (h id)=some ob/\dQ ob (o.bg h)) (hinj:∀i j,σ' i≠none->σ' j≠none->h i=h j->i=j) (hfr:∀id,100000<=id->nx*100000<=h id) (htm:lu (fun p=>tm p.1=p.2.bg h) tl):B6 ⟨tm,σ,nx⟩ ⟨jz tl,σ',1⟩:=by
 intro P N C a w hd ⟨L,ρ,g⟩;refine⟨L,fun id=>ρ (h id),⟨⟨g.g.ll,g.g.new,fun id o ho=> ?_,fun i j x y k hij hi hj hx hy hk=> ?_,g.g.gl⟩,fun id (hid:1*100000<=id)=>g.fr _ (hfr id (Nat.le_trans (Nat.le_of_eq (Nat.one_mul 100000).symm) hid)),fun t=> ?_,g.size,g.defers,fun id x hp=> ?_⟩⟩;·obtain⟨ob,h1,h2⟩:=hσ id o ho;exact((g.g.ob _ _ h1).eq h2).bg
 ·have e:∀i,σ' i≠none->σ (h i)≠none:=fun i hi=>by
   cases ho:σ' i with
   |none=>exact absurd ho hi
   |some o=>obtain⟨ob,h1,_⟩:=hσ i o ho;rw [h1];simp
  exact g.g.sep (h i) (h j) x y k (fun he=>hij (hinj i j hi hj he)) (e i hi) (e j hj) hx hy hk
 ·have key:∀tl:List (Nat×V),lu (fun p=>tm p.1=p.2.bg h) tl->R w L (fun id=>ρ (h id)) (jz tl t) (a.tmps.getD t undef):=by
   intro tl;induction tl with
   |nil=>intro _;exact .any _ _
   |cons p tl ih=>
    rintro⟨h1,h2⟩;show R w _ _ (bU (jz tl) p.1 p.2 t) _;by_cases ht:t=p.1;·subst ht;rw [av];have h5:R w L ρ (tm p.1) _:=g.tm p.1;rw [h1]at h5;exact iR _ _ _ h5
    ·rw [ak _ _ ht];exact ih h2
  exact key tl htm
 ·rw [hd]at hp;cases hp
theorem aQ.tU{P:Program}{W LB:Nat->Prop}{o:Oper}{ev:Operand->V}{v:V}{pre pre':List (Nat×Ob)}{nw:List Nat}{δ:List (Nat×Option Ob)}(h:aQ P W LB o ev v pre nw δ)(hp:∀p∈pre,p∈pre'):aQ P W LB o ev v pre' nw δ:= fun σ w L ρ g hG hr hpre hn=>h σ w L ρ g hG hr (fun p hm=>hpre p (hp p hm)) hn
def II(P:Program)(s f:Nat):Option Nat:=
 match P.underlying s with
  |some (.struct fs)=>match fs[f]? with
   |some fd=>match iA P fd.type with
    |some false=>some fd.offset
    |_=>none
   |none=>none
  |_=>none
theorem BL{P:Program}{s f off:Nat}(h:II P s f=some off):∃fs fd,P.underlying s=some (.struct fs)/\fs[f]?=some fd/\iA P fd.type=some false/\fd.offset=off:=by
 unfold II at h;split at h
 ·rename_i fs hu;split at h
  ·rename_i fd hf;split at h;·rename_i ha;injection h with h;exact⟨fs,fd,hu,hf,ha,h⟩
   ·cases h
  ·cases h
 ·cases h
theorem xF{P:Program}{d:Option Tmp}{ty:TypeId}{pos:String}{af:Array Edge}{gd:Option (Nat×Bool)}{ev:Operand->V}(s f:Nat)(x:Operand){cs:List V}{v:V}{off:Nat}(hf:II P s f=some off)(hx:ev x= .agg cs)(hv:cs[off]?=some v):aA P ⟨d,.field s x f,ty,pos,af,gd⟩ ev v:= aA.same rfl fun w L ρ g hr=>by have h1:=hr x (by simp [Op.operands]);rw [hx]at h1;obtain⟨xs,e1,hl⟩:=h1.c9;obtain⟨fs,fd,q1,q2,q3,q4⟩:=BL hf;obtain⟨y,hy,hr',_⟩:=hl.get hv;rw [Array.getElem?_toList]at hy;refine⟨y,?_,hr'⟩;simp [execOp,e1,Instr.field,ax q1,q2,q4,asAgg,part,gM q3,hy]
section
variable {next:S->Prop}{Q:Exit->S->Prop}{s:S}{ch:List PanicEntry}{id:Nat}
end
section
variable {T:List TI}{P:Program}
end
theorem jy{tm:Nat->V}{σ:Nat->Option Ob}{nx:Nat}(id j:Nat){t:TypeId}{cs:List V}(e sz:Nat)(row:Nat->List V)(h:σ id=some (.box t cs))(hj:cs[j]?=some .nil)(hid:decide (id< nx*100000)=true)(hjl:decide (j< 100000)=true) : Le ⟨tm,σ,nx⟩ ⟨tm,bU (bU σ (nx*100000+j) (some (.row e sz 0 row))) id (some (.box t (cs.set j (.own (nx*100000+j))))),nx+1⟩:=by
 intro P N C a w ⟨L,ρ,g⟩;have hjl:=of_decide_eq_true hjl;have hid:=of_decide_eq_true hid;have hn:ρ (nx*100000+j)=none:=g.fr _ (Nat.le_add_right _ _);obtain⟨hG,ex⟩:=g.g.put (w':=w) (σ1:=σ) (ρ':=bU ρ (nx*100000+j) (some (.slice none 0 0))) (World.grownBy.refl w none) (by simp) (nx*100000+j) _ (.row e sz 0 row) (fun i o hi ho=>⟨ho,by simp⟩) (fun i hi=>ak _ _ hi) (av _ _ _) (.inl hn) (fun k hk=>by simp [blk]at hk)
  (fun ex=>⟨_,[],av _ _ _,World.ownsRow_nil _ _ _ _,fun i hi=>by omega,by simp [aF];exact .nil,fun k hk=>by simp [blk]at hk⟩)
 obtain⟨ρ1,hρ1⟩:∃ρ1,ρ1=bU ρ (nx*100000+j) (some (.slice none 0 0)):=⟨_,rfl⟩;rw [<-hρ1]at hG ex;have hne:id≠nx*100000+j:=by omega
 have h1:bU σ (nx*100000+j) (some (.row e sz 0 row)) id=some (.box t cs):=by rw [ak _ _ hne];exact h
 obtain⟨b,xs,q1,q2,q3,q4,q5⟩:=hG.ob id _ h1;have hch:∀k,some b=some k->C.W k/\¬L k:=by rintro k hk;injection hk with hk;subst hk;exact⟨q2,q3⟩
 have hjx:j< xs.toList.length:=by rw [<-q5.1];exact(List.getElem?_eq_some_iff.1 hj).1
 have hxj:xs.toList[j]?=some (.slice none 0 0):=by have e1:xs.toList[j]?=some xs.toList[j]:=List.getElem?_eq_getElem hjx;have:=(q5.2 j _ _ hj e1).1;rw [e1];generalize xs.toList[j]=q at this;cases this;rfl
 have hset:xs.toList.set j (.slice none 0 0)=xs.toList:=by
  apply List.ext_getElem?;intro i;rw [List.getElem?_set];by_cases hij:j=i;·subst hij;rw [if_pos rfl,if_pos hjx,hxj]
  ·rw [if_neg hij]
 obtain⟨hG2,ex2⟩:=hG.put (w':=w) (σ1:=bU σ (nx*100000+j) (some (.row e sz 0 row))) (ρ':=ρ1) (World.grownBy.refl w (some b)) hch id _ (.box t (cs.set j (.own (nx*100000+j)))) (fun i o hi ho=>⟨ho,fun z hz k hk hkz=>by
   injection hk with hk;subst hk;exact hG.sep i id z _ b hi (by rw [ho];simp) (by rw [h1];simp) hz q1 hkz rfl⟩) (fun _ _=>rfl) q1 (.inr q1) (fun k hk=> .inl (by simpa [blk]using hk)) (fun ex3=>
   ⟨b,xs,q1,q2,q3,q4,by have:=(q5.ext ex3).set j (u:= .own (nx*100000+j)) (x:= .slice none 0 0) (.own _ _ _ (by rw [hρ1,av]) rfl) rfl;rwa [hset]at this⟩)
 refine⟨L,ρ1,⟨hG2,fun i hi=> ?_,fun t'=>(g.tm t').ext ex,g.size,g.defers,fun i x hp=>ex.r i x (g.pin i x hp)⟩⟩;have hi':(nx+1)*100000<=i:=hi;rw [hρ1,ak _ _ oM];exact g.fr i (Nat.le_trans (Nat.mul_le_mul_right _ (Nat.le_succ nx)) hi')
inductive PQ where
  |tt
  |le (a b:Int)
  |lt (a b:Int)
  |nle (a b:Nat)
  |nlt (a b:Nat)
  |ne (a b:Int)
  |re (v:V)
  |and (p q:PQ)
def PQ.den:PQ->Prop
 | .tt=>True
 | .le a b=>a<=b
 | .lt a b=>a< b
 | .nle a b=>a<=b
 | .nlt a b=>a< b
 | .ne a b=>a≠b
 | .re v=>v=v
 | .and p q=>p.den/\q.den
def PQ.dec:PQ->Bool
 | .tt=>true
 | .le a b=>decide (a<=b)
 | .lt a b=>decide (a< b)
 | .nle a b=>Nat.ble a b
 | .nlt a b=>Nat.blt a b
 | .ne a b=> !decide (a=b)
 | .re _=>true
 | .and p q=>match p.dec with
  |true=>q.dec
  |false=>false
theorem PQ.ok:∀ {p:PQ},p.dec=true->p.den
 | .tt,_=>trivial
 | .le a b,h=>of_decide_eq_true (p:=a<=b) h
 | .lt a b,h=>of_decide_eq_true (p:=a< b) h
 | .nle a b,h=>Nat.le_of_ble_eq_true h
 | .nlt a b,h=>Nat.le_of_ble_eq_true (n:=a+1) h
 | .ne a b,h=>by simp only [PQ.dec,Bool.not_eq_true',decide_eq_false_iff_not]at h;exact h
 | .re _,_=>rfl
 | .and p q,h=>by
  simp only [PQ.dec]at h;split at h;·rename_i hp;exact⟨PQ.ok hp,PQ.ok h⟩
  ·cases h
def ze(k:IntKind)(n:Int):PQ:=match k with
 | .i8=> .and (.le (-128) n) (.le n 127)
 | .i16=> .and (.le (-32768) n) (.le n 32767)
 | .i32=> .and (.le (-2147483648) n) (.le n 2147483647)
 | .i64=> .and (.le (-9223372036854775808) n) (.le n 9223372036854775807)
 | .u8=> .and (.le 0 n) (.le n 255)
 | .u16=> .and (.le 0 n) (.le n 65535)
 | .u32=> .and (.le 0 n) (.le n 4294967295)
 | .u64=> .and (.le 0 n) (.le n 18446744073709551615)
def HA(i:Int)(n:Nat):PQ:= .and (.le 0 i) (.lt i n)
def IE(e:Operand->V)(lo hi:Option Operand)(n:Nat)(z:Bool):PQ:=match kz e lo,iO e n hi with
 |some l,some h=> .and (.le 0 l) (.and (.le l h) (match z with |true=> .and (.le h n) (.nlt 0 n) |false=> .le h n))
 |_,_=> .tt
def Hz(g:Bool):V->List (Bool×Bool)
 | .gd g' _=>[(g',g)]
 |_=>[]
def B9(l:List (Bool×Bool)):Prop:=∀p∈l,p.1=p.2
theorem B9.l{a b:List (Bool×Bool)}(h:B9 (a++b)):B9 a:=fun p hp=>h p (List.mem_append_left _ hp)
theorem B9.r{a b:List (Bool×Bool)}(h:B9 (a++b)):B9 b:=fun p hp=>h p (List.mem_append_right _ hp)
theorem Gi{g g':Bool}{v:V}(h:B9 (Hz g (.gd g' v))):g'=g:=h (g',g) (List.mem_cons_self ..)
theorem s9{t b:Bool}{v:V}(h:B9 (Hz (t == b) v)):dY t b v:=by cases v <;> first |trivial | (intro hg;exact(Gi h).trans (by rw [hg];simp))
inductive It(P:Program) where
  |c (p:Prop) (h:p)
  |g (g:Bool) (p:Prop) (h:g=true->p)
  |d
  |w
  |wc (p:Prop) (h:p)
  |q (p:Prop) (h:p)
  |f
  |cl (f:FuncId) (args:List V) (v:V) (h:AC P f args v [])
  |clg (g:Bool) (f:FuncId) (args:List V) (v:V) (h:g=true->AC P f args v [])
  |clo (f:FuncId) (args:List V) (v:V) (obs:List Ob) (h:AC P f args v obs)
inductive CE where
  |p (p:Prop)
  |b (b:Bool)
  |a (f:FuncId) (args:List V)
  |vs (l:List V)
  |n (f:Nat->List CE)
  |ys (f:Nat->Option (List (List V)))
inductive Fr where
  |c (y:Code)
  |b (id:Nat)
  |l (y:Code) (m:Nat)
  |s
inductive HN where
  |code (c:Code) (k:List Fr) (s:S)
  |ops (ol:List Oper) (dr:Bool) (rest:List Oper) (tm:Nat->V) (σ:Nat->Option Ob) (nx:Nat) (ks:List (List Nat×List Nat)) (k:List Fr)
  |done (e:Exit) (k:List Fr) (s:S)
structure Pm where
  T:List TI
  N:Nat
  M:List Nat
  u:Nat
  lit:Bool
structure Nx(P:Program) where
  n:Nat
  l:List (Nat×It P)
  g:HN
  e:List (CE×CE)
def Iv:List (Bool×Bool)->List (CE×CE)
 | []=>[]
 | (a,b)::l=>(.b a,.b b)::Iv l
def gP(l:List (CE×CE)):Prop:=∀p∈l,p.1=p.2
theorem gP.l{a b:List (CE×CE)}(h:gP (a++b)):gP a:=fun p hp=>h p (List.mem_append_left _ hp)
theorem gP.r{a b:List (CE×CE)}(h:gP (a++b)):gP b:=fun p hp=>h p (List.mem_append_right _ hp)
theorem gP.hd{x y:CE}{l:List (CE×CE)}(h:gP ((x,y)::l)):x=y:=h (x,y) (List.mem_cons_self ..)
theorem gP.tl{x:CE×CE}{l:List (CE×CE)}(h:gP (x::l)):gP l:=fun p hp=>h p (List.mem_cons_of_mem _ hp)
theorem gP.ps:∀ {l:List (Bool×Bool)},gP (Iv l)->B9 l
 | [],_=>fun p hp=>by cases hp
 | (a,b)::l,h=>fun p hp=>by
  rcases List.mem_cons.1 hp with rfl |hp;·have:=h.hd;injection this
  ·exact gP.ps h.tl p hp
def wA(e:Operand->V)(o:Oper):Option (FuncId×List V):=match o.op with
 | .call c=>match c.callee with
  | .value fo=>match e fo with
   | .fn (.func f) first caps=>some (f,first++c.args.toList.map e++caps)
   |_=>none
  |_=>none
 |_=>none
section
variable {P:Program}(pm:Pm) (n:Nat) (l:List (Nat×It P)) (ol:List Oper) (dr:Bool) (o:Oper) (os:List Oper) (tm:Nat->V) (σ:Nat->Option Ob) (nx:Nat) (ks:List (List Nat×List Nat)) (k:List Fr)
end
section
variable {P:Program}{N:Nat}(C:Cx P N) (Q:Exit->S->Prop)
end
abbrev KT:Type:=List Oper->Bool->Nat->List Fr->(Nat->V)->(Nat->Option Ob)->List (List Nat×List Nat)->Prop
section
variable {P:Program}{N:Nat}{C:Cx P N}{Q:Exit->S->Prop}{KK:KT}{R:HN->Prop}{pm:Pm}{n:Nat}{l:List (Nat×It P)}
section
variable {ol:List Oper}{dr:Bool}{o:Oper}{os:List Oper}{tm:Nat->V}{σ:Nat->Option Ob}{nx:Nat}{ks:List (List Nat×List Nat)}{k:List Fr}{r:Nx P}
theorem bq.mono{ops:Array Oper}{K K':(Nat->V)->(Nat->Option Ob)->List (List Nat×List Nat)->Prop}:∀ {os:List Oper}{tm:Nat->V}{σ:Nat->Option Ob}{ks:List (List Nat×List Nat)},bq C ops nx os tm σ ks K->(∀a b c,K a b c->K' a b c)->bq C ops nx os tm σ ks K'
 | [],_,_,_,h,hk=>hk _ _ _ h
 |_::_,_,_,_,⟨e,h1,h2⟩,hk=>⟨e,h1,bq.mono h2 hk⟩
theorem uX{e:Operand->V}{f:FuncId}{as0:List V}(h:wA e o=some (f,as0)):∃d fo ar ats ty pos af gd first caps,o=⟨d,.call {callee:= .value fo,args:=ar,argTypes:=ats},ty,pos,af,gd⟩/\e fo= .fn (.func f) first caps/\first++ar.toList.map e++caps=as0:=by
 obtain⟨d,op,ty,pos,af,gd⟩:=o;unfold wA at h;simp only at h;split at h
 ·rename_i c;obtain⟨callee,args,ats⟩:=c;simp only at h;split at h
  ·rename_i fo;split at h
   ·rename_i f' first caps hf
    injection h with h;injection h with h1 h2;subst h1;exact⟨d,fo,args,ats,ty,pos,af,gd,first,caps,rfl,hf,h2⟩
   ·cases h
  ·cases h
 ·cases h
end
theorem ve:∀ {l:List (CE×CE)},l.map Prod.fst=l.map Prod.snd->gP l
 | [],_=>fun p hp=>by cases hp
 |x::l,h=>by
  simp only [List.map_cons,List.cons.injEq]at h;intro p hp;rcases List.mem_cons.1 hp with rfl |hp;·exact h.1
  ·exact ve h.2 p hp
end
def tl:Nat->Code->Code
 |0,c=>c
 |j+1,.seq _ y=>tl j y
 |_+1,c=>c
section
variable {P:Program}{N:Nat}{C:Cx P N}{T:List TI}{Q:Exit->S->Prop}{c:Code}{tm:Nat->V}{σ:Nat->Option Ob}{nx:Nat}
end
def ja(v:V)(i:Nat):Option SR:=match v with
 | .tup cs=>match cs[i]? with
  |some v=>some (aH True v)
  |none=>none
 |_=>none
def C6(T:List TI)(wr:Bool)(op:BinOp)(t:Nat)(u v:V):Option SR:=match xZ wr op u v with
 |some (c,v)=>some (aH c v)
 |none=>CH T op t u v
def Jj(wr:Bool)(op:UnOp)(v:V):Option SR:=match op with
 | .not=>match v with
  | .c (.bool b)=>some (aH True (.b (!b)))
  |_=>none
 | .neg=>match v with
  | .c (.int k a)=>if wr then some (aH True (.c (.int k (k.wrap (0- a)))))else some (aH (ur k (-a)) (.c (.int k (-a))))
  |_=>none
 |_=>none
def Gn(T:List TI)(wr:Bool)(s t:Nat)(v:V):Option SR:=match v with
 | .c (.int _ a)=>match (T.getD t bw).kind with
  |some k=>if(T.getD s bw).some'=true then(if wr then some (aH True (.c (.int k (k.wrap a))))else some (aH (ur k a) (.c (.int k a))))else none
  |none=>none
 |_=>none
def AU(T:List TI)(s f:Nat)(v:V):Option SR:=match ((T.getD s bw).jQ[f]?).join with
 |some off=>match v with
  | .ptr cs=>some (aH True (.ptr (cs.drop off)))
  | .ref id o=>some (aH True (.ref id (o+off)))
  | .oel id sz i o=>some (aH True (.oel id sz i (o+off)))
  |_=>none
 |none=>none
def AV(T:List TI)(t:Nat)(σ:Nat->Option Ob)(u v:V):Option SR:=match v with
 | .c (.int _ i)=>kN T t σ u i
 |_=>none
def Ff(T:List TI)(M:List Nat)(nx:Nat)(d:Option Tmp)(e:Operand->V)(σ:Nat->Option Ob)(t:Nat)(x:Operand)(lo hi mx:Option Operand):Option SR:=match mx with
 |none=>ny T M nx d e σ t x lo hi
 |some _=>none
def Fa(T:List TI)(nx:Nat)(d:Option Tmp)(t:Nat):Option SR:=match (T.getD t bw).zero with
 |some zs=>some ⟨True,.ref (nx*100000+d.getD 0) 0,[],[nx*100000+d.getD 0],[(nx*100000+d.getD 0,some (.box t zs))]⟩
 |none=>none
def Ii(M:List Nat)(nx:Nat)(d:Option Tmp)(t:Nat)(v:V):Option SR:=match bQ v with
 |some us=>if M.contains (d.getD 0)then some ⟨True,.ref (nx*100000+d.getD 0) 0,[],[nx*100000+d.getD 0],[(nx*100000+d.getD 0,some (.box t us))]⟩
  else if V.aZ us=true then some (aH True (.ptr us))else none
 |none=>none
def Fb(T:List TI)(t:Nat)(parts:List (Nat×V)):Option SR:=match (T.getD t bw).zero,(T.getD t bw).pl with
 |some zs,some pl=>match fA (pl[·]?) zs parts with
  |some us=>some (aH True (.agg us))
  |none=>none
 |_,_=>none
def C7(T:List TI)(M:List Nat)(nx:Nat)(d:Option Tmp)(t n:Nat)(parts:List (Nat×V)):Option SR:=match (T.getD t bw).elem with
 |some el=>match (T.getD el bw).zero,(T.getD el bw).size with
  |some zs,some sz=>match fA (fun i=>some (i*sz,sz)) (m9 n zs) parts with
   |some cs=>if zs.length=sz/\0< sz/\n*sz<=4096/\cs.length=n*sz then(if M.contains (d.getD 0)then
    some ⟨True,.own (nx*100000+d.getD 0),[],[nx*100000+d.getD 0],[(nx*100000+d.getD 0,some (.row el sz n fun i=>(cs.drop (i*sz)).take sz))]⟩
    else if V.aZ cs=true then some (aH True (.sl sz n fun i=>(cs.drop (i*sz)).take sz))else none)else none
   |none=>none
  |_,_=>none
 |none=>none
def Gp(T:List TI)(nx:Nat)(d:Option Tmp)(t:Nat)(u v:V):Option SR:=match u,v with
 | .c (.int _ l),.c (.int _ c)=>match (T.getD t bw).elem with
  |some el=>match (T.getD el bw).zero,(T.getD el bw).size with
   |some zs,some sz=>if kf T el sz zs then some ⟨0<=l/\l<=c/\c<=1099511627776,.own (nx*100000+d.getD 0),[],[nx*100000+d.getD 0],[(nx*100000+d.getD 0,some (.row el sz l.toNat fun _=>zs))]⟩else none
   |_,_=>none
  |none=>none
 |_,_=>none
def Ij(T:List TI)(σ:Nat->Option Ob)(e:Operand->V)(c:Call):Option SR:=match c.args,c.argTypes with
 | ⟨[x]⟩,⟨[t]⟩=>wN T t σ (e x)
 |_,_=>none
def Ih(T:List TI)(nx:Nat)(d:Option Tmp)(ty:Nat)(σ:Nat->Option Ob)(e:Operand->V)(c:Call):Option SR:=match c.args,c.argTypes with
 | ⟨[s,x]⟩,⟨[t,t']⟩=>match kG T t (nx*100000+d.getD 0) σ (e s) (e x)with
  |some r=>if t'=t/\ty=t then some r else none
  |none=>none
 |_,_=>none
def Ik(e:Operand->V)(c:Call):Option SR:=match c.args with
 | ⟨[x,y]⟩=>match e x,e y with
  | .c (.int k a),.c (.int k' b)=>if k=k' then some (aH True (.c (.int k (max a b))))else none
  |_,_=>none
 | ⟨[x,y,z]⟩=>match e x,e y,e z with
  | .c (.int k a),.c (.int k' b),.c (.int k'' q)=>if k=k'/\k=k'' then some (aH True (.c (.int k (max (max a b) q))))else none
  |_,_,_=>none
 | ⟨[x,y,z,u]⟩=>match e x,e y,e z,e u with
  | .c (.int k a),.c (.int k' b),.c (.int k'' q),.c (.int k3 p)=>if k=k'/\k=k''/\k=k3 then some (aH True (.c (.int k (max (max (max a b) q) p))))else none
  |_,_,_,_=>none
 |_=>none
def Il(e:Operand->V)(c:Call):Option SR:=match c.args with
 | ⟨[x,y]⟩=>match e x,e y with
  | .c (.int k a),.c (.int k' b)=>if k=k' then some (aH True (.c (.int k (min a b))))else none
  |_,_=>none
 |_=>none
def Gl(T:List TI)(nx:Nat)(d:Option Tmp)(ty:Nat)(σ:Nat->Option Ob)(e:Operand->V)(c:Call):Option SR:=match c.callee with
 | .builtin .len=>Ij T σ e c
 | .builtin .append=>Ih T nx d ty σ e c
 | .builtin .max=>Ik e c
 | .builtin .min=>Il e c
 |_=>none
def vq(T:List TI)(wr:Bool)(M:List Nat)(nx:Nat)(o:Oper)(e:Operand->V)(σ:Nat->Option Ob):Option SR:=
 match o.op with
  | .move x=>some (aH True (e x))
  | .assign x=>some (aH True (e x))
  | .extract x i=>ja (e x) i
  | .binOp op t x y _=>C6 T wr op t (e x) (e y)
  | .unOp op _ x=>Jj wr op (e x)
  | .convert s t x=>Gn T wr s t (e x)
  | .fieldAddr s x f=>AU T s f (e x)
  | .indexAddr t x ix=>AV T t σ (e x) (e ix)
  | .load t x=>jb T t σ (e x)
  | .store t x y=>fY T t σ (e x) (e y)
  | .slice t x lo hi mx=>Ff T M nx o.dst e σ t x lo hi mx
  | .alloc t=>Fa T nx o.dst t
  | .box t y=>Ii M nx o.dst t (e y)
  | .build t parts=>Fb T t (parts.toList.map fun p=>(p.1,e p.2))
  | .buildSlice t n parts=>C7 T M nx o.dst t n (parts.toList.map fun p=>(p.1,e p.2))
  | .makeSlice t x y=>Gp T nx o.dst t (e x) (e y)
  | .makeFunc f first caps=>some (aH True (.fn f (first.toList.map e) (caps.toList.map e)))
  | .call c=>Gl T nx o.dst o.type σ e c
  |_=>none
theorem yx(T:List TI)(wr:Bool)(M:List Nat)(nx:Nat)(o:Oper)(e:Operand->V)(σ:Nat->Option Ob):vq T wr M nx o e σ=wq T wr M nx o e σ:=by
 obtain⟨d,op,ty,pos,af,gd⟩:=o;cases op <;> try rfl
 case unOp op t x=>cases op <;> rfl
def Gk(T:List TI)(t:Nat)(u v:V):Option SR:=match u,v with
 | .agg cs,.c (.int _ i)=>match (T.getD t bw).arr with
  |some (n,el)=>match (T.getD el bw).size with
   |some sz=>match fU T el (cs.drop (i.toNat*sz))with
    |some v=>some (aH (0<=i/\i< n) v)
    |none=>none
   |none=>none
  |none=>none
 |_,_=>none
def C3(T:List TI)(t:Nat)(parts:List (Nat×V)):Option SR:=match (T.getD t bw).zero,(T.getD t bw).arr with
 |some zs,some (_,el)=>match (T.getD el bw).size with
  |some sz=>match fA (fun i=>some (i*sz,sz)) zs parts with
   |some us=>some (aH True (.agg us))
   |none=>none
  |none=>none
 |_,_=>none
def C5(T:List TI)(t:Nat)(v:V)(lo hi mx:Option Operand):Option SR:=match lo,hi,mx with
 |none,none,none=>match v,(T.getD t bw).arr with
  | .ptr cs,some (n,el)=>match (T.getD el bw).size with
   |some sz=>if cs.length=n*sz then some (aH True (.sl sz n fun i=>(cs.drop (i*sz)).take sz))else none
   |none=>none
  |_,_=>none
 |_,_,_=>none
def E9(T:List TI)(σ:Nat->Option Ob)(e:Operand->V)(c:Call):Option SR:=match c.args,c.argTypes with
 | ⟨[x,y]⟩,⟨[t,_]⟩=>match (T.getD t bw).elem with
  |some el=>if(T.getD el bw).size=some 1 then(match e x,e y with
   | .own id,.sl sz m row'=>match σ id with
    |some (.row e' sz' n row)=>if sz=1/\sz'=1 then some ⟨0< n/\0< m,.i ((min m n:Nat):Int),[(id,.row e' sz' n row)],[],[(id,some (.row e' sz' n fun j=>if j< min m n then row' j else row j))]⟩else none
    |_=>none
   |_,_=>none)else none
  |none=>none
 |_,_=>none
def Ie(T:List TI)(t:Nat)(u v:V):Option SR:=match u,v with
 | .c (.bool a),.c (.bool b)=>if(T.getD t bw).o4=some 1000000 then some (aH True (.b (a == b)))else none
 | .c (.string a),.c (.string b)=>some (aH True (.b (a.toList == b.toList)))
 |u,.c (.pointer none)=>match lZ u with
  |some b=>if(T.getD t bw).o4=some 1000002 then some (aH True (.b b))else none
  |none=>none
 |_,_=>match (T.getD t bw).elem with
  |some _=>match yG u v with
   |some (c,b)=>some (aH c (.b (b)))
   |none=>none
  |none=>none
def Ig(T:List TI)(t:Nat)(u v:V):Option SR:=match u,v with
 | .c (.bool a),.c (.bool b)=>if(T.getD t bw).o4=some 1000000 then some (aH True (.b (!(a == b))))else none
 | .c (.string a),.c (.string b)=>some (aH True (.b (!(a.toList == b.toList))))
 |u,.c (.pointer none)=>match lZ u with
  |some b=>if(T.getD t bw).o4=some 1000002 then some (aH True (.b (!b)))else none
  |none=>none
 |_,_=>match (T.getD t bw).elem with
  |some _=>match yG u v with
   |some (c,b)=>some (aH c (.b (!b)))
   |none=>none
  |none=>none
def Gj(T:List TI)(op:BinOp)(t:Nat)(u v:V):Option SR:=match op with
 | .eql=>Ie T t u v
 | .neq=>Ig T t u v
 |_=>none
def E8(T:List TI)(σ:Nat->Option Ob)(e:Operand->V)(c:Call):Option SR:=match c.callee with
 | .builtin .copy=>E9 T σ e c
 |_=>none
def mI(v:V):Option SR:=match v.qg with
 |true=>some (aH True v)
 |false=>none
def ru(T:List TI)(o:Oper)(e:Operand->V)(σ:Nat->Option Ob):Option SR:=
 match o.op with
  | .index t x ix=>Gk T t (e x) (e ix)
  | .build t parts=>C3 T t (parts.toList.map fun p=>(p.1,e p.2))
  | .slice t x lo hi mx=>C5 T t (e x) lo hi mx
  | .call c=>E8 T σ e c
  | .nilCheck x=>mI (e x)
  | .binOp op t x y _=>Gj T op t (e x) (e y)
  |_=>none
theorem yy(T:List TI)(o:Oper)(e:Operand->V)(σ:Nat->Option Ob):ru T o e σ=qI T o e σ:=by
 obtain⟨d,op,ty,pos,af,gd⟩:=o;cases op <;> try rfl
 case binOp op t x y t'=>cases op <;> rfl
 case slice t x lo hi mx=>cases lo <;> cases hi <;> cases mx <;> rfl
 case nilCheck x=>
  show mI (e x)=if(e x).qg=true then some (aH True (e x))else none
  unfold mI
  cases (e x).qg <;> rfl
def mK(T:List TI)(wr:Bool)(M:List Nat)(nx:Nat)(o:Oper)(e:Operand->V)(σ:Nat->Option Ob):Option SR:=
 match vq T wr M nx o e σ with
  |some r=>some r
  |none=>match ru T o e σ with
   |some r=>some r
   |none=>match qK T nx o e σ with
    |some r=>some r
    |none=>qM T o e
theorem A0(T:List TI)(wr:Bool)(M:List Nat)(nx:Nat)(o:Oper)(e:Operand->V)(σ:Nat->Option Ob):mK T wr M nx o e σ=lC T wr M nx o e σ:=by unfold mK lC;rw [yx,yy];rfl
def Jk(wr:Bool)(op:BinOp)(k:IntKind)(a b:Int):PQ:=match op with
 | .add=>match wr with |true=> .tt |false=>ze k (a+b)
 | .sub=>match wr with |true=> .tt |false=>ze k (a- b)
 | .mul=>match wr with |true=> .tt |false=>ze k (a*b)
 | .quo=>match wr with |true=> .ne b 0 |false=> .and (.lt 0 b) (ze k a)
 | .rem=> .ne b 0
 | .shl=>match wr with |true=> .le 0 b |false=> .and (.le 0 b) (.and (.le b k.bits) (ze k (a*2 ^ b.toNat)))
 | .shr=> .le 0 b
 |_=> .tt
def Iy(wr:Bool)(op:BinOp)(u v:V):PQ:=match u,v with
 | .c (.int k a),.c (.int _ b)=>Jk wr op k a b
 | .sl _ n _,.nil=> .nlt 0 n
 | .nil,.sl _ n _=> .nlt 0 n
 |_,_=> .tt
def IA(wr:Bool)(v:V):PQ:=match v with
 | .c (.int k a)=>match wr with |true=> .tt |false=>ze k (-a)
 |_=> .tt
def GF(T:List TI)(wr:Bool)(t:Nat)(v:V):PQ:=match v with
 | .c (.int _ a)=>match (T.getD t bw).kind with
  |some k=>match wr with |true=> .tt |false=>ze k a
  |none=> .tt
 |_=> .tt
def yO(T:List TI)(t:Nat)(i:Int):PQ:=match (T.getD t bw).arr with
 |some (n,_)=>HA i n
 |none=> .tt
def Dl(T:List TI)(t:Nat)(σ:Nat->Option Ob)(u v:V):PQ:=match v with
 | .c (.int _ i)=>match u with
  | .sl _ n _=>HA i n
  | .own id=>match σ id with
   |some (.row _ _ n _)=>HA i n
   |_=> .tt
  |_=>yO T t i
 |_=> .tt
def Iz(T:List TI)(t:Nat)(u v:V):PQ:=match v with
 | .c (.int _ i)=>match u with
  | .c (.string b)=>HA i b.size
  |_=>yO T t i
 |_=> .tt
def wZ(σ:Nat->Option Ob)(v:V):PQ:=match v with
 | .ref id o=>match σ id with
  |some (.box _ cs)=> .nle o cs.length
  |_=> .tt
 | .oel id _ i o=>match σ id with
  |some (.row _ _ n row)=> .and (.nlt i n) (.nle o (row i).length)
  |_=> .tt
 |_=> .tt
def rF(σ:Nat->Option Ob)(u v:V):PQ:=match bQ v with
 |some us=>match u with
  | .ref id o=>match σ id with
   |some (.box _ cs)=> .nle (o+us.length) cs.length
   |_=> .tt
  | .oel id _ i o=>match σ id with
   |some (.row _ _ n row)=> .and (.nlt i n) (.nle (o+us.length) (row i).length)
   |_=> .tt
  |_=> .tt
 |none=> .tt
def Fu(σ:Nat->Option Ob)(e:Operand->V)(v:V)(lo hi:Option Operand):PQ:=match v with
 | .sl _ n _=>IE e lo hi n false
 | .own id=>match σ id with
  |some (.row _ _ n _)=>IE e lo hi n true
  |_=> .tt
 | .c (.string b)=>IE e lo hi b.size false
 |_=> .tt
def GI(u v:V):PQ:=match u,v with
 | .c (.int _ l),.c (.int _ c)=> .and (.le 0 l) (.and (.le l c) (.le c 1099511627776))
 |_,_=> .tt
def Iw(σ:Nat->Option Ob)(e:Operand->V)(c:Call):PQ:=match c.args with
 | ⟨[s,x]⟩=>match e x with
  | .sl _ m _=>match e s with
   | .nil=> .nle m 1099511627776
   | .own id=>match σ id with
    |some (.row _ _ n _)=> .nle (n+m) 1099511627776
    |_=> .tt
   |_=> .tt
  | .own id1=>match σ id1 with
   |some (.row _ _ m _)=>match e s with
    | .nil=> .nle m 1099511627776
    | .own id=>match σ id with
     |some (.row _ _ n _)=> .nle (n+m) 1099511627776
     |_=> .tt
    |_=> .tt
   |_=> .tt
  |_=> .tt
 |_=> .tt
def GG(σ:Nat->Option Ob)(e:Operand->V)(c:Call):PQ:=match c.args with
 | ⟨[x,y]⟩=>match e x,e y with
  | .own id,.sl _ m _=>match σ id with
   |some (.row _ _ n _)=> .and (.nlt 0 n) (.nlt 0 m)
   |_=> .tt
  |_,_=> .tt
 |_=> .tt
def GD(σ:Nat->Option Ob)(e:Operand->V)(c:Call):PQ:=match c.callee with
 | .builtin .append=>Iw σ e c
 | .builtin .copy=>GG σ e c
 |_=> .tt
def GH(T:List TI)(t:Nat)(σ:Nat->Option Ob)(u v:V):PQ:=match mL T t,u,yE v with
 |some (_,et),.own id,some key=>match σ id with
  |some (.mp _ f)=>match BS T et with
   |some vz=>match (T.getD et bw).kind with
    |some _=> .re (Bc f key vz)
    |none=> .tt
   |none=> .tt
  |_=> .tt
 |_,_,_=> .tt
def w5(T:List TI)(wr:Bool)(o:Oper)(e:Operand->V)(σ:Nat->Option Ob):PQ:=
 match o.op with
  | .binOp op _ x y _=>Iy wr op (e x) (e y)
  | .unOp .neg _ x=>IA wr (e x)
  | .convert _ t x=>GF T wr t (e x)
  | .indexAddr t x ix=>Dl T t σ (e x) (e ix)
  | .index t x ix=>Iz T t (e x) (e ix)
  | .load _ x=>wZ σ (e x)
  | .store _ x y=>rF σ (e x) (e y)
  | .slice _ x lo hi none=>Fu σ e (e x) lo hi
  | .makeSlice _ x y=>GI (e x) (e y)
  | .lookup t m k _=>GH T t σ (e m) (e k)
  | .call c=>GD σ e c
  |_=> .tt
end Go.Ab
