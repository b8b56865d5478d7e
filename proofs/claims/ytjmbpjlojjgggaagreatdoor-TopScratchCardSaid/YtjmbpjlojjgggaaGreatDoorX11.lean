/-
  Several texts in one: Ways back and circles among the edges of a search, in plain Lean. Conditions: told in each theorem. .. Plating shops of many plates: the line of a plate. Walks. Conditions: told in each theorem.
-/
import Derived.Test.YtjmbpjlojjgggaaGreatDoorX10
import Derived.Test.YtjmbpjlojjgggaaGreatDoorAbs42
import Derived.Test.YtjmbpjlojjgggaaGreatDoorX00
import Derived.Test.YtjmbpjlojjgggaaGreatDoorX01
import Derived.Test.YtjmbpjlojjgggaaGreatDoorX02
import Derived.Test.YtjmbpjlojjgggaaGreatDoorX08
import Derived.Test.YtjmbpjlojjgggaaGreatDoorX05
set_option maxRecDepth 100000
namespace Go.Proofs.YtjmbpjlojjgggaaGreatDoor
open Go.Ab Go.RowKit Go.Dw Go.Shelf
structure E5 where
  r:Int
  a:Int
  f:Int
  t:Int
  w:Int
def E5.c(x:E5):List V:=[.i x.r,.i x.a,.i x.f,.i x.t,.i x.w]
def E5.of(e:BE):E5:=⟨e.rule,e.at',e.f,e.t,e.w⟩
def dy(b:Bl)(l:List Pt)(s:BS)(v:Nat):E5:=match s.la v with
 |none=>⟨1,v, -1,v,dI b l v⟩
 |some e=>E5.of e
theorem GC{b:Bl}{l:List Pt}{s:BS}{v:Nat}(h:s.la v=none):dy b l s v=⟨1,v, -1,v,dI b l v⟩:=by rw [dy,h]
theorem yd{b:Bl}{l:List Pt}{s:BS}{v:Nat}{e:BE}(h:s.la v=some e):dy b l s v=E5.of e:=by rw [dy,h]
def cJ(L:Nat->E5)(x:E5):Nat->E5
 |0=>x
 |t+1=>L (cJ L x t).f.toNat
theorem HY{b:Bl}{l:List Pt}{s:BS}{E:List BE}{i:Nat->Int}{k:Int}{j:Nat}(hE:wQ l.length E)(h:jB l.length E i k j s)(hs:∀e∈E,s.r e.t<=s.r e.f+e.w){x:E5}{v:Nat}(hv:v< l.length)(hx:x.f=v) : ∃T,T<=s.ti v+1/\(cJ (dy b l s) x T).f= -1/\∀t,t< T->∃u:Nat,(cJ (dy b l s) x t).f=u/\u< l.length:=by
 have key:∀n (x:E5) (v:Nat),s.ti v< n->v< l.length->x.f=v->∃T,T<=n/\(cJ (dy b l s) x T).f= -1/\∀t,t< T->∃u:Nat,(cJ (dy b l s) x t).f=u/\u< l.length:=by
  intro n;induction n with
  |zero=>intro x v h;omega
  |succ n ih=>
   intro x v hn hv hx;have sh:∀t,cJ (dy b l s) x (t+1)=cJ (dy b l s) (dy b l s v) t:=by
    intro t;induction t with
    |zero=>simp [cJ,hx]
    |succ t iht=>rw [cJ,iht,cJ]
   cases hl:s.la v with
   |none=>
    refine⟨1,by omega,by rw [sh 0,cJ,GC hl],fun t ht=> ?_⟩;obtain rfl:t=0:=by omega
    exact⟨v,hx,hv⟩
   |some e=>
    obtain⟨h1,h2⟩:=MY h hs hv hl;obtain⟨T,h5,h3,h4⟩:=ih (dy b l s v) e.f oM (hE e h1).1 (by rw [yd hl];rfl);refine⟨T+1,by omega,by rw [sh];exact h3,fun t ht=> ?_⟩;cases t with
    |zero=>exact⟨v,hx,hv⟩
    |succ t=>rw [sh];exact h4 t oM
 exact key (s.ti v+1) x v oM hv hx
theorem MU{k:Int}{E:List BE}{s:BS}:∀j,j<=E.length->(s.to k E j).clk<=s.clk+j:=fun j hj=> m6 (fun j s'=>s'.clk<=s.clk+j) (Nat.le_refl _) (fun j e s' _ h=>by
 unfold BS.step;split;·simp only;omega
 ·omega) j hj
theorem sG(E:List BE)(i:Nat->Int):∀k,(BS.rounds E i k).clk<=k*E.length
 |0=>by simp [BS.rounds,BS.init]
 |k+1=>by have h1:=sG E i k;have h2:=MU (k:=(k:Int)) (s:=(BS.rounds E i k).begin) (E:=E) E.length (Nat.le_refl _);rw [Nat.succ_mul];exact Nat.le_trans h2 (Nat.add_le_add_right h1 _)
theorem zX{b:Bl}{l:List Pt}{s:BS}{E:List BE}{i:Nat->Int}{k:Int}{j:Nat}(hE:wQ l.length E)(h:jB l.length E i k j s){v:Nat}(hv:v< l.length)(hk:s.lc v=k)(hn:(l.length:Int)< k) : (∀m,s.fY v m< l.length/\(dy b l s (s.fY v m)).f=(s.fY v (m+1):Nat))/\∃p,0< p/\s.fY (s.fY v l.length) p=s.fY v l.length/\p<=l.length/\∀q,0< q->q< p->s.fY (s.fY v l.length) q≠s.fY v l.length:=by
 obtain⟨p,h1,h2,h3⟩:=Dj hE h hv hk hn;refine⟨fun m=> ?_,?_⟩;·obtain⟨a,e,he,_,hu⟩:=h3 m;exact⟨a,by rw [yd he,hu];rfl⟩
 ·obtain⟨m,⟨g1,g2⟩,g3⟩:=least (fun p=>0< p/\s.fY (s.fY v l.length) p=s.fY v l.length) ⟨p,h1,h2⟩;refine⟨m,g1,g2,?_,fun q hq hqm he=>by have:=g3 q ⟨hq,he⟩;omega⟩;refine Classical.byContradiction fun hm=> ?_;obtain⟨a,c,hac,hc,he⟩:=AH l.length (fun q=>s.fY v (l.length+q)) fun q _=>(h3 _).1;simp only [gX s v]at he;have e1:s.fY (s.fY v l.length) (a+(m- c))=s.fY v l.length:=by rw [gX s _ a,he,<-gX,show c+(m- c)=m by omega];exact g2
  have:=g3 (a+(m- c)) ⟨by omega,e1⟩;omega
def ju(n i:Nat)(A:Nat->Int)(m:Nat):Int:=if m< i\/n< m+1+i then A (n- 1- m)else A m
theorem K2{n:Nat}{A:Nat->Int}{m:Nat}(h:m< n):ju n 0 A m=A m:=by unfold ju;rw [if_neg oM]
theorem qU(n:Nat)(A B:Nat->Int)(hn:n<=1099511627776):AM Tryz.prog 166 [.own 500] [.row 233 2 n (fun j=>[.i (A j),.i (B j)])] (.tup []) [some (.row 233 2 n (fun j=>[.i (A (n- 1- j)),.i (B (n- 1- j))]))] []:=by
  refine aG aj bX (fn:=Tryz.f166) (N:=_) ⟨Tryz.func166,rfl,Tryz.ntmps166,kR⟩ (by simp) rfl (by simp) (by simp) fun C hF=> ?_
  refine sK fun K hK=> ?_
  refine wR 2 ?_
  refine aY aj 5 [(2,.c (iR ((↑n:Int)- 1)) oM)] ?_
  refine aa ?_
  refine ai ?_
  refine hK _ ?_
  clear hK K
  refine az ?_
  refine dO (ι:=Nat) (fun i=>[(0,.own 500),(2,.i i),(3,.i ((n:Int)- 1- i))]) (fun i=>[(500,.row 233 2 n (fun j=>[.i (ju n i A j),.i (ju n i B j)]))]) (fun i=>2*i<=n+1) (fun i=>n- i) 0 oM ?_ ?_
  · refine aH (tl:=[(0,V.own (500:Nat)),(2,V.i (0:Int)),(3,V.i ((↑n:Int)- 1- (↑(0:Nat):Int)))]) (sl:=[(500,Ob.row (233:Nat) (2:Nat) n fun(j:Nat)=>[V.i (ju n (0:Nat) A j),V.i (ju n (0:Nat) B j)])]) [] (.cons kR (.cons kR (.cons ?_ .nil))) (.cons ⟨Ob.row (233:Nat) (2:Nat) n fun(j:Nat)=>[V.i (A j),V.i (B j)],kR,.row kR ?_⟩ .nil) kR kR
    · show V.i ((n:Int)- 1)=V.i ((n:Int)- 1- ((0:Nat):Int))
      simp
    intro m hm
    show _=[V.i (ju n 0 A m),V.i (ju n 0 B m)]
    rw [K2 hm,K2 hm]
  intro i hi
  refine sK fun K hK=> ?_
  refine sK fun K hK=> ?_
  refine wR 2 ?_
  refine aY aj 3 [] ?_
  refine aa ?_
  refine ai ?_
  refine hK _ ?_
  clear hK K
  refine ax (t:=decide ((↑i:Int)< (↑n:Int)- 1- (↑i:Int))) kR (fun c1=> ?_) (fun c1=> ?_)
  · simp at c1
    have e:((n:Int)- 1- i).toNat=n- 1- i:=by omega
    refine aq ?_
    refine ai ?_
    refine hK _ ?_
    clear hK K
    refine sK fun K hK=> ?_
    refine az ?_
    refine wD 3 ?_
    refine aY aj 16 [(6,.c ((0:Int)<=(↑n:Int)- 1- (↑i:Int)/\(↑n:Int)- 1- (↑i:Int)< (↑n:Int)) oM),(0,.c (Int.toNat ((↑n:Int)- 1- (↑i:Int))< n/\(0:Nat)<=(2:Nat)) oM),(2,.c ((0:Int)<=(↑i:Int)/\(↑i:Int)< (↑n:Int)) oM),(0,.c (i< n/\(0:Nat)<=(2:Nat)) oM),(0,.c ((0:Int)<=(↑i:Int)/\(↑i:Int)< (↑n:Int)) oM),(0,.c (i< n/\(0:Nat)+(2:Nat)<=(2:Nat)) oM),(0,.c ((0:Int)<=(↑n:Int)- 1- (↑i:Int)/\(↑n:Int)- 1- (↑i:Int)< (↑n:Int)) oM),(0,.c (Int.toNat ((↑n:Int)- 1- (↑i:Int))< n/\(0:Nat)+(2:Nat)<=List.length (if Int.toNat ((↑n:Int)- 1- (↑i:Int))=i then [V.i (ju n i A (Int.toNat ((↑n:Int)- 1- (↑i:Int)))),V.i (ju n i B (Int.toNat ((↑n:Int)- 1- (↑i:Int))))]else [V.i (ju n i A (Int.toNat ((↑n:Int)- 1- (↑i:Int)))),V.i (ju n i B (Int.toNat ((↑n:Int)- 1- (↑i:Int))))])) ⟨oM,?_⟩)] ?_
    · split <;> simp
    refine aa ⟨kR,?_⟩
    refine cn ?_
    refine ai ?_
    refine hK _ ?_
    clear hK K
    refine wR 4 ?_
    refine aY aj 6 [(1,.c (iR ((↑i:Int)+1)) oM),(1,.c (iR ((↑n:Int)- 1- (↑i:Int)- 1)) oM)] ?_
    refine aa ?_
    refine ai ?_
    refine⟨i+1,by omega,?_,by omega⟩
    refine aH (tl:=[(0,V.own (500:Nat)),(2,V.i (↑(i+1):Int)),(3,V.i ((↑n:Int)- 1- (↑(i+1):Int)))]) (sl:=[(500,Ob.row (233:Nat) (2:Nat) n fun(j:Nat)=>[V.i (ju n (i+1) A j),V.i (ju n (i+1) B j)])]) [] (.cons kR (.cons kR (.cons ?_ .nil))) (.cons ⟨Ob.row (233:Nat) (2:Nat) n fun(j:Nat)=>if j=Int.toNat ((↑n:Int)- 1- (↑i:Int))then V.i (ju n i A i)::V.i (ju n i B i)::List.append._f [] PUnit.unit (List.drop ((0:Nat)+(2:Nat)) (if Int.toNat ((↑n:Int)- 1- (↑i:Int))=i then [V.i (ju n i A (Int.toNat ((↑n:Int)- 1- (↑i:Int)))),V.i (ju n i B (Int.toNat ((↑n:Int)- 1- (↑i:Int))))]else [V.i (ju n i A (Int.toNat ((↑n:Int)- 1- (↑i:Int)))),V.i (ju n i B (Int.toNat ((↑n:Int)- 1- (↑i:Int))))]))else if j=i then [V.i (ju n i A (Int.toNat ((↑n:Int)- 1- (↑i:Int)))),V.i (ju n i B (Int.toNat ((↑n:Int)- 1- (↑i:Int))))]else [V.i (ju n i A j),V.i (ju n i B j)],kR,.row kR ?_⟩ .nil) kR kR
    · show V.i ((n:Int)- 1- i- 1)=V.i ((n:Int)- 1- ((i+1:Nat):Int))
      rw [show(n:Int)- 1- i- 1=(n:Int)- 1- ((i+1:Nat):Int) by omega]
    have hne:¬n- 1- i=i:=by omega
    have f1:∀A:Nat->Int,ju n i A i=A i:=fun A=>by unfold ju;rw [if_neg oM]
    have f2:∀A:Nat->Int,ju n i A (n- 1- i)=A (n- 1- i):=fun A=>by unfold ju;rw [if_neg oM]
    intro m hm
    rw [e,if_neg hne]
    show _=[V.i (ju n (i+1) A m),V.i (ju n (i+1) B m)]
    by_cases m1:m=n- 1- i
    · have f3:∀A:Nat->Int,ju n (i+1) A m=A i:=fun A=>by unfold ju;rw [if_pos oM,show n- 1- m=i by omega]
      rw [if_pos m1,f3,f3,f1,f1]
      rfl
    · rw [if_neg m1]
      by_cases m2:m=i
      · have f4:∀A:Nat->Int,ju n (i+1) A m=A (n- 1- i):=fun A=>by unfold ju;rw [if_pos oM,m2]
        rw [if_pos m2,f4,f4,f2,f2]
      · have f5:∀A:Nat->Int,ju n (i+1) A m=ju n i A m:=fun A=>by
          unfold ju
          by_cases h:m< i\/n< m+1+i
          · rw [if_pos h,if_pos oM]
          · rw [if_neg h,if_neg oM]
        rw [if_neg m2,f5,f5]
  · simp at c1
    refine bN ?_
    refine cO ?_
    refine cO ?_
    refine cg ?_
    refine cI (v':=V.tup []) [] [] (.inl rfl) .nil (.cons ⟨Ob.row (233:Nat) (2:Nat) n fun(j:Nat)=>[V.i (ju n i A j),V.i (ju n i B j)],kR,.row kR ?_⟩ .nil) kR kR kR kR kR kR kR
    intro m hm
    have e1:∀A:Nat->Int,ju n i A m=A (n- 1- m):=fun A=>by
      unfold ju
      by_cases h:m< i\/n< m+1+i
      · rw [if_pos h]
      · rw [if_neg h,show n- 1- m=m by omega]
    rw [e1,e1]
    rfl
abbrev vZ(n:Nat)(L:Nat->E5):Ob:= .row 235 5 n fun v=>[.i (L v).r,.i (L v).a,.i (L v).f,.i (L v).t,.i (L v).w]
theorem MX(n:Nat)(L:Nat->E5)(x:E5)(T:Nat)(h1:(cJ L x T).f= -1)(h2:∀t,t< T->∃u:Nat,(cJ L x t).f=u/\u< n)(hn:n<=4096)(hT:T<=1099511627775) : AM Tryz.prog 126 [.own 500,.agg [.i x.r,.i x.a,.i x.f,.i x.t,.i x.w]] [vZ n L] (.own 0) [none] [.row 233 2 (T+1) (fun j=>[.i (cJ L x (T- j)).r,.i (cJ L x (T- j)).a])]:=by
 refine aG aj bX (fn:=Tryz.f126) (N:=_) ⟨Tryz.func126,rfl,Tryz.ntmps126,kR⟩ (by simp) rfl (by simp) (by simp) fun C hF=> ?_;refine sK fun K hK=> ?_;refine wR 2 ?_;refine dU (M:=[3,8]) aj 2 [(0,.r (pn (3:Nat) (V.ref (100003:Nat) (0:Nat)) (100003:Nat) (Ob.box (235:Nat) [V.i (E5.r x),V.i (E5.a x),V.i (E5.f x),V.i (E5.t x),V.i (E5.w x)])))] tI ?_;refine aa ?_;refine ai ?_;refine hK _ ?_;clear hK K;refine sK fun K hK=> ?_;refine wR 3 ?_;refine dU (M:=[3,8]) aj 4 [(1,.c ((0:Nat)<=(5:Nat))),(2,.r (pn (8:Nat) (V.own (200008:Nat)) (200008:Nat) (Ob.row (233:Nat) (2:Nat) (1:Nat) fun(i:Nat)=>List.take (2:Nat) (List.drop (i*2) [V.i (E5.r x),V.i (E5.a x)]))))] ⟨oM,tI⟩ ?_;refine aa ?_;refine ai ?_;refine hK _ ?_;clear hK K;refine sK fun K hK=> ?_;refine az ?_;refine dO (ι:=Nat) (fun t=>[(0,.own 500),(3,.ref 3 0),(5,.own 5)]) (fun t=>[(500,vZ n L),(3,.box 235 [.i (cJ L x t).r,.i (cJ L x t).a,.i (cJ L x t).f,.i (cJ L x t).t,.i (cJ L x t).w]),(5,.row 233 2 (t+1) (fun j=>[.i (cJ L x j).r,.i (cJ L x j).a]))]) (fun t=>t<=T) (fun t=>T- t) 0 (Nat.zero_le _) ?_ ?_
 ·refine aH (tl:=[(0,V.own (500:Nat)),(3,V.ref (3:Nat) (0:Nat)),(5,V.own (5:Nat))]) (sl:=[(500,Ob.row (235:Nat) (5:Nat) n fun(v:Nat)=>[V.i (E5.r (L v)),V.i (E5.a (L v)),V.i (E5.f (L v)),V.i (E5.t (L v)),V.i (E5.w (L v))]),(3,Ob.box (235:Nat) [V.i (E5.r (cJ L x (0:Nat))),V.i (E5.a (cJ L x (0:Nat))),V.i (E5.f (cJ L x (0:Nat))),V.i (E5.t (cJ L x (0:Nat))),V.i (E5.w (cJ L x (0:Nat)))]),(5,Ob.row (233:Nat) (2:Nat) (1:Nat) fun(j:Nat)=>[V.i (E5.r (cJ L x j)),V.i (E5.a (cJ L x j))])]) [(3,100003),(5,200008)] (.cons kR (.cons kR (.cons kR .nil))) (.cons oS (.cons oS (.cons ⟨Ob.row (233:Nat) (2:Nat) (1:Nat) fun(i:Nat)=>List.take (2:Nat) (List.drop (i*2) [V.i (E5.r x),V.i (E5.a x)]),kR,.row kR ?_⟩ .nil))) kR kR;intro i hi;obtain rfl:i=0:=by omega
  rfl
 intro t ht;refine sK fun K hK=> ?_;refine sK fun K hK=> ?_;refine wR 2 ?_;refine aY aj 3 [(1,.c ((2:Nat)<=(5:Nat)) oM)] ?_;refine aa ?_;refine ai ?_;refine hK _ ?_;clear hK K;refine ax (t:= !decide (E5.f (cJ L x t)=(-1:Int))) kR (fun c1=> ?_) (fun c1=> ?_)
 ·simp at c1;have hlt:t< T:=by refine Classical.byContradiction fun hc=>c1 ?_;rw [show t=T by omega];exact h1
  obtain⟨u,hu,hun⟩:=h2 t hlt;have e:cJ L x (t+1)=L u:=by rw [cJ,hu];rfl
  rw [hu];refine aq ?_;refine ai ?_;refine hK _ ?_;clear hK K;refine az ?_;refine sK fun K hK=> ?_;refine wR 3 ?_;refine aY aj 6 [(2,.c ((2:Nat)<=(5:Nat)) oM),(0,.c ((0:Int)<=(↑u:Int)/\(↑u:Int)< (↑n:Int)) oM),(0,.c (u< n/\(0:Nat)<=(5:Nat)) oM),(0,.c ((0:Nat)+(5:Nat)<=(5:Nat)) oM)] ?_;refine aa ?_;refine ai ?_;refine hK _ ?_;clear hK K;refine wR 4 ?_;refine aX aj 6 [(2,.c ((0:Nat)<=(5:Nat))),(4,.r (PR.mk (some (21:Nat)) (some (t+1+(1:Nat)<=(1099511627776:Nat))) (V.own (300021:Nat)) [((5:Nat),none),((300021:Nat),some (Ob.row (233:Nat) (2:Nat) (t+1+(1:Nat)) (aF (t+1) (fun(j:Nat)=>[V.i (E5.r (cJ L x j)),V.i (E5.a (cJ L x j))]) fun(i:Nat)=>List.take (2:Nat) (List.drop (i*2) [V.i (E5.r (L u)),V.i (E5.a (L u))]))))] false))] ⟨oM,oM,tI⟩ ?_;refine aa ?_;refine cn ?_;refine ai ?_;refine⟨t+1,by omega,?_,by omega⟩;rw [e];refine aH (tl:=[(0,V.own (500:Nat)),(3,V.ref (3:Nat) (0:Nat)),(5,V.own (5:Nat))]) (sl:=[(500,Ob.row (235:Nat) (5:Nat) n fun(v:Nat)=>[V.i (E5.r (L v)),V.i (E5.a (L v)),V.i (E5.f (L v)),V.i (E5.t (L v)),V.i (E5.w (L v))]),(3,Ob.box (235:Nat) [V.i (E5.r (L u)),V.i (E5.a (L u)),V.i (E5.f (L u)),V.i (E5.t (L u)),V.i (E5.w (L u))]),(5,Ob.row (233:Nat) (2:Nat) (t+1+(1:Nat)) fun(j:Nat)=>[V.i (E5.r (cJ L x j)),V.i (E5.a (cJ L x j))])]) [(3,3),(5,300021)] (.cons kR (.cons kR (.cons kR .nil))) (.cons oS (.cons oS (.cons ⟨Ob.row (233:Nat) (2:Nat) (t+1+(1:Nat)) (aF (t+1) (fun(j:Nat)=>[V.i (E5.r (cJ L x j)),V.i (E5.a (cJ L x j))]) fun(i:Nat)=>List.take (2:Nat) (List.drop (i*2) [V.i (E5.r (L u)),V.i (E5.a (L u))])),kR,.row kR ?_⟩ .nil))) kR kR;intro i hi;show _=[V.i (cJ L x i).r,V.i (cJ L x i).a];by_cases h:i< t+1;·rw [aF,if_pos h]
  ·obtain rfl:i=t+1:=by omega
   rw [aF,if_neg h,Nat.sub_self,e];rfl
 ·simp at c1;obtain rfl:t=T:=by refine Classical.byContradiction fun hc=> ?_;obtain⟨u,hu,_⟩:=h2 t oM;omega
  refine bN ?_;refine cO ?_;refine cO ?_;refine cg ?_;refine ai ?_;clear hK K;refine hK _ ?_;clear hK K;refine sK fun K hK=> ?_;refine wR 3 ?_;refine au aj (M:=[]) (n:=1) [pv (22:Nat) (V.own (5:Nat))] kR kR tI ?_;refine eM [5] (qU (t+1) (fun j=>(cJ L x j).r) (fun j=>(cJ L x j).a) oM) (iW .nil) ?_;refine aa ?_;refine ai ?_;refine hK _ ?_;clear hK K;refine sK fun K hK=> ?_;refine wR 4 ?_;refine aY aj 2 [] ?_;refine aa ?_;refine ai ?_;refine hK _ ?_;clear hK K;refine av ?_;refine cI (v':=V.own (0:Nat)) [(0,5)] [(4,V.own (0:Nat))] (.inr rfl) (.cons kR .nil) (.cons oS .nil) kR kR kR kR kR kR kR
theorem NA{A B:Nat->Int}{t i:Nat}(h:i< t+1):aF t (fun j=>[V.i (A j),V.i (B j)]) (fun i=>List.take 2 (List.drop (i*2) [V.i (A t),V.i (B t)])) i=[V.i (A i),V.i (B i)]:=by
 unfold aF;by_cases h1:i< t;·rw [if_pos h1]
 ·obtain rfl:i=t:=by omega
  rw [if_neg h1,Nat.sub_self];rfl
theorem Di(n:Nat)(L:Nat->E5)(U:Nat->Nat)(p:Nat)(h1:∀m,U m< n/\(L (U m)).f=(U (m+1):Nat))(h2:0< p/\p<=n/\U (n+p)=U n/\∀q,0< q->q< p->U (n+q)≠U n)(hn:n<=4096) : AM Tryz.prog 125 [.own 500,.i (U 0)] [vZ n L] (.own 0) [none] [.row 233 2 p (fun j=>[.i (L (U (n+(p- 1- j)))).r,.i (L (U (n+(p- 1- j)))).a])]:=by
 refine aG aj bX (fn:=Tryz.f125) (N:=_) ⟨Tryz.func125,rfl,Tryz.ntmps125,kR⟩ (by simp) rfl (by simp) (by simp) fun C hF=> ?_;refine sK fun K hK=> ?_;refine wR 2 ?_;refine au aj (M:=[]) (n:=1) [pv (4:Nat) V.nil] kR kR tI ?_;refine aa ?_;refine ai ?_;refine hK _ ?_;clear hK K;refine sK fun K hK=> ?_;refine sK fun K hK=> ?_;refine wR 3 ?_;refine aY aj 3 [] ?_;refine aa ?_;refine ai ?_;refine hK _ ?_;clear hK K;refine az ?_;refine dO (ι:=Nat) (fun t=>[(0,.own 500),(1,.i (U t)),(8,.i n),(9,.i t)]) (fun t=>[(500,vZ n L)]) (fun t=>t<=n) (fun t=>n- t) 0 (Nat.zero_le _) ?_ ?_;·refine aH (sl:=[(500,Ob.row (235:Nat) (5:Nat) n fun(v:Nat)=>[V.i (E5.r (L v)),V.i (E5.a (L v)),V.i (E5.f (L v)),V.i (E5.t (L v)),V.i (E5.w (L v))])]) [] (.cons kR (.cons kR (.cons kR (.cons kR .nil)))) (.cons oS .nil) kR kR
 intro t ht;have ht1:=h1 t;refine sK fun K hK=> ?_;refine wR 2 ?_;refine aY aj 1 [] ?_;refine aa ?_;refine ai ?_;refine hK _ ?_;clear hK K;refine sK fun K hK=> ?_;refine ax (t:=decide ((↑t:Int)< (↑n:Int))) kR (fun c1=> ?_) (fun c1=> ?_);·simp at c1;refine aq ?_;refine ai ?_;refine hK _ ?_;clear hK K;refine sK fun K hK=> ?_;refine az ?_;refine wR 3 ?_;refine au aj (M:=[]) (n:=6) [pv (11:Nat) (V.own (500:Nat)),pv (12:Nat) (V.i (↑(U t):Int)),pc (13:Nat) ((0:Int)<=(↑(U t):Int)/\(↑(U t):Int)< (↑n:Int)) (V.oel (500:Nat) (5:Nat) (U t) (0:Nat)),pv (14:Nat) (V.oel (500:Nat) (5:Nat) (U t) (2:Nat)),pc (15:Nat) (U t< n/\(2:Nat)<=(5:Nat)) (V.i (E5.f (L (U t)))),pv (1:Nat) (V.i (E5.f (L (U t))))] kR kR ⟨oM,oM,tI⟩ ?_;refine aa ?_;refine cn ?_;refine ai ?_;refine hK _ ?_;clear hK K;refine ag (n':=4) kR kR ?_;refine au aj (M:=[]) (n:=2) [pc (16:Nat) ((-9223372036854775808:Int)<=(↑t:Int)+1/\(↑t:Int)+1<=(9223372036854775807:Int)) (V.i ((↑t:Int)+1)),pv (9:Nat) (V.i ((↑t:Int)+1))] kR kR ⟨oM,tI⟩ ?_;refine aa ?_;refine ai ?_;rw [ht1.2];refine⟨t+1,by omega,?_,by omega⟩;refine aH (sl:=[(500,Ob.row (235:Nat) (5:Nat) n fun(v:Nat)=>[V.i (E5.r (L v)),V.i (E5.a (L v)),V.i (E5.f (L v)),V.i (E5.t (L v)),V.i (E5.w (L v))])]) [] (.cons kR (.cons kR (.cons kR (.cons kR .nil)))) (.cons oS .nil) kR kR
 ·simp at c1;have etn:t=n:=by omega
  rw [etn];have hn0:=(h1 n).1;refine bN ?_;refine cO ?_;refine cO ?_;refine cg ?_;refine ai ?_;clear hK K;refine hK _ ?_;clear hK K;refine sK fun K hK=> ?_;refine wR 3 ?_;refine au aj (M:=[]) (n:=1) [pv (5:Nat) V.nil] kR kR tI ?_;refine aa ?_;refine ai ?_;refine hK _ ?_;clear hK K;refine sK fun K hK=> ?_;refine wR 4 ?_;refine aY aj 6 [(2,.c ((0:Int)<=(↑(U n):Int)/\(↑(U n):Int)< (↑n:Int)) oM),(0,.c (U n< n/\(0:Nat)<=(5:Nat)) oM),(1,.c ((0:Nat)+(5:Nat)<=(5:Nat)) oM)] ?_;refine aa ?_;refine ai ?_;refine hK _ ?_;clear hK K;refine az ?_;refine lG (qF 5 233 2 (fun j=>[.i (L (U (n+j))).r,.i (L (U (n+j))).a]) kR kR) ?_;refine dO (ι:=Nat) (fun t=>[(0,.own 500),(1,.i (U n)),(5,.own 5),(6,.ref 6 0)]) (fun t=>[(500,vZ n L),(6,.box 235 [.i (L (U (n+t))).r,.i (L (U (n+t))).a,.i (L (U (n+t))).f,.i (L (U (n+t))).t,.i (L (U (n+t))).w]),(5,.row 233 2 t (fun j=>[.i (L (U (n+j))).r,.i (L (U (n+j))).a]))]) (fun t=>t< p) (fun t=>p- t) 0 h2.1 ?_ ?_;·refine aH (sl:=[(500,Ob.row (235:Nat) (5:Nat) n fun(v:Nat)=>[V.i (E5.r (L v)),V.i (E5.a (L v)),V.i (E5.f (L v)),V.i (E5.t (L v)),V.i (E5.w (L v))]),(6,Ob.box (235:Nat) [V.i (E5.r (L (U (n+0)))),V.i (E5.a (L (U (n+0)))),V.i (E5.f (L (U (n+0)))),V.i (E5.t (L (U (n+0)))),V.i (E5.w (L (U (n+0))))]),(5,Ob.row (233:Nat) (2:Nat) (0:Nat) fun(j:Nat)=>[V.i (E5.r (L (U (n+j)))),V.i (E5.a (L (U (n+j))))])]) [(5,400005),(6,300006)] (.cons kR (.cons kR (.cons kR (.cons kR .nil)))) (.cons oS (.cons oS (.cons oS .nil))) kR kR
  intro t ht;have ht1:=h1 (n+t);have ht2:=h1 (n+t+1);rw [ht1.2];refine sK fun K hK=> ?_;refine az ?_;refine sK fun K hK=> ?_;refine wR 2 ?_;refine aX aj 6 [(2,.c ((0:Nat)<=(5:Nat))),(4,.r (PR.mk (some (30:Nat)) (some (t+1<=(1099511627776:Nat))) (V.own (100030:Nat)) [((5:Nat),none),((100030:Nat),some (Ob.row (233:Nat) (2:Nat) (t+1) (aF t (fun(j:Nat)=>[V.i (E5.r (L (U (n+j)))),V.i (E5.a (L (U (n+j))))]) fun(i:Nat)=>List.take (2:Nat) (List.drop (i*2) [V.i (E5.r (L (U (n+t)))),V.i (E5.a (L (U (n+t))))]))))] false))] ⟨oM,oM,tI⟩ ?_;refine aa ?_;refine ai ?_;refine hK _ ?_;clear hK K;refine sK fun K hK=> ?_;refine wR 3 ?_;refine aY aj 4 [(1,.c ((2:Nat)<=(5:Nat)) oM)] ?_;refine aa ?_;refine ai ?_;refine hK _ ?_;clear hK K;refine ax (t:=decide ((↑(U (n+t+1)):Int)=(↑(U n):Int))) kR (fun c2=> ?_) (fun c2=> ?_)
  ·have e:t+1=p:=by simp at c2;refine Classical.byContradiction fun hne=>h2.2.2.2 (t+1) oM oM ?_;rw [show n+(t+1)=n+t+1 by omega];omega
   refine sK fun K hK=> ?_;refine wR 4 ?_;refine aY aj 1 [] ?_;refine eW [100030] (first:=[]) (caps:=[]) (ins':=[Ob.row (233:Nat) (2:Nat) (t+1) (aF t (fun(j:Nat)=>[V.i (E5.r (L (U (n+j)))),V.i (E5.a (L (U (n+j))))]) fun(i:Nat)=>List.take (2:Nat) (List.drop (i*2) [V.i (E5.r (L (U (n+t)))),V.i (E5.a (L (U (n+t))))]))]) (v':=V.tup []) (δ:=[(100030,Option.some (Ob.row (233:Nat) (2:Nat) (t+1) fun(i:Nat)=>V.aS (aJ (3:Nat) (some 36) [(100030:Nat)]) [V.i (E5.r (L (U (n+(t+1- (1:Nat)- i))))),V.i (E5.a (L (U (n+(t+1- (1:Nat)- i)))))]))]) (kp:=[100030]) (qU (t+1) (fun j=>(L (U (n+j))).r) (fun j=>(L (U (n+j))).a) oM) kR kR kR kR kR kR rfl rfl kR (.row kR ?_ (fun _ _=>rfl) .nil) kR kR kR ?_;·intro i hi;exact NA (A:=fun j=>(L (U (n+j))).r) (B:=fun j=>(L (U (n+j))).a) hi
   refine aa ?_;refine ai ?_;refine hK _ ?_;clear hK K;refine sK fun K hK=> ?_;refine wR 5 ?_;refine aY aj 2 [] ?_;refine aa ?_;refine ai ?_;refine hK _ ?_;clear hK K;refine av ?_;refine dL ?_;refine bB ?_;refine bB ?_;refine dL ?_;subst e;refine cI (v':=V.own (0:Nat)) [(0,100030)] [(4,V.own (0:Nat))] (.inr rfl) (.cons kR .nil) (.cons oS .nil) kR kR kR kR kR kR kR
  ·have e:t+1< p:=by
    simp at c2;refine Classical.byContradiction fun hne=>c2 ?_;have e1:t+1=p:=by omega
    have e2:=h2.2.2.1;rw [<-e1,<-Nat.add_assoc]at e2;rw [e2]
   refine aq ?_;refine cn ?_;refine ai ?_;refine hK _ ?_;clear hK K;refine sK fun K hK=> ?_;refine sK fun K hK=> ?_;refine wR 4 ?_;refine aY aj 1 [(0,.c ((0:Nat)<=(5:Nat)) oM)] ?_;refine aa ?_;refine ai ?_;refine hK _ ?_;clear hK K;refine wR 5 ?_;refine aY aj 2 [(1,.c ((0:Nat)+(5:Nat)<=(5:Nat)) oM)] ?_;refine aa ?_;refine ai ?_;refine hK _ ?_;clear hK K;refine wR 6 ?_;refine aY aj 6 [(2,.c ((2:Nat)<=(5:Nat)) oM),(0,.c ((0:Int)<=(↑(U (n+t+1)):Int)/\(↑(U (n+t+1)):Int)< (↑n:Int)) oM),(0,.c (U (n+t+1)< n/\(0:Nat)<=(5:Nat)) oM),(0,.c ((0:Nat)+(5:Nat)<=(5:Nat)) oM)] ?_;refine aa ?_;refine ai ?_;refine⟨t+1,e,?_,by omega⟩;refine aH (tl:=[(0,V.own (500:Nat)),(1,V.i (↑(U n):Int)),(5,V.own (5:Nat)),(6,V.ref (6:Nat) (0:Nat))]) (sl:=[(500,Ob.row (235:Nat) (5:Nat) n fun(v:Nat)=>[V.i (E5.r (L v)),V.i (E5.a (L v)),V.i (E5.f (L v)),V.i (E5.t (L v)),V.i (E5.w (L v))]),(6,Ob.box (235:Nat) [V.i (E5.r (L (U (n+(t+1))))),V.i (E5.a (L (U (n+(t+1))))),V.i (E5.f (L (U (n+(t+1))))),V.i (E5.t (L (U (n+(t+1))))),V.i (E5.w (L (U (n+(t+1)))))]),(5,Ob.row (233:Nat) (2:Nat) (t+1) fun(j:Nat)=>[V.i (E5.r (L (U (n+j)))),V.i (E5.a (L (U (n+j))))])]) [(5,100030),(6,400006)] (.cons kR (.cons kR (.cons kR (.cons kR .nil)))) (.cons oS (.cons oS (.cons ⟨Ob.row (233:Nat) (2:Nat) (t+1) (aF t (fun(j:Nat)=>[V.i (E5.r (L (U (n+j)))),V.i (E5.a (L (U (n+j))))]) fun(i:Nat)=>List.take (2:Nat) (List.drop (i*2) [V.i (E5.r (L (U (n+t)))),V.i (E5.a (L (U (n+t))))])),kR,.row kR ?_⟩ .nil))) kR kR;intro i hi;exact NA (A:=fun j=>(L (U (n+j))).r) (B:=fun j=>(L (U (n+j))).a) hi
def Ey(s:BS):Int:=match s.ch with
 |none=> -1
 |some v=>v
def cC(b:Bl)(l:List Pt)(k:Nat):BS:=BS.rounds (bu b l) (dI b l) k
def mid(b:Bl)(l:List Pt)(k j:Nat):BS:=(cC b l k).begin.to k (bu b l) j
theorem qH(b:Bl)(l:List Pt)(k:Nat):mid b l k (bu b l).length=cC b l (k+1):=rfl
theorem GY{b:Bl}{l:List Pt}{k j:Nat}{e:BE}(h:(bu b l)[j]?=some e):mid b l k (j+1)=(mid b l k j).step k e:=n7 h
section
variable {b:Bl}{l:List Pt}
theorem ku.e1(h:ku b l):wQ l.length (bu b l)/\∀e∈bu b l,e.f≠e.t:=xN h.bl.1.1
theorem ku.w(h:ku b l):∀e∈bu b l, -8454144<=e.w/\e.w<=8454144:=by
 obtain⟨⟨q1,q2⟩,⟨q3,q4⟩,⟨q5,q6⟩,⟨q7,q8⟩,⟨q9,q10⟩,q11,q12⟩:=h.bl;intro e he;rcases fL.1 he with⟨i,hi,⟨h1,rfl⟩ | ⟨h1,rfl⟩⟩ | ⟨i,h1,h2,rfl⟩;·simp only [lz];omega
 ·have a:=h.pt i hi;have c:=h.pt (i- b.per.toNat) oM;simp only [kY];omega
 ·simp only [me];omega
theorem ku.i(h:ku b l)(v:Nat)(hv:v< l.length): -8454144<=dI b l v/\dI b l v<=8454144:=by obtain⟨⟨q1,q2⟩,⟨q3,q4⟩,⟨q5,q6⟩,⟨q7,q8⟩,⟨q9,q10⟩,q11,q12⟩:=h.bl;have a:=h.pt v hv;unfold dI;omega
theorem ku.inv(h:ku b l)(k:Nat){j:Nat}(hj:j<=(bu b l).length):jB l.length (bu b l) (dI b l) k j (mid b l k j):=IP h.e1.1 h.e1.2 k hj
theorem ku.bd(h:ku b l){k j:Nat}(hk:k<=4097)(hj:j<=(bu b l).length){v:Nat}(hv:v< l.length): -1152921504606846976<=(mid b l k j).r v/\(mid b l k j).r v<=8454144:=by have h1:=Mp (M:=8454144) (i:=dI b l) (by decide) h.e1.1 (fun e he=>(h.w e he).1) (fun v hv=>(h.i v hv).1) k j hj hv;have h2:=(h.inv k hj).le v hv;have h3:=(h.i v hv).2;have h4:=rH (b:=b) (l:=l);have h5:=h.len;have h6:(k+1)*(bu b l).length<=4098*12288:=Nat.mul_le_mul oM oM;have h7:8454144*((1+(k+1)*(bu b l).length:Nat):Int)<=8454144*((1+4098*12288:Nat):Int):=Int.mul_le_mul_of_nonneg_left oM (by decide);have e:mid b l k j=(BS.rounds (bu b l) (dI b l) k).begin.to k (bu b l) j:=rfl;rw [e]at h2 ⊢;omega
end
theorem FN(b:Bl)(l:List Pt):AC Tryz.prog 124 [.ptr (sM b l)] (.fn (.func 165) [] [.ptr [.ptr (sM b l)]]) []:=by refine eT aj bX Tryz.func124 Tryz.ntmps124 fun C hC hF=> ?_;refine sK fun K hK=> ?_;refine wR 2 ?_;refine aY aj 2 [] ?_;refine aa ?_;refine ai ?_;refine hK _ ?_;clear hK K;refine sK fun K hK=> ?_;refine wR 3 ?_;refine aY aj 2 [] ?_;refine aa ?_;refine ai ?_;refine hK _ ?_;clear hK K;refine av ?_;refine rP (V.fn (Fn.func (165:Nat)) [] [V.ptr [V.ptr [V.i (Bl.per b),V.i (Bl.rim b),V.i (Bl.core b),V.i (Bl.land b),V.i (Bl.slow b),V.i (Bl.fast b),V.sl (2:Nat) (List.length l) fun(k:Nat)=>[V.i (Prod.fst (gp l k)),V.i (Prod.snd (gp l k))],V.i (Bl.per b)]]])
def oA(b:Bl)(l:List Pt)(s:BS)(i:Nat):Prop:=0<=s.r i+((gp l i).1- b.core)
def Dk(b:Bl)(l:List Pt)(i:Nat):E5:=⟨2,i,i, -1,(gp l i).1- b.core⟩
structure Pr(b:Bl)(l:List Pt)(K:Nat)(v:V)(obs:List Ob):Prop where
  k:K<=l.length+1
  go:∀k,k< K->(cC b l (k+1)).ch≠none
  out:((cC b l (K+1)).ch=none/\(∀i,i< l.length->oA b l (cC b l (K+1)) i)/\v= .agg [.own 0,.nil]/\obs=[.row 2 1 l.length fun i=>[.i ((cC b l (K+1)).r i)]])
    \/(∃i T,(cC b l (K+1)).ch=none/\i< l.length/\(∀j,j< i->oA b l (cC b l (K+1)) j)/\¬oA b l (cC b l (K+1)) i/\T<=1099511627775/\(cJ (dy b l (cC b l (K+1))) (Dk b l i) T).f= -1/\(∀t,t< T->∃u:Nat,(cJ (dy b l (cC b l (K+1))) (Dk b l i) t).f=u/\u< l.length)
        /\v= .agg [.nil,.own 0]/\obs=[.row 233 2 (T+1) (fun j=>[.i (cJ (dy b l (cC b l (K+1))) (Dk b l i) (T- j)).r,.i (cJ (dy b l (cC b l (K+1))) (Dk b l i) (T- j)).a])])
    \/(∃x p,K=l.length+1/\(cC b l (K+1)).ch=some x/\(∀m,(cC b l (K+1)).fY x m< l.length/\(dy b l (cC b l (K+1)) ((cC b l (K+1)).fY x m)).f=((cC b l (K+1)).fY x (m+1):Nat))/\(0< p/\p<=l.length/\(cC b l (K+1)).fY x (l.length+p)=(cC b l (K+1)).fY x l.length/\∀q,0< q->q< p->(cC b l (K+1)).fY x (l.length+q)≠(cC b l (K+1)).fY x l.length)
        /\v= .agg [.nil,.own 0]/\obs=[.row 233 2 p (fun j=>[.i (dy b l (cC b l (K+1)) ((cC b l (K+1)).fY x (l.length+(p- 1- j)))).r,.i (dy b l (cC b l (K+1)) ((cC b l (K+1)).fY x (l.length+(p- 1- j)))).a])])
theorem xD{s:BS}:Ey s= -1<->s.ch=none:=by
 unfold Ey;cases s.ch with
 |none=>simp
 |some v=>simp
abbrev JO(n:Nat)(s:BS):Ob:= .row 2 1 n fun v=>[.i (s.r v)]
abbrev N0(b:Bl)(l:List Pt)(i:Nat):Ob:= .row 2 1 l.length fun v=>[.i (if v< i then dI b l v else 0)]
abbrev N1(b:Bl)(l:List Pt)(i:Nat):Ob:= .row 235 5 l.length fun v=>[.i (if v< i then 1 else 0),.i (if v< i then(v:Int)else 0),.i (if v< i then -1 else 0),.i (if v< i then(v:Int)else 0),.i (if v< i then dI b l v else 0)]
theorem oX(b:Bl)(l:List Pt)(h:ku b l){KE:Nat}{v:V}{obs:List Ob}(hE:Pr b l KE v obs):AC Tryz.prog 75 [.ptr (sM b l)] v obs:=by
 have hl:=h.len;refine eT aj bX Tryz.func75 Tryz.ntmps75 fun C hC hF=> ?_;refine sK fun K hK=> ?_;refine wR 2 ?_;refine aY aj 1 [] ?_;refine aa ?_;refine ai ?_;refine hK _ ?_;clear hK K;refine sK fun K hK=> ?_;refine wR 3 ?_;refine aY aj 6 [] ?_;refine aa ?_;refine ai ?_;refine hK _ ?_;clear hK K;refine sK fun K hK=> ?_;refine wD 4 ?_;refine aX aj 8 [(1,.r (PR.mk (some (19:Nat)) (some ((0:Int)<=(↑(List.length l):Int)/\(↑(List.length l):Int)<=(↑(List.length l):Int)/\(↑(List.length l):Int)<=1099511627776)) (V.own (300019:Nat)) [((300019:Nat),some (Ob.row (2:Nat) (1:Nat) (List.length l) fun(x:Nat)=>[V.c (Value.int IntKind.i64 (0:Int))]))] false)),(3,.r (PR.mk (some (21:Nat)) (some ((0:Int)<=(↑(List.length l):Int)/\(↑(List.length l):Int)<=(↑(List.length l):Int)/\(↑(List.length l):Int)<=1099511627776)) (V.own (300021:Nat)) [((300021:Nat),some (Ob.row (235:Nat) (5:Nat) (List.length l) fun(x:Nat)=>[V.c (Value.int IntKind.i64 (0:Int)),V.c (Value.int IntKind.i64 (0:Int)),V.c (Value.int IntKind.i64 (0:Int)),V.c (Value.int IntKind.i64 (0:Int)),V.c (Value.int IntKind.i64 (0:Int))]))] false)),(4,.r (pn (4:Nat) (V.ref (300004:Nat) (0:Nat)) (300004:Nat) (Ob.box (41:Nat) [V.nil]))),(5,.r (pn (5:Nat) (V.ref (300005:Nat) (0:Nat)) (300005:Nat) (Ob.box (231:Nat) [V.nil]))),(6,.r (pw ((0:Nat)+(1:Nat)<=(1:Nat)) (300004:Nat) (Ob.box (41:Nat) [V.own (300019:Nat)]))),(7,.r (pw ((0:Nat)+(1:Nat)<=(1:Nat)) (300005:Nat) (Ob.box (231:Nat) [V.own (300021:Nat)])))] ⟨⟨oM,oM⟩,⟨oM,oM⟩,oM,oM,tI⟩ ?_;refine aa ⟨kR,?_⟩;refine ai ?_;refine hK _ ?_;clear hK K;refine sK fun K hK=> ?_;refine sK fun K hK=> ?_;refine wR 5 ?_;refine aY aj 2 [] ?_;refine aa ?_;refine ai ?_;refine hK _ ?_;clear hK K;refine az ?_;refine dO (ι:=Nat) (fun i=>[(0,.ptr (sM b l)),(2,.ref 2 0),(3,.i l.length),(4,.ref 4 0),(5,.ref 5 0),(22,.i l.length),(23,.i i)]) (fun i=>[(2,.box 155 [.nil,.nil]),(4,.box 41 [.own 14]),(5,.box 231 [.own 15]),(14,N0 b l i),(15,N1 b l i)]) (fun i=>i<=l.length) (fun i=>l.length- i) 0 (Nat.zero_le _) ?_ ?_;·refine aH (sl:=[(2,Ob.box (155:Nat) [V.nil,V.nil]),(4,Ob.box (41:Nat) [V.own (14:Nat)]),(5,Ob.box (231:Nat) [V.own (15:Nat)]),(14,Ob.row (2:Nat) (1:Nat) (List.length l) fun(v:Nat)=>[V.i (if v< 0 then dI b l v else(0:Int))]),(15,Ob.row (235:Nat) (5:Nat) (List.length l) fun(v:Nat)=>[V.i (if v< 0 then(1:Int)else(0:Int)),V.i (if v< 0 then(↑v:Int)else(0:Int)),V.i (if v< 0 then(-1:Int)else(0:Int)),V.i (if v< 0 then(↑v:Int)else(0:Int)),V.i (if v< 0 then dI b l v else(0:Int))])]) [(2,100002),(4,300004),(5,300005),(14,300019),(15,300021)] (.cons kR (.cons kR (.cons kR (.cons kR (.cons kR (.cons kR (.cons kR .nil))))))) (.cons oS (.cons oS (.cons oS (.cons oS (.cons oS .nil))))) kR kR
 intro i hi;refine sK fun K hK=> ?_;refine wR 2 ?_;refine aY aj 1 [] ?_;refine aa ?_;refine ai ?_;refine hK _ ?_;clear hK K;refine sK fun K hK=> ?_;refine ax (t:=decide ((↑i:Int)< (↑(List.length l):Int))) kR (fun c1=> ?_) (fun c1=> ?_)
 ·have h1:i< l.length:=by simpa using c1
  have h2:=h.i i h1;refine aq ?_;refine ai ?_;refine hK _ ?_;clear hK K;refine sK fun K hK=> ?_;refine az ?_;refine sK fun K hK=> ?_;refine wR 3 ?_;refine aY aj 2 [] ?_;refine aa ?_;refine ai ?_;refine hK _ ?_;clear hK K;refine sK fun K hK=> ?_;refine wD 4 ?_;refine aY aj 4 [(0,.c ((0:Nat)<=(1:Nat)) oM)] ?_;refine eC (FI b l h i h1) ?_;refine aY aj 5 [(3,.c ((0:Int)<=(↑i:Int)/\(↑i:Int)< (↑(List.length l):Int)) oM),(0,.c (i< List.length l/\(0:Nat)+(5:Nat)<=(5:Nat)) oM)] ?_;refine aa ⟨kR,?_⟩;refine ai ?_;refine hK _ ?_;clear hK K;refine lG (s':=⟨gF [(0,.ptr (sM b l)),(2,.ref 2 0),(3,.i l.length),(4,.ref 4 0),(5,.ref 5 0),(6,.i i),(22,.i l.length),(23,.i i)],eL [(2,.box 155 [.nil,.nil]),(4,.box 41 [.own 14]),(5,.box 231 [.own 15]),(14,N0 b l i),(15,N1 b l (i+1))],1⟩) ?_ ?_
  ·refine aH (tl:=[(0,V.ptr [V.i (Bl.per b),V.i (Bl.rim b),V.i (Bl.core b),V.i (Bl.land b),V.i (Bl.slow b),V.i (Bl.fast b),V.sl (2:Nat) (List.length l) fun(k:Nat)=>[V.i (Prod.fst (gp l k)),V.i (Prod.snd (gp l k))],V.i (Bl.per b)]),(2,V.ref (2:Nat) (0:Nat)),(3,V.i (↑(List.length l):Int)),(4,V.ref (4:Nat) (0:Nat)),(5,V.ref (5:Nat) (0:Nat)),(6,V.i (↑i:Int)),(22,V.i (↑(List.length l):Int)),(23,V.i (↑i:Int))]) (sl:=[(2,Ob.box (155:Nat) [V.nil,V.nil]),(4,Ob.box (41:Nat) [V.own (14:Nat)]),(5,Ob.box (231:Nat) [V.own (15:Nat)]),(14,Ob.row (2:Nat) (1:Nat) (List.length l) fun(v:Nat)=>[V.i (if v< i then dI b l v else(0:Int))]),(15,Ob.row (235:Nat) (5:Nat) (List.length l) fun(v:Nat)=>[V.i (if v< i+1 then(1:Int)else(0:Int)),V.i (if v< i+1 then(↑v:Int)else(0:Int)),V.i (if v< i+1 then(-1:Int)else(0:Int)),V.i (if v< i+1 then(↑v:Int)else(0:Int)),V.i (if v< i+1 then dI b l v else(0:Int))])]) [(2,2),(4,4),(5,5),(14,14),(15,15)] (.cons kR (.cons kR (.cons kR (.cons kR (.cons kR (.cons kR (.cons kR (.cons kR .nil)))))))) (.cons oS (.cons oS (.cons oS (.cons oS (.cons ⟨Ob.row (235:Nat) (5:Nat) (List.length l) fun(j:Nat)=>if j=i then [V.i (1:Int),V.i (↑i:Int),V.i (-1:Int),V.i (↑i:Int),V.i (dI b l i)]else [V.i (if j< i then(1:Int)else(0:Int)),V.i (if j< i then(↑j:Int)else(0:Int)),V.i (if j< i then(-1:Int)else(0:Int)),V.i (if j< i then(↑j:Int)else(0:Int)),V.i (if j< i then dI b l j else(0:Int))],kR,.row kR ?_⟩ .nil))))) kR kR;intro j hj;show _=[V.i (if j< i+1 then 1 else 0),V.i (if j< i+1 then(j:Int)else 0),V.i (if j< i+1 then -1 else 0),V.i (if j< i+1 then(j:Int)else 0),V.i (if j< i+1 then dI b l j else 0)];by_cases h3:j=i;·subst h3;simp
   ·simp only [if_neg h3,show j< i+1<->j< i by omega]
  refine wD 2 ?_;refine aY aj 9 [(0,.c ((0:Nat)<=(1:Nat)) oM),(1,.c ((0:Nat)<=(1:Nat)) oM),(1,.c ((0:Int)<=(↑i:Int)/\(↑i:Int)< (↑(List.length l):Int)) oM),(1,.c (i< List.length l/\(4:Nat)<=(5:Nat)) oM),(0,.c ((0:Int)<=(↑i:Int)/\(↑i:Int)< (↑(List.length l):Int)) oM),(0,.c (i< List.length l/\(0:Nat)+(1:Nat)<=(1:Nat)) oM)] ?_;refine aa ⟨kR,?_⟩;refine cn ?_;refine ai ?_;refine hK _ ?_;clear hK K;refine wR 3 ?_;refine aY aj 2 [(0,.c (iR ((↑i:Int)+1)) oM)] ?_;refine aa ?_;refine ai ?_;refine⟨i+1,by omega,?_,by omega⟩;refine aH (tl:=[(0,V.ptr [V.i (Bl.per b),V.i (Bl.rim b),V.i (Bl.core b),V.i (Bl.land b),V.i (Bl.slow b),V.i (Bl.fast b),V.sl (2:Nat) (List.length l) fun(k:Nat)=>[V.i (Prod.fst (gp l k)),V.i (Prod.snd (gp l k))],V.i (Bl.per b)]),(2,V.ref (2:Nat) (0:Nat)),(3,V.i (↑(List.length l):Int)),(4,V.ref (4:Nat) (0:Nat)),(5,V.ref (5:Nat) (0:Nat)),(22,V.i (↑(List.length l):Int)),(23,V.i (↑(i+1):Int))]) (sl:=[(2,Ob.box (155:Nat) [V.nil,V.nil]),(4,Ob.box (41:Nat) [V.own (14:Nat)]),(5,Ob.box (231:Nat) [V.own (15:Nat)]),(14,Ob.row (2:Nat) (1:Nat) (List.length l) fun(v:Nat)=>[V.i (if v< i+1 then dI b l v else(0:Int))]),(15,Ob.row (235:Nat) (5:Nat) (List.length l) fun(v:Nat)=>[V.i (if v< i+1 then(1:Int)else(0:Int)),V.i (if v< i+1 then(↑v:Int)else(0:Int)),V.i (if v< i+1 then(-1:Int)else(0:Int)),V.i (if v< i+1 then(↑v:Int)else(0:Int)),V.i (if v< i+1 then dI b l v else(0:Int))])]) [(2,2),(4,4),(5,5),(14,14),(15,15)] (.cons kR (.cons kR (.cons kR (.cons kR (.cons kR (.cons kR (.cons kR .nil))))))) (.cons oS (.cons oS (.cons oS (.cons ⟨Ob.row (2:Nat) (1:Nat) (List.length l) fun(j:Nat)=>if j=i then [V.i (if i< i+1 then dI b l i else(0:Int))]else [V.i (if j< i then dI b l j else(0:Int))],kR,.row kR ?_⟩ (.cons oS .nil))))) kR kR;intro j hj;show _=[V.i (if j< i+1 then dI b l j else 0)];by_cases h3:j=i;·subst h3;simp
  ·simp only [if_neg h3,show j< i+1<->j< i by omega]
 ·have h1:i=l.length:=by simp at c1;omega
  refine bN ?_;refine cO ?_;refine cO ?_;refine cg ?_;refine ai ?_;clear hK K;refine hK _ ?_;clear hK K;refine sK fun K hK=> ?_;refine sK fun K hK=> ?_;refine wR 3 ?_;refine au aj (M:=[]) (n:=1) [pv (7:Nat) (V.i (0:Int))] kR kR tI ?_;refine aa ?_;refine ai ?_;refine hK _ ?_;clear hK K;refine az ?_;refine dO (ι:=Nat) (fun k=>[(0,.ptr (sM b l)),(2,.ref 2 0),(3,.i l.length),(4,.ref 4 0),(5,.ref 5 0),(7,.i k)]) (fun k=>[(2,.box 155 [.nil,.nil]),(4,.box 41 [.own 14]),(5,.box 231 [.own 15]),(14,JO l.length (cC b l k)),(15,vZ l.length (dy b l (cC b l k)))]) (fun k=>k<=KE) (fun k=>KE- k) 0 (Nat.zero_le _) ?_ ?_
  ·refine aH (tl:=[(0,V.ptr [V.i (Bl.per b),V.i (Bl.rim b),V.i (Bl.core b),V.i (Bl.land b),V.i (Bl.slow b),V.i (Bl.fast b),V.sl (2:Nat) (List.length l) fun(k:Nat)=>[V.i (Prod.fst (gp l k)),V.i (Prod.snd (gp l k))],V.i (Bl.per b)]),(2,V.ref (2:Nat) (0:Nat)),(3,V.i (↑(List.length l):Int)),(4,V.ref (4:Nat) (0:Nat)),(5,V.ref (5:Nat) (0:Nat)),(7,V.i (0:Int))]) (sl:=[(2,Ob.box (155:Nat) [V.nil,V.nil]),(4,Ob.box (41:Nat) [V.own (14:Nat)]),(5,Ob.box (231:Nat) [V.own (15:Nat)]),(14,Ob.row (2:Nat) (1:Nat) (List.length l) fun(v:Nat)=>[V.i (BS.r (cC b l (0:Nat)) v)]),(15,Ob.row (235:Nat) (5:Nat) (List.length l) fun(v:Nat)=>[V.i (E5.r (dy b l (cC b l (0:Nat)) v)),V.i (E5.a (dy b l (cC b l (0:Nat)) v)),V.i (E5.f (dy b l (cC b l (0:Nat)) v)),V.i (E5.t (dy b l (cC b l (0:Nat)) v)),V.i (E5.w (dy b l (cC b l (0:Nat)) v))])]) [(2,2),(4,4),(5,5),(14,14),(15,15)] (.cons kR (.cons kR (.cons kR (.cons kR (.cons kR (.cons kR .nil)))))) (.cons oS (.cons oS (.cons oS (.cons ⟨Ob.row (2:Nat) (1:Nat) (List.length l) fun(v:Nat)=>[V.i (if v< i then dI b l v else(0:Int))],kR,.row kR ?_⟩ (.cons ⟨Ob.row (235:Nat) (5:Nat) (List.length l) fun(v:Nat)=>[V.i (if v< i then(1:Int)else(0:Int)),V.i (if v< i then(↑v:Int)else(0:Int)),V.i (if v< i then(-1:Int)else(0:Int)),V.i (if v< i then(↑v:Int)else(0:Int)),V.i (if v< i then dI b l v else(0:Int))],kR,.row kR ?_⟩ .nil))))) kR kR
   ·intro j hj;have e:j< i:=by omega
    simp only [e,if_true];rfl
   ·intro j hj;have e:j< i:=by omega
    simp only [e,if_true];rfl
  intro k hk;have hk2:=hE.k;have hes:=h.e1.1;refine sK fun K hK=> ?_;refine az ?_;refine xq ?_;refine sK fun K hK=> ?_;refine wR 2 ?_;refine aY aj 2 [(1,.c ((0:Nat)+(1:Nat)<=(1:Nat)) oM)] ?_;refine aa ?_;refine ai ?_;refine hK _ ?_;clear hK K;refine sK fun K hK=> ?_;refine xo ?_;refine ai ?_;refine hK _ ?_;clear hK K;refine sK fun K hK=> ?_;refine sK fun K hK=> ?_;refine wR 3 ?_;refine aY aj 1 [] ?_;refine eC (FN b l) ?_;refine aa ?_;refine ai ?_;refine hK _ ?_;clear hK K;refine az ?_;refine s6 (caps:=[.ptr [.ptr (sM b l)]]) [] hF [500,501,504,505] [502,503] [(500,4),(501,5),(502,14),(503,15),(504,100008),(505,2)] (fun _ _ h=>by rw [hC]at h;cases h) (FO b l h) kR kR rfl (by simp) (fun i k o h=>by simp at h) ?hlen kR
   [(0,.ptr (sM b l)),(2,.ref 505 0),(3,.i l.length),(4,.ref 500 0),(5,.ref 501 0),(7,.i k),(8,.ref 504 0)] (fun _=>True) (fun j=>[.box 41 [.own 502],.box 231 [.own 503],.box 3 [.i (Ey (mid b l k j))],.box 155 [.nil,.nil],JO l.length (mid b l k j),vZ l.length (dy b l (mid b l k j))]) (fun _ _ _=>False) trivial kR kR kR kR
   ⟨by show _=_;kernel_rfl,by show _=_;kernel_rfl,by show _=_;kernel_rfl,by show _=_;kernel_rfl,by show _=_;kernel_rfl,by show _=_;kernel_rfl,by show _=_;kernel_rfl,trivial⟩
   ⟨⟨.box 41 [.own 14],kR,rfl,rfl⟩,⟨.box 231 [.own 15],kR,rfl,rfl⟩,⟨.box 3 [.i (-1)],kR,rfl,rfl⟩,⟨.box 155 [.nil,.nil],kR,rfl,rfl⟩,⟨JO l.length (cC b l k),kR,rfl,rfl,rfl,fun _ _=>rfl⟩,⟨vZ l.length (dy b l (cC b l k)),kR,rfl,rfl,rfl,fun _ _=>rfl⟩,trivial⟩ kR ?hdis ?round ?done ?stop
  case hlen=>
   intro x hx
   simp only [ij,List.mem_map]at hx
   obtain⟨j,_,rfl⟩:=hx
   rfl
  case hdis=>intro p hp;simp
  case stop=>intro k c sx _ hf;exact hf.elim
  case round=>
   rintro C' ⟨lx,hF'⟩ j x hx _
   obtain⟨e,he,rfl⟩:∃e,(bu b l)[j]?=some e/\x=O8 e:=by simp only [ij,List.getElem?_map,Option.map_eq_some_iff]at hx;obtain⟨e,he,rfl⟩:=hx;exact⟨e,he,rfl⟩
   have hj:j< (bu b l).length:=(List.getElem?_eq_some_iff.1 he).1
   have hm:=List.mem_of_getElem? he
   obtain⟨hf,ht⟩:=hes e hm
   have hw:=h.w e hm
   have b1:=h.bd (k:=k) (j:=j) oM oM hf
   have b2:=h.bd (k:=k) (j:=j) oM oM ht
   have hs:=GY (k:=k) he
   refine wR 2 ?_
   refine aY aj 2 [(1,.c ((0:Nat)+(5:Nat)<=(5:Nat)) oM)] ?_
   refine aa ?_
   refine ai ?_
   refine az ?_
   refine sK fun K hK=> ?_
   refine sK fun K hK=> ?_
   refine wD 3 ?_
   refine aY aj 14 [(0,.c ((0:Nat)<=(1:Nat)) oM),(1,.c ((2:Nat)<=(5:Nat)) oM),(0,.c ((0:Int)<=(↑(BE.f e):Int)/\(↑(BE.f e):Int)< (↑(List.length l):Int)) oM),(0,.c (BE.f e< List.length l/\(0:Nat)<=(1:Nat)) oM),(1,.c ((4:Nat)<=(5:Nat)) oM),(0,.c (iR (BS.r (mid b l k j) (BE.f e)+BE.w e)) oM),(0,.c ((0:Nat)<=(1:Nat)) oM),(1,.c ((3:Nat)<=(5:Nat)) oM),(0,.c ((0:Int)<=(↑(BE.t e):Int)/\(↑(BE.t e):Int)< (↑(List.length l):Int)) oM),(0,.c (BE.t e< List.length l/\(0:Nat)<=(1:Nat)) oM)] ?_
   refine aa ⟨kR,?_⟩
   refine ai ?_
   refine hK _ ?_
   clear hK K
   refine ax (t:=decide (BS.r (mid b l k j) (BE.t e)<=BS.r (mid b l k j) (BE.f e)+BE.w e)) kR (fun c2=> ?_) (fun c2=> ?_)
   ·have c3:¬(mid b l k j).r e.f+e.w< (mid b l k j).r e.t:=by simp at c2;omega
    have hs2:mid b l k (j+1)=mid b l k j:=by rw [hs,BS.step,if_neg c3]
    refine bN ?_;refine cO ?_;refine cg ?_;refine⟨trivial,?_⟩;refine aH (sl:=[(500,Ob.box (41:Nat) [V.own (502:Nat)]),(501,Ob.box (231:Nat) [V.own (503:Nat)]),(504,Ob.box (3:Nat) [V.i (Ey (mid b l k (j+1)))]),(505,Ob.box (155:Nat) [V.nil,V.nil]),(502,Ob.row (2:Nat) (1:Nat) (List.length l) fun(v:Nat)=>[V.i (BS.r (mid b l k (j+1)) v)]),(503,Ob.row (235:Nat) (5:Nat) (List.length l) fun(v:Nat)=>[V.i (E5.r (dy b l (mid b l k (j+1)) v)),V.i (E5.a (dy b l (mid b l k (j+1)) v)),V.i (E5.f (dy b l (mid b l k (j+1)) v)),V.i (E5.t (dy b l (mid b l k (j+1)) v)),V.i (E5.w (dy b l (mid b l k (j+1)) v))])]) [] .nil (.cons oS (.cons oS (.cons ⟨Ob.box (3:Nat) [V.i (Ey (mid b l k j))],kR,.box ?_⟩ (.cons oS (.cons ⟨Ob.row (2:Nat) (1:Nat) (List.length l) fun(v:Nat)=>[V.i (BS.r (mid b l k j) v)],kR,.row kR ?_⟩ (.cons ⟨Ob.row (235:Nat) (5:Nat) (List.length l) fun(v:Nat)=>[V.i (E5.r (dy b l (mid b l k j) v)),V.i (E5.a (dy b l (mid b l k j) v)),V.i (E5.f (dy b l (mid b l k j) v)),V.i (E5.t (dy b l (mid b l k j) v)),V.i (E5.w (dy b l (mid b l k j) v))],kR,.row kR ?_⟩ .nil)))))) kR kR;·show _=[V.i (Ey (mid b l k (j+1)))];rw [hs2]
    ·intro v hv;show _=[V.i ((mid b l k (j+1)).r v)];rw [hs2]
    ·intro v hv;show _=[V.i (dy b l (mid b l k (j+1)) v).r,V.i (dy b l (mid b l k (j+1)) v).a,V.i (dy b l (mid b l k (j+1)) v).f,V.i (dy b l (mid b l k (j+1)) v).t,V.i (dy b l (mid b l k (j+1)) v).w];rw [hs2]
   ·have c3:(mid b l k j).r e.f+e.w< (mid b l k j).r e.t:=by simp at c2;omega
    have hr:∀v,(mid b l k (j+1)).r v=if v=e.t then(mid b l k j).r e.f+e.w else(mid b l k j).r v:=fun v=>by
     rw [hs,BS.step,if_pos c3];by_cases h3:v=e.t;·rw [if_pos h3,h3];simp only [ak]
     ·rw [if_neg h3];simp only [ah _ _ h3]
    have hla:∀v,dy b l (mid b l k (j+1)) v=if v=e.t then E5.of e else dy b l (mid b l k j) v:=fun v=>by
     rw [hs,BS.step,if_pos c3];by_cases h3:v=e.t;·rw [if_pos h3,h3];simp only [dy,ak]
     ·rw [if_neg h3];simp only [dy,ah _ _ h3]
    have hch:Ey (mid b l k (j+1))=e.t:=by rw [hs,BS.step,if_pos c3];rfl
    refine aq ?_;refine ai ?_;refine hK _ ?_;clear hK K;refine wD 4 ?_;refine aY aj 22 [(0,.c ((0:Nat)<=(1:Nat)) oM),(1,.c ((3:Nat)<=(5:Nat)) oM),(0,.c ((0:Nat)<=(1:Nat)) oM),(1,.c ((3:Nat)<=(5:Nat)) oM),(0,.c ((0:Nat)<=(1:Nat)) oM),(1,.c ((2:Nat)<=(5:Nat)) oM),(0,.c ((0:Int)<=(↑(BE.f e):Int)/\(↑(BE.f e):Int)< (↑(List.length l):Int)) oM),(0,.c (BE.f e< List.length l/\(0:Nat)<=(1:Nat)) oM),(1,.c ((4:Nat)<=(5:Nat)) oM),(0,.c (iR (BS.r (mid b l k j) (BE.f e)+BE.w e)) oM),(0,.c ((0:Nat)<=(5:Nat)) oM),(1,.c ((3:Nat)<=(5:Nat)) oM),(0,.c ((0:Int)<=(↑(BE.t e):Int)/\(↑(BE.t e):Int)< (↑(List.length l):Int)) oM),(0,.c (BE.t e< List.length l/\(0:Nat)+(1:Nat)<=(1:Nat)) oM),(0,.c ((0:Int)<=(↑(BE.t e):Int)/\(↑(BE.t e):Int)< (↑(List.length l):Int)) oM),(0,.c (BE.t e< List.length l/\(0:Nat)+(5:Nat)<=(5:Nat)) oM),(0,.c ((0:Nat)+(1:Nat)<=(1:Nat)) oM)] ?_;refine aa ⟨kR,?_⟩;refine cn ?_;refine⟨trivial,?_⟩;refine aH (sl:=[(500,Ob.box (41:Nat) [V.own (502:Nat)]),(501,Ob.box (231:Nat) [V.own (503:Nat)]),(504,Ob.box (3:Nat) [V.i (Ey (mid b l k (j+1)))]),(505,Ob.box (155:Nat) [V.nil,V.nil]),(502,Ob.row (2:Nat) (1:Nat) (List.length l) fun(v:Nat)=>[V.i (BS.r (mid b l k (j+1)) v)]),(503,Ob.row (235:Nat) (5:Nat) (List.length l) fun(v:Nat)=>[V.i (E5.r (dy b l (mid b l k (j+1)) v)),V.i (E5.a (dy b l (mid b l k (j+1)) v)),V.i (E5.f (dy b l (mid b l k (j+1)) v)),V.i (E5.t (dy b l (mid b l k (j+1)) v)),V.i (E5.w (dy b l (mid b l k (j+1)) v))])]) [] .nil (.cons oS (.cons oS (.cons ⟨Ob.box (3:Nat) [V.i (↑(BE.t e):Int)],kR,.box ?_⟩ (.cons oS (.cons ⟨Ob.row (2:Nat) (1:Nat) (List.length l) fun(j_1:Nat)=>if j_1=BE.t e then [V.i (BS.r (mid b l k j) (BE.f e)+BE.w e)]else [V.i (BS.r (mid b l k j) j_1)],kR,.row kR ?_⟩ (.cons ⟨Ob.row (235:Nat) (5:Nat) (List.length l) fun(j_1:Nat)=>if j_1=BE.t e then [V.i (BE.rule e),V.i (BE.at' e),V.i (↑(BE.f e):Int),V.i (↑(BE.t e):Int),V.i (BE.w e)]else [V.i (E5.r (dy b l (mid b l k j) j_1)),V.i (E5.a (dy b l (mid b l k j) j_1)),V.i (E5.f (dy b l (mid b l k j) j_1)),V.i (E5.t (dy b l (mid b l k j) j_1)),V.i (E5.w (dy b l (mid b l k j) j_1))],kR,.row kR ?_⟩ .nil)))))) kR kR;·show _=[V.i (Ey (mid b l k (j+1)))];rw [hch]
    ·intro v hv;show _=[V.i ((mid b l k (j+1)).r v)];rw [hr];by_cases h3:v=e.t;·rw [if_pos h3,if_pos h3]
     ·rw [if_neg h3,if_neg h3]
    ·intro v hv;show _=[V.i (dy b l (mid b l k (j+1)) v).r,V.i (dy b l (mid b l k (j+1)) v).a,V.i (dy b l (mid b l k (j+1)) v).f,V.i (dy b l (mid b l k (j+1)) v).t,V.i (dy b l (mid b l k (j+1)) v).w];rw [hla];by_cases h3:v=e.t;·rw [if_pos h3,if_pos h3];rfl
     ·rw [if_neg h3,if_neg h3]
  case done=>
   intro _
   rw [show(ij b l).length=(bu b l).length by simp [ij],qH]
   refine cn ?_
   refine ai ?_
   refine hK _ ?_
   clear hK K
   refine sK fun K hK=> ?_
   refine sK fun K hK=> ?_
   refine wR 2 ?_
   refine aY aj 2 [(0,.c ((0:Nat)<=(1:Nat)) oM)] ?_
   refine aa ?_
   refine ai ?_
   refine hK _ ?_
   clear hK K
   refine ax (t:=decide (Ey (cC b l (k+1))=(-1:Int))) kR (fun c3=> ?_) (fun c3=> ?_)
   ·have hno:(cC b l (k+1)).ch=none:=xD.1 (by simpa using c3);have hkE:k=KE:=Classical.byContradiction fun hc=>hE.go k oM hno;rw [hkE]at hno ⊢;have hout:=hE.out;refine bN ?_;refine cO ?_;refine Qm ?_;refine Lb rfl ?_;refine cO ?_;refine cO ?_;refine cg ?_;refine ai ?_;clear hK K;clear hK K;refine hK _ ?_;clear hK K;refine sK fun K hK=> ?_;refine sK fun K hK=> ?_;refine wR 3 ?_;refine aY aj 2 [] ?_;refine aa ?_;refine ai ?_;refine hK _ ?_;clear hK K;refine az ?_;refine dO (ι:=Nat) (fun i=>[(0,.ptr (sM b l)),(2,.ref 2 0),(4,.ref 4 0),(5,.ref 5 0),(91,.i l.length),(92,.i i)]) (fun i=>[(2,.box 155 [.nil,.nil]),(4,.box 41 [.own 14]),(5,.box 231 [.own 15]),(14,JO l.length (cC b l (KE+1))),(15,vZ l.length (dy b l (cC b l (KE+1))))]) (fun i=>i<=l.length/\∀j,j< i->oA b l (cC b l (KE+1)) j) (fun i=>l.length- i) 0 ⟨Nat.zero_le _,fun j hj=>by omega⟩ ?_ ?_;·refine aH (sl:=[(2,Ob.box (155:Nat) [V.nil,V.nil]),(4,Ob.box (41:Nat) [V.own (14:Nat)]),(5,Ob.box (231:Nat) [V.own (15:Nat)]),(14,Ob.row (2:Nat) (1:Nat) (List.length l) fun(v:Nat)=>[V.i (BS.r (cC b l (KE+1)) v)]),(15,Ob.row (235:Nat) (5:Nat) (List.length l) fun(v:Nat)=>[V.i (E5.r (dy b l (cC b l (KE+1)) v)),V.i (E5.a (dy b l (cC b l (KE+1)) v)),V.i (E5.f (dy b l (cC b l (KE+1)) v)),V.i (E5.t (dy b l (cC b l (KE+1)) v)),V.i (E5.w (dy b l (cC b l (KE+1)) v))])]) [(2,505),(4,500),(5,501),(14,502),(15,503)] (.cons kR (.cons kR (.cons kR (.cons kR (.cons kR (.cons kR .nil)))))) (.cons oS (.cons oS (.cons oS (.cons oS (.cons oS .nil))))) kR kR
    rintro m ⟨hm,hcor⟩;refine sK fun K hK=> ?_;refine wR 2 ?_;refine aY aj 1 [] ?_;refine aa ?_;refine ai ?_;refine hK _ ?_;clear hK K;refine sK fun K hK=> ?_;refine ax (t:=decide ((↑m:Int)< (↑(List.length l):Int))) kR (fun c5=> ?_) (fun c5=> ?_)
    ·have hm1:m< l.length:=by simpa using c5
     obtain⟨⟨p1,p2⟩,p3,p4⟩:=h.pt m hm1;obtain⟨q1,q2,⟨q3,q4⟩,q5⟩:=h.bl;have b1:=h.bd (k:=KE) (j:=(bu b l).length) oM (Nat.le_refl _) hm1;rw [qH]at b1;refine aq ?_;refine ai ?_;refine hK _ ?_;clear hK K;refine sK fun K hK=> ?_;refine az ?_;refine sK fun K hK=> ?_;refine wR 3 ?_;refine aY aj 2 [] ?_;refine aa ?_;refine ai ?_;refine hK _ ?_;clear hK K;refine sK fun K hK=> ?_;refine wR 4 ?_;refine aY aj 2 [] ?_;refine eC (FJ b l h m hm1) ?_;refine aY aj 6 [(4,.c ((0:Nat)+(5:Nat)<=(5:Nat)) oM)] ?_;refine aa ?_;refine ai ?_;refine hK _ ?_;clear hK K;refine sK fun K hK=> ?_;refine wD 5 ?_;refine au aj (M:=[]) (n:=8) [pc (101:Nat) ((0:Nat)<=(1:Nat)) (V.own (14:Nat)),pv (102:Nat) (V.i (↑m:Int)),pc (103:Nat) ((0:Int)<=(↑m:Int)/\(↑m:Int)< (↑(List.length l):Int)) (V.oel (14:Nat) (1:Nat) m (0:Nat)),pc (104:Nat) (m< List.length l/\(0:Nat)<=(1:Nat)) (V.i (BS.r (cC b l (KE+1)) m)),pv (105:Nat) (V.ref (300011:Nat) (4:Nat)),pc (106:Nat) ((4:Nat)<=(5:Nat)) (V.i (Prod.fst (gp l m)- Bl.core b)),pc (107:Nat) ((-9223372036854775808:Int)<=BS.r (cC b l (KE+1)) m+(Prod.fst (gp l m)- Bl.core b)/\BS.r (cC b l (KE+1)) m+(Prod.fst (gp l m)- Bl.core b)<=9223372036854775807) (V.i (BS.r (cC b l (KE+1)) m+(Prod.fst (gp l m)- Bl.core b))),pv (108:Nat) (V.b (decide (BS.r (cC b l (KE+1)) m+(Prod.fst (gp l m)- Bl.core b)< 0)))] kR kR ⟨oM,oM,oM,oM,oM,tI⟩ ?_;refine aa ⟨kR,?_⟩;refine ai ?_;refine hK _ ?_;clear hK K;refine ax (t:=decide (BS.r (cC b l (KE+1)) m+(Prod.fst (gp l m)- Bl.core b)< 0)) kR (fun c6=> ?_) (fun c6=> ?_)
     ·have hbad:¬oA b l (cC b l (KE+1)) m:=by simp at c6;unfold oA;omega
      rcases hout with⟨_,q,_⟩ | ⟨i0,T,_,u1,u2,u3,u4,u5,u6,rfl,rfl⟩ | ⟨_,_,_,q,_⟩;·exact absurd (q m hm1) hbad
      ·have hmi:m=i0:=by
        rcases Nat.lt_trichotomy m i0 with hc |hc |hc;·exact absurd (u2 m hc) hbad
        ·exact hc
        ·exact absurd (hcor i0 hc) u3
       rw [hmi];refine sK fun K hK=> ?_;refine wR 6 ?_;refine aY aj 2 [(0,.c ((0:Nat)<=(1:Nat)) oM),(0,.c ((0:Nat)<=(5:Nat)) oM)] ?_;refine eM [15] (MX l.length (dy b l (cC b l (KE+1))) (Dk b l i0) T u5 u6 hl u4) (iW .nil) ?_;refine aY aj 2 [(1,.c ((0:Nat)+(2:Nat)<=(2:Nat)) oM)] ?_;refine aa ?_;refine ai ?_;refine hK _ ?_;clear hK K;refine av ?_;refine dL ?_;refine bB ?_;refine bB ?_;refine dL ?_;refine bB ?_;refine sC ?_;refine Cn (v':=V.agg [V.nil,V.own (0:Nat)]) [(0,500111),(100,2)] [(2,V.ref (100:Nat) (0:Nat))] [(100,Ob.box (155:Nat) [V.nil,V.own (0:Nat)])] (.inr rfl) (.cons kR .nil) (.cons oS (.cons oS .nil)) kR kR kR kR kR kR kR
      ·rw [hno]at q;cases q
     ·have hgood:oA b l (cC b l (KE+1)) m:=by simp at c6;unfold oA;omega
      refine aq ?_;refine cn ?_;refine ai ?_;refine hK _ ?_;clear hK K;refine wR 6 ?_;refine aY aj 2 [(0,.c (iR ((↑m:Int)+1)) oM)] ?_;refine aa ?_;refine ai ?_;refine⟨m+1,⟨by omega,fun j hj=> ?_⟩,?_,by omega⟩
      ·by_cases hc:j=m;·rw [hc];exact hgood
       ·exact hcor j oM
      refine aH (sl:=[(2,Ob.box (155:Nat) [V.nil,V.nil]),(4,Ob.box (41:Nat) [V.own (14:Nat)]),(5,Ob.box (231:Nat) [V.own (15:Nat)]),(14,Ob.row (2:Nat) (1:Nat) (List.length l) fun(v:Nat)=>[V.i (BS.r (cC b l (KE+1)) v)]),(15,Ob.row (235:Nat) (5:Nat) (List.length l) fun(v:Nat)=>[V.i (E5.r (dy b l (cC b l (KE+1)) v)),V.i (E5.a (dy b l (cC b l (KE+1)) v)),V.i (E5.f (dy b l (cC b l (KE+1)) v)),V.i (E5.t (dy b l (cC b l (KE+1)) v)),V.i (E5.w (dy b l (cC b l (KE+1)) v))])]) [(2,2),(4,4),(5,5),(14,14),(15,15)] (.cons kR (.cons kR (.cons kR (.cons kR (.cons kR (.cons kR .nil)))))) (.cons oS (.cons oS (.cons oS (.cons oS (.cons oS .nil))))) kR kR
    ·have hm1:m=l.length:=by simp at c5;omega
     rcases hout with⟨_,_,rfl,rfl⟩ | ⟨i0,T,_,u1,u2,u3,_⟩ | ⟨_,_,_,q,_⟩;·refine bN ?_;refine cO ?_;refine cO ?_;refine cg ?_;refine ai ?_;clear hK K;refine hK _ ?_;clear hK K;refine sK fun K hK=> ?_;refine wR 3 ?_;refine aY aj 3 [(0,.c ((0:Nat)<=(1:Nat)) oM),(1,.c ((0:Nat)+(2:Nat)<=(2:Nat)) oM)] ?_;refine aa ?_;refine ai ?_;refine hK _ ?_;clear hK K;refine av ?_;refine sC ?_;refine Cn (v':=V.agg [V.own (0:Nat),V.nil]) [(0,14),(100,2)] [(2,V.ref (100:Nat) (0:Nat))] [(100,Ob.box (155:Nat) [V.own (0:Nat),V.nil])] (.inr rfl) (.cons kR .nil) (.cons oS (.cons oS .nil)) kR kR kR kR kR kR kR
     ·exact absurd (hcor i0 oM) u3
     ·rw [hno]at q;cases q
   ·have hno:(cC b l (k+1)).ch≠none:=fun hc=>by rw [xD.2 hc]at c3;simp at c3
    have hcase:k=KE/\KE=l.length+1\/k< KE:=by
     by_cases hc:k=KE
     ·subst hc;rcases hE.out with⟨q,_⟩ | ⟨_,_,q,_⟩ | ⟨_,_,q,_⟩;·exact absurd q hno
      ·exact absurd q hno
      ·exact .inl ⟨rfl,q⟩
     ·exact .inr oM
    refine aq ?_;refine ai ?_;refine hK _ ?_;clear hK K;refine sK fun K hK=> ?_;refine wR 3 ?_;refine aY aj 3 [] ?_;refine aa ?_;refine ai ?_;refine hK _ ?_;clear hK K;refine ax (t:=decide ((↑(List.length l):Int)< (↑k:Int))) kR (fun c4=> ?_) (fun c4=> ?_)
    ·simp at c4;have hkE:k=KE:=by omega
     rcases hE.out with⟨q,_⟩ | ⟨_,_,q,_⟩ | ⟨x,p,q1,q2,q3,q4,rfl,rfl⟩;·rw [hkE]at hno;exact absurd q hno
     ·rw [hkE]at hno;exact absurd q hno
     rw [hkE];have hci:Ey (cC b l (KE+1))=((cC b l (KE+1)).fY x 0:Nat):=by rw [Ey,q2];rfl
     rw [hci];refine sK fun K hK=> ?_;refine wR 4 ?_;refine aY aj 2 [(0,.c ((0:Nat)<=(1:Nat)) oM),(0,.c ((0:Nat)<=(1:Nat)) oM)] ?_;refine eM [503] (Di l.length (dy b l (cC b l (KE+1))) ((cC b l (KE+1)).fY x) p q3 q4 hl) (iW .nil) ?_;refine aY aj 2 [(1,.c ((0:Nat)+(2:Nat)<=(2:Nat)) oM)] ?_;refine aa ?_;refine ai ?_;refine hK _ ?_;clear hK K;refine av ?_;refine Ql ?_;refine dL ?_;refine bB ?_;refine bB ?_;refine dL ?_;refine bB ?_;refine sC ?_;refine Cn (v':=V.agg [V.nil,V.own (0:Nat)]) [(0,300089),(100,505)] [(2,V.ref (100:Nat) (0:Nat))] [(100,Ob.box (155:Nat) [V.nil,V.own (0:Nat)])] (.inr rfl) (.cons kR .nil) (.cons oS (.cons oS .nil)) kR kR kR kR kR kR kR
    ·simp at c4;refine aq ?_;refine Qk ?_;refine cn ?_;refine ai ?_;refine hK _ ?_;clear hK K;refine wR 4 ?_;refine aY aj 3 [(1,.c (iR ((↑k:Int)+1)) oM)] ?_;refine aa ?_;refine ai ?_;refine⟨k+1,by omega,?_,by omega⟩;refine aH (sl:=[(2,Ob.box (155:Nat) [V.nil,V.nil]),(4,Ob.box (41:Nat) [V.own (14:Nat)]),(5,Ob.box (231:Nat) [V.own (15:Nat)]),(14,Ob.row (2:Nat) (1:Nat) (List.length l) fun(v:Nat)=>[V.i (BS.r (cC b l (k+1)) v)]),(15,Ob.row (235:Nat) (5:Nat) (List.length l) fun(v:Nat)=>[V.i (E5.r (dy b l (cC b l (k+1)) v)),V.i (E5.a (dy b l (cC b l (k+1)) v)),V.i (E5.f (dy b l (cC b l (k+1)) v)),V.i (E5.t (dy b l (cC b l (k+1)) v)),V.i (E5.w (dy b l (cC b l (k+1)) v))])]) [(2,505),(4,500),(5,501),(14,502),(15,503)] (.cons kR (.cons kR (.cons kR (.cons kR (.cons kR (.cons kR .nil)))))) (.cons oS (.cons oS (.cons oS (.cons oS (.cons oS .nil))))) kR kR
section
variable {b:Bl}{l:List Pt}
theorem ku.fix(h:ku b l){k:Nat}(hk:(cC b l (k+1)).ch=none):tE b l (cC b l (k+1)).r/\∀g,tE b l g->∀v,v< l.length->g v<=(cC b l (k+1)).r v:=by
 have e:(cC b l (k+1)).r=(cC b l k).r:=by have:=(oV (s:=BS.rounds (bu b l) (dI b l) k) (k:=(k:Int)) hk).1;show((BS.rounds (bu b l) (dI b l) k).pass k (bu b l)).r=_;rw [this];rfl
 rw [e];exact⟨lV.1 (BQ h.e1.1 h.e1.2 hk),fun g hg v hv=>(e9 (i:=dI b l) h.e1.1 h.e1.2 k).sol g (lV.2 hg) v hv⟩
theorem rJ(hx:∃k,(cC b l (k+1)).ch=none):∃k,(cC b l (k+1)).ch=none/\∀k',k'< k->(cC b l (k'+1)).ch≠none:=by obtain⟨k,h1,h2⟩:=least (fun k=>(cC b l (k+1)).ch=none) hx;exact⟨k,h1,fun k' hk he=>by have:=h2 k' he;omega⟩
theorem Ek(h:ku b l){o:List Int}(ho:zB b l o):AC Tryz.prog 75 [.ptr (sM b l)] (.agg [V.ints o,.nil]) []:=by have he:=sH h.e1.1 h.e1.2 ⟨_,lV.2 ho.2.1.1⟩ (Nat.le_refl l.length);obtain⟨K,h1,h2⟩:=rJ (b:=b) (l:=l) ⟨l.length,he⟩;have hK:K<=l.length:=Classical.byContradiction fun hc=>h2 l.length oM he;obtain⟨f1,f2⟩:=h.fix h1;have eq:∀v,v< l.length->(cC b l (K+1)).r v=gi o v:=fun v hv=>Int.le_antisymm (ho.2.2 _ f1 v hv) (f2 _ ho.2.1.1 v hv);have A:=oX b l h (v:= .agg [.own 0,.nil]) (obs:=[.row 2 1 l.length fun i=>[.i ((cC b l (K+1)).r i)]]) ⟨by omega,h2,.inl ⟨h1,fun i hi=>by have:=ho.2.1.2 i hi;unfold oA;rw [eq i hi];omega,rfl,rfl⟩⟩;exact A.sP (n':=o.length) (row':=fun k=>[.i (gi o k)]) ho.1.symm (fun i hi=>by rw [eq i hi]) (fun _=>rfl) rfl rfl
theorem Ej(h:ku b l)(hno:¬ ∃o,zB b l o):∃(m:Nat) (A B:Nat->Int),0< m/\AC Tryz.prog 75 [.ptr (sM b l)] (.agg [.nil,.sl 2 m fun j=>[.i (A j),.i (B j)]]) []:=by
 by_cases hx:∃k,k<=l.length+1/\(cC b l (k+1)).ch=none
 ·obtain⟨k0,hk0,hk1⟩:=hx;obtain⟨K,h1,h2⟩:=rJ (b:=b) (l:=l) ⟨k0,hk1⟩;have hK:K<=k0:=Classical.byContradiction fun hc=>h2 k0 oM hk1;obtain⟨f1,f2⟩:=h.fix h1;have hbad:∃i,i< l.length/\¬oA b l (cC b l (K+1)) i:=Classical.byContradiction fun hc=>hno (JB h.bl.1.1 ⟨f1,fun v hv=>by have:oA b l (cC b l (K+1)) v:=Classical.byContradiction fun hb=>hc ⟨v,hv,hb⟩;unfold oA at this;omega⟩);obtain⟨i,⟨hi,hb⟩,hmin⟩:=least (fun i=>i< l.length/\¬oA b l (cC b l (K+1)) i) hbad;have hinv:=h.inv K (Nat.le_refl (bu b l).length);rw [qH]at hinv;have hpn:=oV (s:=BS.rounds (bu b l) (dI b l) K) (k:=(K:Int)) h1;have hs:∀e∈bu b l,(cC b l (K+1)).r e.t<=(cC b l (K+1)).r e.f+e.w:=by
   have e:(cC b l (K+1)).r=(cC b l K).r:=by show((BS.rounds (bu b l) (dI b l) K).pass K (bu b l)).r=_;rw [hpn.1];rfl
   rw [e];exact hpn.2
  obtain⟨T,t1,t2,t3⟩:=HY (x:=Dk b l i) (v:=i) h.e1.1 hinv hs hi rfl;have hclk:=hinv.clk i;have hc2:=sG (bu b l) (dI b l) (K+1);have hT:T<=1099511627775:=by have h4:=rH (b:=b) (l:=l);have h5:=h.len;have h6:(K+1)*(bu b l).length<=4099*12288:=Nat.mul_le_mul oM oM;have h7:(cC b l (K+1)).clk<=(K+1)*(bu b l).length:=hc2;omega
  have A:=oX b l h (v:= .agg [.nil,.own 0]) (obs:=_) ⟨by omega,h2,.inr (.inl ⟨i,T,h1,hi,fun j hj=>Classical.byContradiction fun hb=>by have:=hmin j ⟨by omega,hb⟩;omega,hb,hT,t2,t3,rfl,rfl⟩)⟩;exact⟨T+1,_,_,by omega,A.sP rfl (fun i hi=>rfl) (fun _=>rfl) rfl rfl⟩
 ·have hno1:∀k,k<=l.length+1->(cC b l (k+1)).ch≠none:=fun k hk he=>hx ⟨k,hk,he⟩;obtain⟨x,hch⟩:∃x,(cC b l (l.length+1+1)).ch=some x:=by
   cases hc:(cC b l (l.length+1+1)).ch with
   |none=>exact absurd hc (hno1 _ (Nat.le_refl _))
   |some x=>exact⟨x,rfl⟩
  have hinv:=h.inv (l.length+1) (Nat.le_refl (bu b l).length);rw [qH]at hinv;obtain⟨c1,c2⟩:=hinv.chg x hch;obtain⟨m1,p,m2,m3,m4,m5⟩:=zX (b:=b) h.e1.1 hinv c1 c2 oM;have A:=oX b l h (v:= .agg [.nil,.own 0]) (obs:=_) ⟨Nat.le_refl _,fun k hk=>hno1 k oM,.inr (.inr ⟨x,p,rfl,hch,m1,⟨m2,m4,by rw [gX];exact m3,fun q hq hqp=>by rw [gX];exact m5 q hq hqp⟩,rfl,rfl⟩)⟩;exact⟨p,_,_,m2,A.sP rfl (fun i hi=>rfl) (fun _=>rfl) rfl rfl⟩
end
theorem wY(b:Bl)(l:List Pt)(h:ku b l){o:List Int}(ho:zB b l o):AC Tryz.prog 28 [b.v,V.pts l] (.tup [V.ints o,.i 0]) []:=by refine eT aj bX Tryz.func28 Tryz.ntmps28 fun C hC hF=> ?_;refine sK fun K hK=> ?_;refine ag (n':=2) kR kR ?_;refine au aj (M:=[]) (n:=3) [pv (2:Nat) (V.ptr [V.i (Bl.per b),V.i (Bl.rim b),V.i (Bl.core b),V.i (Bl.land b),V.i (Bl.slow b),V.i (Bl.fast b)]),pv (4:Nat) V.nil,pv (5:Nat) (V.i (0:Int))] kR kR tI ?_;refine aa ?_;refine ai ?_;refine hK _ ?_;clear hK K;refine sK fun K hK=> ?_;refine ag (n':=3) kR kR ?_;refine aY aj 2 [] ?_;refine eC (sj b l h) ?_;refine aY aj 5 [] ?_;refine aa ?_;refine ai ?_;refine hK _ ?_;clear hK K;refine sK fun K hK=> ?_;refine sK fun K hK=> ?_;refine ag (n':=4) kR kR ?_;refine au aj (M:=[]) (n:=2) [pv (15:Nat) (V.i (0:Int)),pv (16:Nat) (V.b false)] kR kR tI ?_;refine aa ?_;refine ai ?_;refine hK _ ?_;clear hK K;refine aB (t:=false) kR rfl ?_;refine aq ?_;refine ai ?_;refine hK _ ?_;clear hK K;refine sK fun K hK=> ?_;refine ag (n':=5) kR kR ?_;refine aY aj 1 [] ?_;refine eC (Ek h ho) ?_;refine aY aj 2 [(1,.c ((0:Nat)+(2:Nat)<=(2:Nat)) oM)] ?_;refine aa ?_;refine ai ?_;refine hK _ ?_;clear hK K;refine sK fun K hK=> ?_;refine sK fun K hK=> ?_;refine ag (n':=6) kR kR ?_;refine au aj (M:=[]) (n:=4) [pv (20:Nat) (V.ref (400008:Nat) (1:Nat)),pc (21:Nat) ((1:Nat)<=(2:Nat)) V.nil,pv (22:Nat) (V.i (0:Int)),pv (23:Nat) (V.b false)] kR kR ⟨oM,tI⟩ ?_;refine aa ?_;refine ai ?_;refine hK _ ?_;clear hK K;refine aB (t:=false) kR rfl ?_;refine aq ?_;refine ai ?_;refine hK _ ?_;clear hK K;refine sK fun K hK=> ?_;refine ag (n':=7) kR kR ?_;refine aY aj 4 [(1,.c ((0:Nat)<=(2:Nat)) oM)] ?_;refine aa ?_;refine ai ?_;refine hK _ ?_;clear hK K;refine av ?_;refine rP (V.tup [V.sl (1:Nat) (List.length o) fun(k:Nat)=>[V.i (gi o k)],V.i (0:Int)])
theorem wX(b:Bl)(l:List Pt)(h:ku b l)(hno:¬ ∃o,zB b l o):AC Tryz.prog 28 [b.v,V.pts l] (.tup [.nil,.i 15]) []:=by
 obtain⟨m,A,B,hm,S⟩:=Ej h hno;refine eT aj bX Tryz.func28 Tryz.ntmps28 fun C hC hF=> ?_;refine sK fun K hK=> ?_;refine ag (n':=2) kR kR ?_;refine au aj (M:=[]) (n:=3) [pv (2:Nat) (V.ptr [V.i (Bl.per b),V.i (Bl.rim b),V.i (Bl.core b),V.i (Bl.land b),V.i (Bl.slow b),V.i (Bl.fast b)]),pv (4:Nat) V.nil,pv (5:Nat) (V.i (0:Int))] kR kR tI ?_;refine aa ?_;refine ai ?_;refine hK _ ?_;clear hK K;refine sK fun K hK=> ?_;refine ag (n':=3) kR kR ?_;refine aY aj 2 [] ?_;refine eC (sj b l h) ?_;refine aY aj 5 [] ?_;refine aa ?_;refine ai ?_;refine hK _ ?_;clear hK K;refine sK fun K hK=> ?_;refine sK fun K hK=> ?_;refine ag (n':=4) kR kR ?_;refine au aj (M:=[]) (n:=2) [pv (15:Nat) (V.i (0:Int)),pv (16:Nat) (V.b false)] kR kR tI ?_;refine aa ?_;refine ai ?_;refine hK _ ?_;clear hK K;refine aB (t:=false) kR rfl ?_;refine aq ?_;refine ai ?_;refine hK _ ?_;clear hK K;refine sK fun K hK=> ?_;refine ag (n':=5) kR kR ?_;refine aY aj 1 [] ?_;refine eC (S) ?_;refine aY aj 2 [(1,.c ((0:Nat)+(2:Nat)<=(2:Nat)) oM)] ?_;refine aa ?_;refine ai ?_;refine hK _ ?_;clear hK K;refine sK fun K hK=> ?_;refine sK fun K hK=> ?_;refine ag (n':=6) kR kR ?_;refine aY aj 4 [(1,.c ((1:Nat)<=(2:Nat)) oM)] ?_;refine aa ?_;refine ai ?_;refine hK _ ?_;clear hK K;refine ax (t:=decide ((0:Int)< (↑m:Int))) kR (fun c1=> ?_) (fun c1=> ?_);·refine sK fun K hK=> ?_;refine ag (n':=7) kR kR ?_;refine au aj (M:=[]) (n:=2) [pv (4:Nat) V.nil,pv (5:Nat) (V.i (15:Int))] kR kR tI ?_;refine aa ?_;refine ai ?_;refine hK _ ?_;clear hK K;refine av ?_;refine bB ?_;refine rP (V.tup [V.nil,V.i (15:Int)])
 ·simp at c1;omega
def Nk(S:Sh):Prop:=∀f,f< S.q->0<=(S.g f).1/\0<=(S.g f).2/\(S.g f).2<=359
theorem MN{S:Sh}(h:Nk S)(a:Act):Nk (dA S a).1:=by
 refine jW (fun x=>Nk x.1) (fun _ _=>h) (fun _ _=>h) (fun _ _ _=>h) (fun _ _ _ _ _ _=>h) (fun hv k4 c1 _=> ?_) (fun _ _ _ _ _ _=>h) (fun _ _ _ _=>h);intro f hf;have hf:f< S.q+1:=hf;show 0<=(zO S.g S.q (a.plate,a.place) f).1/\0<=(zO S.g S.q (a.plate,a.place) f).2/\(zO S.g S.q (a.plate,a.place) f).2<=359;unfold zO;by_cases c:f< S.q;·rw [if_pos c];exact h f c
 ·rw [if_neg c];unfold cm at hv;rw [if_neg oM,if_neg oM,if_neg oM,if_pos k4]at hv;simp [aC]at hv;exact⟨c1.1,hv.1,hv.2⟩
theorem MM{S:Sh}(h:Nk S):∀l,Nk (cZ S l):=by
 intro l;induction l generalizing S with
 |nil=>exact h
 |cons a l ih=>exact ih (MN h a)
theorem Ms(r:Rc):Nk (cU r):=fun f hf=>absurd hf (Nat.not_lt_zero _)
theorem Hs{t:List Int}{l l':List Pt}(hl:l'.length=l.length){i j:Nat}(he:∀u,u≠i->gp l' u=gp l u)(hj:j< l.length)(ht:t.length<=cQ i j)(h0:0< t.length):gp (eS t l') j=gp (eS t l) j:=by
 rw [xZ hj,xZ (by rw [hl];exact hj),hl];have hji:j≠i:=fun e=>by subst e;unfold cQ at ht;omega
 generalize l.length=n;induction n with
 |zero=>exact he j hji
 |succ n ih=>
  rw [iP,iP,ih];unfold sV;by_cases hn:n=i;·subst hn;rw [if_neg oM,if_neg oM]
  ·rw [he n hn]
def rU(S:Sh)(g:List Pt)(i:Nat):List Pt:=if dc S i% 2=1 then g else fq g
theorem jN(S:Sh)(g:List Pt)(i:Nat):(rU S g i).length=g.length:=by unfold rU;split <;> simp [k7]
theorem L4{S:Sh}{g g':List Pt}{k i:Nat}(h:∀u,u≠i->gp g' u=gp g u):∀u,u≠i->gp (rU S g' k) u=gp (rU S g k) u:=fun u hu=>by
 unfold rU;split;·exact h u hu
 ·rw [qE,qE,h u hu]
def nZ(g:List Pt)(i:Nat)(x y:Int):List Pt:=g.set i (min 4194304 ((gp g i).1+x),max (-4194304) ((gp g i).2- y))
theorem yW(g:List Pt)(i:Nat)(x y:Int):(nZ g i x y).length=g.length:=by unfold nZ;rw [List.length_set]
theorem wz{g:List Pt}{i u:Nat}{x y:Int}(h:u≠i):gp (nZ g i x y) u=gp g u:=by unfold nZ gp;rw [List.getD_eq_getElem?_getD,List.getElem?_set,if_neg (fun e=>h e.symm),<-List.getD_eq_getElem?_getD]
theorem HA{g:List Pt}{i:Nat}{x y:Int}(h:i< g.length):gp (nZ g i x y) i=(min 4194304 ((gp g i).1+x),max (-4194304) ((gp g i).2- y)):=by unfold nZ;rw [gp,List.getD_eq_getElem?_getD,List.getElem?_set,if_pos rfl,if_pos h];rfl
theorem JW{g:List Pt}(hg:∀j,j< g.length->gE (gp g j)=true){i:Nat}{x y:Int}(hx:0<=x)(hy:0<=y):∀j,j< (nZ g i x y).length->gE (gp (nZ g i x y) j)=true:=fun j hj=>by
 rw [yW]at hj;by_cases h:j=i;·subst h;have:=kQ.1 (hg j hj);rw [HA hj,kQ];simp only;omega
 ·rw [wz h];exact hg j hj
theorem Mq{g:List Pt}(hg:∀j,j< g.length->gE (gp g j)=true):∀j,j< (fq g).length->gE (gp (fq g) j)=true:=fun j hj=>by rw [k7]at hj;have:=kQ.1 (hg j hj);rw [qE,kQ];simp only;omega
theorem L6{S:Sh}{g:List Pt}(hg:∀j,j< g.length->gE (gp g j)=true)(k:Nat):∀j,j< (rU S g k).length->gE (gp (rU S g k) j)=true:=by
 unfold rU;split;·exact hg
 ·exact Mq hg
theorem KB{g:List Pt}(hl:g.length<=4096)(hg:∀j,j< g.length->gE (gp g j)=true):bZ g=0:=by rw [bZ,if_neg oM,if_pos (mJ.2 fun j hj=> ?_)];have:=kQ.1 (hg j hj);exact(uv _).2 oM
theorem IX{l:List Pt}{o:List Int}{n i:Nat}{x:Int}(hi:i< l.length)(hn:i< n)(h1:gi o i+(gp l i).1<=x)(h2:x<=gi o i+(gp l i).2):rE l o n i x=((i:Int),0):= rF hi (Nat.mod_eq_of_lt hn) (by simp [mR,h1,h2]) fun j hj=>by
 have:j% n≠i:=by rw [Nat.mod_eq_of_lt oM];omega
 simp [this]
def cK(S:Sh)(f:Int)(k:Nat):List Nat:=(List.range k).filter fun i=>(S.pl i).fl f
def gJ(S:Sh)(f:Int)(k j:Nat):List V:=[.i (((cK S f k).getD j 0:Nat):Int)]
theorem BJ{S:Sh}{f:Int}{k:Nat}(h:(S.pl k).fl f=true):cK S f (k+1)=cK S f k++[k]:=by unfold cK;rw [List.range_succ,List.filter_append];simp [h]
theorem BI{S:Sh}{f:Int}{k:Nat}(h:(S.pl k).fl f=false):cK S f (k+1)=cK S f k:=by unfold cK;rw [List.range_succ,List.filter_append];simp [h]
theorem um(S:Sh)(f:Int)(k:Nat):(cK S f k).length<=k:=Nat.le_trans (List.length_filter_le _ _) (by rw [List.length_range];exact Nat.le_refl _)
theorem Db{S:Sh}{f:Int}{k i:Nat}:i∈cK S f k<->i< k/\(S.pl i).fl f=true:=by unfold cK;rw [List.mem_filter,List.mem_range]
theorem IL{S:Sh}{f:Int}{k:Nat}(c2:(S.pl k).fl f=true){i:Nat}(hi:i< (cK S f k).length+1):aF (cK S f k).length (gJ S f k) (fun i=>List.take 1 (List.drop (i*1) [V.i (k:Int)])) i=gJ S f (k+1) i:=by
 simp only [gJ,aF];rw [BJ c2];by_cases h:i< (cK S f k).length;·rw [if_pos h,List.getD_eq_getElem?_getD,List.getD_eq_getElem?_getD,List.getElem?_append_left h]
 ·have:i=(cK S f k).length:=by omega
  subst this;rw [if_neg h,Nat.sub_self,List.getD_eq_getElem?_getD,List.getElem?_append_right (Nat.le_refl _),Nat.sub_self];rfl
theorem IK{S:Sh}{f:Int}{k:Nat}(c2:(S.pl k).fl f=false):gJ S f (k+1)=gJ S f k:=by funext i;unfold gJ;rw [BI c2]
theorem zx(S:Sh)(hn:S.n<=200)(f:Int)(hf:0<=f/\f< S.q)(hq:S.q<=1000):AC Tryz.prog 29 [qC S,.i f] (.tup [.own 0,.i 0]) [.row 3 1 (cK S f S.n).length (gJ S f S.n)]:=by
 refine eT aj bX Tryz.func29 Tryz.ntmps29 fun C hC hF=> ?_;refine sK fun K hK=> ?_;refine ag (n':=2) kR kR ?_;refine au aj (M:=[]) (n:=2) [pv (4:Nat) V.nil,pv (5:Nat) (V.i (0:Int))] kR kR tI ?_;refine aa ?_;refine ai ?_;refine hK _ ?_;clear hK K;refine sK fun K hK=> ?_;refine sK fun K hK=> ?_;refine ag (n':=3) kR kR ?_;refine aY aj 2 [] ?_;refine eC (ud S f hf hq) ?_;refine aY aj 7 [] ?_;refine aa ?_;refine ai ?_;refine hK _ ?_;clear hK K;refine sK fun K hK=> ?_;refine ag (n':=4) kR kR ?_;refine au aj (M:=[]) (n:=2) [pv (21:Nat) (V.i (0:Int)),pv (22:Nat) (V.b false)] kR kR tI ?_;refine aa ?_;refine ai ?_;refine hK _ ?_;clear hK K;refine aB (t:=false) kR rfl ?_;refine aq ?_;refine ai ?_;refine hK _ ?_;clear hK K;refine sK fun K hK=> ?_;refine ag (n':=5) kR kR ?_;refine au aj (M:=[]) (n:=1) [pv (9:Nat) V.nil] kR kR tI ?_;refine aa ?_;refine ai ?_;refine hK _ ?_;clear hK K;refine sK fun K hK=> ?_;refine sK fun K hK=> ?_;refine ag (n':=6) kR kR ?_;refine aY aj 6 [] ?_;refine aa ?_;refine ai ?_;refine hK _ ?_;clear hK K;refine az ?_;refine lG (qF 9 3 1 (gJ S f 0) kR rfl) ?_;refine dO (ι:=Nat) (fun k=>[(1,.i f),(9,.own 5),(27,.sl 1 S.n fun i=>[.ptr (O9 S i)]),(28,.i S.n),(29,.i (k:Nat))]) (fun k=>[(5,.row 3 1 (cK S f k).length (gJ S f k))]) (fun k=>k<=S.n) (fun k=>S.n- k) 0 (Nat.zero_le _) ?_ ?_;·refine aH (sl:=[(5,Ob.row (3:Nat) (1:Nat) (0:Nat) (gJ S f (0:Nat)))]) [(5,600009)] (.cons kR (.cons kR (.cons kR (.cons kR (.cons kR .nil))))) (.cons oS .nil) kR kR
 intro k hk;have hbl:=um S f k;refine sK fun K hK=> ?_;refine ag (n':=2) kR kR ?_;refine au aj (M:=[]) (n:=1) [pv (30:Nat) (V.b (decide ((↑k:Int)< (↑(Sh.n S):Int))))] kR kR tI ?_;refine aa ?_;refine ai ?_;refine hK _ ?_;clear hK K;refine sK fun K hK=> ?_;refine ax (t:=decide ((↑k:Int)< (↑(Sh.n S):Int))) kR (fun c1=> ?_) (fun c1=> ?_)
 ·have hk1:k< S.n:=by simpa using c1
  refine aq ?_;refine ai ?_;refine hK _ ?_;clear hK K;refine sK fun K hK=> ?_;refine az ?_;refine sK fun K hK=> ?_;refine ag (n':=3) kR kR ?_;refine aY aj 5 [(1,.c ((0:Int)<=(↑k:Int)/\(↑k:Int)< (↑(Sh.n S):Int)) oM)] ?_;refine aa ?_;refine ai ?_;refine hK _ ?_;clear hK K;refine sK fun K hK=> ?_;refine ag (n':=4) kR kR ?_;refine aY aj 12 [(10,.c ((0:Nat)+(0:Nat)<=(0:Nat)) oM)] ?_;refine aa ?_;refine ai ?_;refine hK _ ?_;clear hK K;refine sK fun K hK=> ?_;refine ag (n':=5) kR kR ?_;refine au aj (M:=[]) (n:=1) [pv (43:Nat) (V.b (Pl.fl (Sh.pl S k) f))] kR kR tI ?_;refine aa ?_;refine ai ?_;refine hK _ ?_;clear hK K;refine ax (t:=Pl.fl (Sh.pl S k) f) kR (fun c2=> ?_) (fun c2=> ?_);·refine ag (n':=6) kR kR ?_;refine aX aj 5 [(3,.r (PR.mk (some (47:Nat)) (some (List.length (cK S f k)+1<=(1099511627776:Nat))) (V.own (500047:Nat)) [((5:Nat),none),((500047:Nat),some (Ob.row (3:Nat) (1:Nat) (List.length (cK S f k)+1) (aF (List.length (cK S f k)) (gJ S f k) fun(i:Nat)=>List.take (1:Nat) (List.drop (i*1) [V.i (↑k:Int)]))))] false))] ⟨oM,tI⟩ ?_;refine aa ?_;refine cn ?_;refine ai ?_;refine hK _ ?_;clear hK K;refine ag (n':=7) kR kR ?_;refine aY aj 2 [(0,.c (iR ((↑k:Int)+1)) oM)] ?_;refine aa ?_;refine ai ?_;refine⟨k+1,by omega,?_,by omega⟩;rw [show(cK S f (k+1)).length=(cK S f k).length+1 by rw [BJ c2,List.length_append];rfl];refine aH (tl:=[(1,V.i f),(9,V.own (5:Nat)),(27,V.sl (1:Nat) (Sh.n S) fun(i:Nat)=>[V.ptr (O9 S i)]),(28,V.i (↑(Sh.n S):Int)),(29,V.i (↑(k+1):Int))]) (sl:=[(5,Ob.row (3:Nat) (1:Nat) (List.length (cK S f k)+1) (gJ S f (k+1)))]) [(5,500047)] (.cons kR (.cons kR (.cons kR (.cons kR (.cons kR .nil))))) (.cons ⟨Ob.row (3:Nat) (1:Nat) (List.length (cK S f k)+1) (aF (List.length (cK S f k)) (gJ S f k) fun(i:Nat)=>List.take (1:Nat) (List.drop (i*1) [V.i (↑k:Int)])),kR,.row kR ?_⟩ .nil) kR kR;·intro i hi;rw [IL c2 hi];rfl
  ·refine aq ?_;refine cn ?_;refine ai ?_;refine hK _ ?_;clear hK K;refine ag (n':=6) kR kR ?_;refine aY aj 2 [(0,.c (iR ((↑k:Int)+1)) oM)] ?_;refine aa ?_;refine ai ?_;refine⟨k+1,by omega,?_,by omega⟩;rw [BI c2];refine aH (tl:=[(1,V.i f),(9,V.own (5:Nat)),(27,V.sl (1:Nat) (Sh.n S) fun(i:Nat)=>[V.ptr (O9 S i)]),(28,V.i (↑(Sh.n S):Int)),(29,V.i (↑(k+1):Int))]) (sl:=[(5,Ob.row (3:Nat) (1:Nat) (List.length (cK S f k)) (gJ S f (k+1)))]) [(5,5)] (.cons kR (.cons kR (.cons kR (.cons kR (.cons kR .nil))))) (.cons ⟨Ob.row (3:Nat) (1:Nat) (List.length (cK S f k)) (gJ S f k),kR,.row kR ?_⟩ .nil) kR kR;·intro i hi;rw [IK c2];rfl
 ·have hk1:k=S.n:=by simp at c1;omega
  subst hk1;refine bN ?_;refine cO ?_;refine cO ?_;refine cg ?_;refine ai ?_;clear hK K;refine hK _ ?_;clear hK K;refine sK fun K hK=> ?_;refine ag (n':=3) kR kR ?_;refine au aj (M:=[]) (n:=3) [pv (49:Nat) (V.own (5:Nat)),pv (4:Nat) (V.own (5:Nat)),pv (5:Nat) (V.i (0:Int))] kR kR tI ?_;refine aa ?_;refine ai ?_;refine hK _ ?_;clear hK K;refine av ?_;refine nY [(0,5)] [(4,V.own (0:Nat)),(5,V.i (0:Int))] (.inr rfl) (.cons kR (.cons kR .nil)) (.cons oS .nil) kR kR kR kR
def K6(S:Sh)(i:Int)(m:Nat):List V:=[.i (mB S i m)]
theorem Bb(S:Sh):∀f i,HU S f i<=f
 |0,_=>Nat.le_refl _
 |f+1,i=>by have:=Bb S f (S.pl i.toNat).par;rw [HU];split <;> omega
theorem u7(S:Sh)(hp:pG S)(hn:S.n<=200)(i:Int)(hi:i< S.n)(hi2: -1<=i) : AM Tryz.prog 163 [.nil,.fn (.func 129) [] [.ref 500 0,.ptr [qC S]]] [.box 3 [.i i]] (.own 0) [none] [.row 3 1 (dc S i) (K6 S i)]:=by
 have hL:dc S i<=201:=Nat.le_trans (Bb S _ _) oM;refine oq aj bX (fn:=Tryz.f163) (N:=_) ⟨Tryz.func163,rfl,Tryz.ntmps163,kR⟩ (by simp) (by simp) (by simp) fun C hF hC=> ?_;refine sK fun K hK=>wR 2 ?_;refine dU (M:=[2]) aj 2 [(0,.r (pn 2 (V.ref 100002 0) (100002:Nat) (Ob.box 69 [V.nil])))] tI ?_;refine nK hK ?_;clear hK K;refine sK fun K hK=>sK fun K hK=>wR 3 ?_;refine dU (M:=[2]) aj 1 [] tI ?_;refine nK hK ?_;clear hK K;refine az ?_;refine lG (jo 100002 0 3 1 (K6 S i) (t:=69) (cs:=[.nil]) kR rfl kR kR) ?_;refine s6 (caps:=[.ref 500 0,.ptr [qC S]]) [500] hF [501] [0] [(501,100002),(0,300000)] (fun _ _ h=>by rw [hC]at h;cases h) (MV S hp hn i hi hi2) kR kR rfl (by simp) ?hins ?hlen kR [(2,.ref 501 0)] (fun k=>k<=dc S i) (fun k=>[.box 69 [.own 0],.row 3 1 k (K6 S i)]) (fun _ _ _=>False) (Nat.zero_le _) kR kR kR kR ⟨by show _=_;kernel_rfl,trivial⟩
  ⟨⟨.box 69 [.own 300000],kR,rfl,rfl⟩,⟨.row 3 1 0 (K6 S i),kR,rfl,rfl,rfl,fun _ h=>absurd h (Nat.not_lt_zero _)⟩,trivial⟩ kR ?hdis ?round ?done ?stop
 case hins=>
  intro j k o q1 q2
  cases j with
   |zero=>simp at q1 q2;subst q1 q2;exact⟨kR,rfl⟩
   |succ j=>simp at q1
 case hlen=>intro x hx;simp [Er]at hx;obtain⟨m,_,rfl⟩:=hx;rfl
 case hdis=>intro p hp;simp at hp;rcases hp with h |h <;> subst h <;> simp [aO]
 case round=>
  rintro C' ⟨lx,hF'⟩ k x hx hk
  have hk1:k< dc S i:=by rw [<-s4];exact(List.getElem?_eq_some_iff.1 hx).1
  rw [ze hk1]at hx
  injection hx with hx
  subst hx
  refine wR 2 ?_;refine aY aj 1 [] ?_;refine aa (ai ?_)
  refine az ?_
  refine wR 3 (aX aj 5 [(0,.c ((0:Nat)<=(1:Nat))),(3,.r (PR.mk (some (11:Nat)) (some (k+1<=(1099511627776:Nat))) (V.own 200011) [((0:Nat),none),((200011:Nat),some (Ob.row 3 1 (k+1) (aF k (K6 S i) fun(i_1:Nat)=>List.take (1:Nat) (List.drop (i_1*1) [V.i (mB S i k)]))))] false)),(4,.r (pw ((0:Nat)+(1:Nat)<=(1:Nat)) (501:Nat) (Ob.box 69 [V.own 200011])))] ⟨oM,oM,oM,tI⟩ (aa (cn ?_)))
  refine⟨hk1,?_⟩
  refine aH (sl:=[(501,Ob.box 69 [V.own 0]),(0,Ob.row 3 1 (k+1) (K6 S i))]) [(0,200011)] .nil (.cons oS (.cons ⟨Ob.row 3 1 (k+1) (aF k (K6 S i) fun(i_1:Nat)=>List.take (1:Nat) (List.drop (i_1*1) [V.i (mB S i k)])),kR,.row kR ?_⟩ .nil)) kR kR
  ·intro j hj;by_cases h:j< k;·simp only [aF,if_pos h];rfl
   ·have:j=k:=by omega
    subst this;simp only [aF,if_neg h,Nat.sub_self];rfl
 case done=>
  intro _
  rw [s4]
  refine cn (ai (hK _ ?_));clear hK K;refine yS aj 2 2 [(0,.c ((0:Nat)<=(1:Nat)) oM)] ?_
  refine av ?_
  refine cI (v':=V.own 0) [(0,0)] [(4,V.own 0)] (.inr rfl) (.cons kR .nil) (.cons oS .nil) kR kR kR kR kR kR kR
 case stop=>intro k c sx _ hf;exact hf.elim
theorem zy(S:Sh)(hp:pG S)(hn:S.n<=200)(i:Int)(hi:i< S.n)(hi2: -1<=i) : AM Tryz.prog 119 [.fn (.func 129) [] [.ref 500 0,.ptr [qC S]]] [.box 3 [.i i]] (.own 0) [none] [.row 3 1 (dc S i) (K6 S i)]:=by refine oq aj bX (fn:=Tryz.f119) (N:=_) ⟨Tryz.func119,rfl,Tryz.ntmps119,kR⟩ (by simp) (by simp) (by simp) fun C hF hC=> ?_;refine yS aj 2 1 [] ?_;refine sK fun K hK=>wR 3 ?_;refine aY aj 1 [] ?_;refine eM [500] (u7 S hp hn i hi hi2) (iB .nil) ?_;refine yN aj 1 [] hK ?_;clear hK K;refine av ?_;refine cI (v':=V.own 0) [(0,200004)] [(2,V.own 0)] (.inr rfl) (.cons kR .nil) (.cons oS .nil) kR kR kR kR kR kR kR
theorem OW(S:Sh)(i:Int):AC Tryz.prog 82 [qC S,.i i] (.fn (.func 129) [] [.ref 0 0,.ptr [qC S]]) [.box 3 [.i i]]:=by refine eT aj bX Tryz.func82 Tryz.ntmps82 fun C hC hF=> ?_;refine sK fun K hK=>wR 2 ?_;refine dU (M:=[3]) aj 3 [(1,.r (pn (3:Nat) (V.ref (100003:Nat) (0:Nat)) (100003:Nat) (Ob.box (3:Nat) [V.i i])))] tI ?_;refine nK hK ?_;clear hK K;refine sK fun K hK=>wR 3 ?_;refine dU (M:=[3]) aj 2 [] tI ?_;refine nK hK ?_;clear hK K;refine av ?_;refine nY [(0,100003)] [(4,V.fn (Fn.func (129:Nat)) [] [V.ref (0:Nat) (0:Nat),V.ptr [V.ptr [V.b true,V.i (Rc.n0 (Sh.r S)),V.i (Rc.n1 (Sh.r S)),V.i (Rc.n2 (Sh.r S)),V.i (Rc.n3 (Sh.r S)),V.i (Rc.k0 (Sh.r S)),V.i (Rc.k1 (Sh.r S)),V.i (Rc.k2 (Sh.r S)),V.i (Rc.k3 (Sh.r S)),V.i (Rc.seed (Sh.r S)),V.i (Rc.soft (Sh.r S)),V.i (Rc.hard (Sh.r S)),V.i (Rc.mo (Sh.r S)),V.i (Rc.st (Sh.r S)),V.sl (1:Nat) (Sh.n S) fun(i:Nat)=>[V.ptr [V.i (↑(Pl.kind (Sh.pl S i)):Int),V.i (Pl.par (Sh.pl S i)),V.i (Pl.cut (Sh.pl S i)),V.i (Pl.area (Sh.pl S i)),V.i (Pl.aM (Sh.pl S i)),V.i (Pl.grown (Sh.pl S i)),V.b (Pl.ret (Sh.pl S i)),I9 (Sh.pl S i)]],V.sl (4:Nat) (Sh.m S) fun(i:Nat)=>aP.c (Sh.tk S i),V.sl (2:Nat) (Sh.q S) (bw (Sh.g S)),V.sl (13:Nat) (Sh.l S) bR]]])] (.inr rfl) (.cons kR .nil) (.cons oS .nil) kR kR kR kR
def oh(n i:Nat)(A:Nat->Int)(m:Nat):Int:=if m< i\/n< m+1+i then A (n- 1- m)else A m
theorem w6(n:Nat)(A:Nat->Int)(hn:n<=1099511627776):AM Tryz.prog 120 [.own 500] [.row 3 1 n (fun j=>[.i (A j)])] (.tup []) [some (.row 3 1 n (fun j=>[.i (A (n- 1- j))]))] []:=by
 refine aG aj bX (fn:=Tryz.f120) (N:=_) ⟨Tryz.func120,rfl,Tryz.ntmps120,kR⟩ (by simp) rfl (by simp) (by simp) fun C hF=> ?_;refine yS aj 2 5 [(2,.c (iR ((↑n:Int)- 1)) oM)] ?_;refine az ?_;refine dO (ι:=Nat) (fun i=>[(0,.own 500),(2,.i i),(3,.i ((n:Int)- 1- i))]) (fun i=>[(500,.row 3 1 n (fun j=>[.i (oh n i A j)]))]) (fun i=>2*i<=n+1) (fun i=>n- i) 0 oM ?_ ?_
 ·refine aH (tl:=[(0,V.own 500),(2,V.i 0),(3,V.i ((↑n:Int)- 1- (↑(0:Nat):Int)))]) (sl:=[(500,Ob.row 3 1 n fun(j:Nat)=>[V.i (oh n (0:Nat) A j)])]) [] (.cons kR (.cons kR (.cons ?_ .nil))) (.cons ⟨Ob.row 3 1 n fun(j:Nat)=>[V.i (A j)],kR,.row kR ?_⟩ .nil) kR kR;·show V.i ((n:Int)- 1)=V.i ((n:Int)- 1- ((0:Nat):Int));simp
  intro m hm;show _=[V.i (oh n 0 A m)];unfold oh;rw [if_neg oM]
 intro i hi;refine sK fun K hK=>yS aj 2 3 [] ?_;refine ax (t:=decide ((↑i:Int)< (↑n:Int)- 1- (↑i:Int))) kR (fun c1=> ?_) (fun c1=> ?_)
 ·simp at c1;have e:((n:Int)- 1- i).toNat=n- 1- i:=by omega
  refine aq ?_;refine ai (hK _ ?_);clear hK K;refine sK fun K hK=> ?_;refine az ?_;refine wD 3 ?_;refine aY aj 16 [(6,.c ((0:Int)<=(↑n:Int)- 1- (↑i:Int)/\(↑n:Int)- 1- (↑i:Int)< (↑n:Int)) oM),(0,.c (Int.toNat ((↑n:Int)- 1- (↑i:Int))< n/\(0:Nat)<=(1:Nat)) oM),(2,.c ((0:Int)<=(↑i:Int)/\(↑i:Int)< (↑n:Int)) oM),(0,.c (i< n/\(0:Nat)<=(1:Nat)) oM),(0,.c ((0:Int)<=(↑i:Int)/\(↑i:Int)< (↑n:Int)) oM),(0,.c (i< n/\(0:Nat)+(1:Nat)<=(1:Nat)) oM),(0,.c ((0:Int)<=(↑n:Int)- 1- (↑i:Int)/\(↑n:Int)- 1- (↑i:Int)< (↑n:Int)) oM),(0,.c (Int.toNat ((↑n:Int)- 1- (↑i:Int))< n/\(0:Nat)+(1:Nat)<=List.length (if Int.toNat ((↑n:Int)- 1- (↑i:Int))=i then [V.i (oh n i A (Int.toNat ((↑n:Int)- 1- (↑i:Int))))]else [V.i (oh n i A (Int.toNat ((↑n:Int)- 1- (↑i:Int))))])) ⟨oM,?_⟩)] ?_;·split <;> simp
  refine aa ⟨kR,(cn (ai (hK _ ?_)))⟩;clear hK K;refine wR 4 ?_;refine aY aj 6 [(1,.c (iR ((↑i:Int)+1)) oM),(1,.c (iR ((↑n:Int)- 1- (↑i:Int)- 1)) oM)] ?_;refine aa (ai ?_);refine⟨i+1,by omega,?_,by omega⟩;refine aH (tl:=[(0,V.own 500),(2,V.i (↑(i+1):Int)),(3,V.i ((↑n:Int)- 1- (↑(i+1):Int)))]) (sl:=[(500,Ob.row 3 1 n fun(j:Nat)=>[V.i (oh n (i+1) A j)])]) [] (.cons kR (.cons kR (.cons ?_ .nil))) (.cons ⟨Ob.row 3 1 n fun(j:Nat)=>if j=Int.toNat ((↑n:Int)- 1- (↑i:Int))then setCells (if Int.toNat ((↑n:Int)- 1- (↑i:Int))=i then [V.i (oh n i A (Int.toNat ((↑n:Int)- 1- (↑i:Int))))]else [V.i (oh n i A (Int.toNat ((↑n:Int)- 1- (↑i:Int))))]) (0:Nat) [V.c (Value.int IntKind.i64 (oh n i A i))]else if j=i then [V.i (oh n i A (Int.toNat ((↑n:Int)- 1- (↑i:Int))))]else [V.i (oh n i A j)],kR,.row kR ?_⟩ .nil) kR kR;·show V.i ((n:Int)- 1- i- 1)=V.i ((n:Int)- 1- ((i+1:Nat):Int));rw [show(n:Int)- 1- i- 1=(n:Int)- 1- ((i+1:Nat):Int) by omega]
  have hne:¬n- 1- i=i:=by omega
  have f1:oh n i A i=A i:=by unfold oh;rw [if_neg oM]
  have f2:oh n i A (n- 1- i)=A (n- 1- i):=by unfold oh;rw [if_neg oM]
  intro m hm;rw [e,if_neg hne];show _=[V.i (oh n (i+1) A m)];by_cases m1:m=n- 1- i
  ·have f3:oh n (i+1) A m=A i:=by unfold oh;rw [if_pos oM,show n- 1- m=i by omega]
   rw [if_pos m1,f3,f1];rfl
  ·rw [if_neg m1];by_cases m2:m=i
   ·have f4:oh n (i+1) A m=A (n- 1- i):=by unfold oh;rw [if_pos oM,m2]
    rw [if_pos m2,f4,f2]
   ·have f5:oh n (i+1) A m=oh n i A m:=by
     unfold oh;by_cases h:m< i\/n< m+1+i;·rw [if_pos h,if_pos oM]
     ·rw [if_neg h,if_neg oM]
    rw [if_neg m2,f5]
 ·simp at c1;refine bN ?_;refine cO ?_;refine cO ?_;refine cg ?_;refine cI (v':=V.tup []) [] [] (.inl rfl) .nil (.cons ⟨Ob.row 3 1 n fun(j:Nat)=>[V.i (oh n i A j)],kR,.row kR ?_⟩ .nil) kR kR kR kR kR kR kR;intro m hm;show [V.i (oh n i A m)]=[V.i (A (n- 1- m))];have e1:oh n i A m=A (n- 1- m):=by
   unfold oh;by_cases h:m< i\/n< m+1+i;·rw [if_pos h]
   ·rw [if_neg h,show n- 1- m=m by omega]
  rw [e1]
def B6(S:Sh)(i:Int)(j:Nat):List V:=[.i (mB S i (dc S i- 1- j))]
theorem Jz(S:Sh)(hp:pG S)(hn:S.n<=200)(i:Int)(hi:i< S.n)(hi2: -1<=i):AC Tryz.prog 72 [qC S,.i i] (.own 0) [.row 3 1 (dc S i) (B6 S i)]:=by
 have hL:dc S i<=201:=Nat.le_trans (Bb S _ _) oM;refine eT aj bX Tryz.func72 Tryz.ntmps72 fun C hC hF=> ?_;refine yS aj 2 1 [] ?_;refine sK fun K hK=>wR 3 ?_;refine aY aj 2 [] ?_;refine qz (first:=[]) (caps:=[]) (k:=200008) (v':=V.fn (Fn.func (129:Nat)) [] [V.ref (200008:Nat) (0:Nat),V.ptr [V.ptr [V.b true,V.i (Rc.n0 (Sh.r S)),V.i (Rc.n1 (Sh.r S)),V.i (Rc.n2 (Sh.r S)),V.i (Rc.n3 (Sh.r S)),V.i (Rc.k0 (Sh.r S)),V.i (Rc.k1 (Sh.r S)),V.i (Rc.k2 (Sh.r S)),V.i (Rc.k3 (Sh.r S)),V.i (Rc.seed (Sh.r S)),V.i (Rc.soft (Sh.r S)),V.i (Rc.hard (Sh.r S)),V.i (Rc.mo (Sh.r S)),V.i (Rc.st (Sh.r S)),V.sl (1:Nat) (Sh.n S) fun(i:Nat)=>[V.ptr [V.i (↑(Pl.kind (Sh.pl S i)):Int),V.i (Pl.par (Sh.pl S i)),V.i (Pl.cut (Sh.pl S i)),V.i (Pl.area (Sh.pl S i)),V.i (Pl.aM (Sh.pl S i)),V.i (Pl.grown (Sh.pl S i)),V.b (Pl.ret (Sh.pl S i)),I9 (Sh.pl S i)]],V.sl (4:Nat) (Sh.m S) fun(i:Nat)=>aP.c (Sh.tk S i),V.sl (2:Nat) (Sh.q S) (bw (Sh.g S)),V.sl (13:Nat) (Sh.l S) bR]]]) (ob':=Ob.box (3:Nat) [V.i i]) (OW S i) kR kR kR kR kR kR kR ?_;skip
 refine eM [200008] (zy S hp hn i hi hi2) (iB .nil) ?_;refine yN aj 1 [] hK ?_;clear hK K;refine sK fun K hK=>wR 4 ?_;refine aY aj 1 [] ?_;refine eM [200009] (w6 (dc S i) (mB S i) oM) (iW .nil) ?_;refine nK hK ?_;clear hK K;refine yS aj 5 2 [] ?_;refine av ?_;refine nY [(0,200009)] [(4,V.own (0:Nat))] (.inr rfl) (.cons kR .nil) (.cons oS .nil) kR kR kR kR
theorem Jf(S:Sh)(hn:S.n<=200)(k:Nat)(hk:k< S.n):AC Tryz.prog 71 [qC S,.i k] (.ptr (O9 S k)) []:=by
 refine eT aj bX Tryz.func71 Tryz.ntmps71 fun C hC hF=> ?_;refine yS aj 2 1 [] ?_;refine sK fun K hK=>yS aj 3 11 [] ?_;refine ax (t:=decide ((↑k:Int)< 0) || decide ((↑(Sh.n S):Int)<=(↑k:Int))) kR (fun c1=> ?_) (fun c1=> ?_);·simp at c1;omega
 refine aq ?_;refine ai (hK _ ?_);clear hK K;refine yS aj 4 8 [(5,.c ((0:Int)<=(↑k:Int)/\(↑k:Int)< (↑(Sh.n S):Int)) oM)] ?_;refine av ?_;refine rP (V.ptr [V.i (↑(Pl.kind (Sh.pl S k)):Int),V.i (Pl.par (Sh.pl S k)),V.i (Pl.cut (Sh.pl S k)),V.i (Pl.area (Sh.pl S k)),V.i (Pl.aM (Sh.pl S k)),V.i (Pl.grown (Sh.pl S k)),V.b (Pl.ret (Sh.pl S k)),I9 (Sh.pl S k)])
theorem EE(S:Sh)(hp:pG S)(hn:S.n<=200)(k:Nat)(hk:k< S.n):AC Tryz.prog 24 [qC S,.i k] (.tup [.own 0,.i 0]) [.row 3 1 (dc S k) (B6 S k)]:=by refine eT aj bX Tryz.func24 Tryz.ntmps24 fun C hC hF=> ?_;refine yS aj 2 2 [] ?_;refine sK fun K hK=>sK fun K hK=>wR 3 ?_;refine aY aj 1 [] ?_;refine eC (dD S.r (.sl 1 S.n fun i=>[.ptr ((S.pl i).c++[I9 (S.pl i)])]) (.sl 4 S.m fun i=>(S.tk i).c) (.sl 2 S.q (bw S.g)) (.sl 13 S.l bR)) ?_;refine nK hK ?_;clear hK K;refine aB (t:=false) kR rfl ?_;refine aq ?_;refine ai (hK _ ?_);clear hK K;refine sK fun K hK=>sK fun K hK=>wR 4 ?_;refine aY aj 2 [] ?_;refine eC (Jf S hn k hk) ?_;refine yN aj 1 [] hK ?_;clear hK K;refine aB (t:=false) kR rfl ?_;refine aq ?_;refine ai (hK _ ?_);clear hK K;refine sK fun K hK=>wR 5 ?_;refine aY aj 2 [] ?_;refine qz (first:=[]) (caps:=[]) (k:=400014) (v':=V.own 400014) (ob':=Ob.row 3 1 (dc S (↑k:Int)) fun(i:Nat)=>V.aS (ay (4:Nat) (some 14)) (B6 S (↑k:Int) i)) (Jz S hp hn k oM oM) kR kR kR kR kR kR kR ?_;refine yN aj 2 [] hK ?_;clear hK K;refine av ?_;refine nY [(0,400014)] [(4,V.own 0),(5,V.i 0)] (.inr rfl) (.cons kR (.cons kR .nil)) (.cons oS .nil) kR kR kR kR
end Go.Proofs.YtjmbpjlojjgggaaGreatDoor
