/-
  Several texts in one: The step of an operation, kind by kind: the same function, cheaper to run. No condition. .. Calls whose arguments are numerals, run to their ends: what they call is run, too. No condition.
-/
import Derived.Test.YtjmbpjlojjgggaaGreatDoorX00
import Derived.Test.YtjmbpjlojjgggaaGreatDoorX01
import Derived.Test.YtjmbpjlojjgggaaGreatDoorX02
import Derived.Test.YtjmbpjlojjgggaaGreatDoorX03
namespace Go.Ab
open Go.RowKit Go.Dw
def kX(v:V)(i:Nat):Option SR:=match v with
 | .tup cs=>match cs[i]? with
  |some v=>some (aI True v)
  |none=>none
 |_=>none
def Jt(T:List TI)(wr:Bool)(op:BinOp)(t:Nat)(u v:V):Option SR:=match Dc wr op u v with
 |some (c,v)=>some (aI c v)
 |none=>I3 T op t u v
def QH(wr:Bool)(op:UnOp)(v:V):Option SR:=match op with
 | .not=>match v with
  | .c (.bool b)=>some (aI True (.b (!b)))
  |_=>none
 | .neg=>match v with
  | .c (.int k a)=>if wr then some (aI True (.c (.int k (k.wrap (0- a)))))else some (aI (qm k (-a)) (.c (.int k (-a))))
  |_=>none
 |_=>none
def N6(T:List TI)(wr:Bool)(s t:Nat)(v:V):Option SR:=match v with
 | .c (.int _ a)=>match (T.getD t bE).kind with
  |some k=>if(T.getD s bE).some'=true then(if wr then some (aI True (.c (.int k (k.wrap a))))else some (aI (qm k a) (.c (.int k a))))else none
  |none=>none
 |_=>none
def Gw(T:List TI)(s f:Nat)(v:V):Option SR:=match ((T.getD s bE).fI[f]?).join with
 |some off=>match v with
  | .ptr cs=>some (aI True (.ptr (cs.drop off)))
  | .ref id o=>some (aI True (.ref id (o+off)))
  | .oel id sz i o=>some (aI True (.oel id sz i (o+off)))
  |_=>none
 |none=>none
def Gx(T:List TI)(t:Nat)(σ:Nat->Option Ob)(u v:V):Option SR:=match v with
 | .c (.int _ i)=>nG T t σ u i
 |_=>none
def Ml(T:List TI)(M:List Nat)(nx:Nat)(d:Option Tmp)(e:Operand->V)(σ:Nat->Option Ob)(t:Nat)(x:Operand)(lo hi mx:Option Operand):Option SR:=match mx with
 |none=>qN T M nx d e σ t x lo hi
 |some _=>none
def Mh(T:List TI)(nx:Nat)(d:Option Tmp)(t:Nat):Option SR:=match (T.getD t bE).zero with
 |some zs=>some ⟨True,.ref (nx*100000+d.getD 0) 0,[],[nx*100000+d.getD 0],[(nx*100000+d.getD 0,some (.box t zs))]⟩
 |none=>none
def PL(M:List Nat)(nx:Nat)(d:Option Tmp)(t:Nat)(v:V):Option SR:=match bY v with
 |some us=>if M.contains (d.getD 0)then some ⟨True,.ref (nx*100000+d.getD 0) 0,[],[nx*100000+d.getD 0],[(nx*100000+d.getD 0,some (.box t us))]⟩
  else if V.bA us=true then some (aI True (.ptr us))else none
 |none=>none
def Mi(T:List TI)(t:Nat)(parts:List (Nat×V)):Option SR:=match (T.getD t bE).zero,(T.getD t bE).pl with
 |some zs,some pl=>match iq (pl[·]?) zs parts with
  |some us=>some (aI True (.agg us))
  |none=>none
 |_,_=>none
def Ju(T:List TI)(M:List Nat)(nx:Nat)(d:Option Tmp)(t n:Nat)(parts:List (Nat×V)):Option SR:=match (T.getD t bE).elem with
 |some el=>match (T.getD el bE).zero,(T.getD el bE).size with
  |some zs,some sz=>match iq (fun i=>some (i*sz,sz)) (l7 n zs) parts with
   |some cs=>if zs.length=sz/\0< sz/\n*sz<=4096/\cs.length=n*sz then(if M.contains (d.getD 0)then
    some ⟨True,.own (nx*100000+d.getD 0),[],[nx*100000+d.getD 0],[(nx*100000+d.getD 0,some (.row el sz n fun i=>(cs.drop (i*sz)).take sz))]⟩
    else if V.bA cs=true then some (aI True (.sl sz n fun i=>(cs.drop (i*sz)).take sz))else none)else none
   |none=>none
  |_,_=>none
 |none=>none
def N7(T:List TI)(nx:Nat)(d:Option Tmp)(t:Nat)(u v:V):Option SR:=match u,v with
 | .c (.int _ l),.c (.int _ c)=>match (T.getD t bE).elem with
  |some el=>match (T.getD el bE).zero,(T.getD el bE).size with
   |some zs,some sz=>if mS T el sz zs then some ⟨0<=l/\l<=c/\c<=1099511627776,.own (nx*100000+d.getD 0),[],[nx*100000+d.getD 0],[(nx*100000+d.getD 0,some (.row el sz l.toNat fun _=>zs))]⟩else none
   |_,_=>none
  |none=>none
 |_,_=>none
def PM(T:List TI)(σ:Nat->Option Ob)(e:Operand->V)(c:Call):Option SR:=match c.args,c.argTypes with
 | ⟨[x]⟩,⟨[t]⟩=>B5 T t σ (e x)
 |_,_=>none
def PK(T:List TI)(nx:Nat)(d:Option Tmp)(ty:Nat)(σ:Nat->Option Ob)(e:Operand->V)(c:Call):Option SR:=match c.args,c.argTypes with
 | ⟨[s,x]⟩,⟨[t,t']⟩=>match ni T t (nx*100000+d.getD 0) σ (e s) (e x)with
  |some r=>if t'=t/\ty=t then some r else none
  |none=>none
 |_,_=>none
def PN(e:Operand->V)(c:Call):Option SR:=match c.args with
 | ⟨[x,y]⟩=>match e x,e y with
  | .c (.int k a),.c (.int k' b)=>if k=k' then some (aI True (.c (.int k (max a b))))else none
  |_,_=>none
 | ⟨[x,y,z]⟩=>match e x,e y,e z with
  | .c (.int k a),.c (.int k' b),.c (.int k'' q)=>if k=k'/\k=k'' then some (aI True (.c (.int k (max (max a b) q))))else none
  |_,_,_=>none
 | ⟨[x,y,z,u]⟩=>match e x,e y,e z,e u with
  | .c (.int k a),.c (.int k' b),.c (.int k'' q),.c (.int k3 p)=>if k=k'/\k=k''/\k=k3 then some (aI True (.c (.int k (max (max (max a b) q) p))))else none
  |_,_,_,_=>none
 |_=>none
def PO(e:Operand->V)(c:Call):Option SR:=match c.args with
 | ⟨[x,y]⟩=>match e x,e y with
  | .c (.int k a),.c (.int k' b)=>if k=k' then some (aI True (.c (.int k (min a b))))else none
  |_,_=>none
 |_=>none
def N5(T:List TI)(nx:Nat)(d:Option Tmp)(ty:Nat)(σ:Nat->Option Ob)(e:Operand->V)(c:Call):Option SR:=match c.callee with
 | .builtin .len=>PM T σ e c
 | .builtin .append=>PK T nx d ty σ e c
 | .builtin .max=>PN e c
 | .builtin .min=>PO e c
 |_=>none
def As(T:List TI)(wr:Bool)(M:List Nat)(nx:Nat)(o:Oper)(e:Operand->V)(σ:Nat->Option Ob):Option SR:=
 match o.op with
  | .move x=>some (aI True (e x))
  | .assign x=>some (aI True (e x))
  | .extract x i=>kX (e x) i
  | .binOp op t x y _=>Jt T wr op t (e x) (e y)
  | .unOp op _ x=>QH wr op (e x)
  | .convert s t x=>N6 T wr s t (e x)
  | .fieldAddr s x f=>Gw T s f (e x)
  | .indexAddr t x ix=>Gx T t σ (e x) (e ix)
  | .load t x=>kZ T t σ (e x)
  | .store t x y=>iU T t σ (e x) (e y)
  | .slice t x lo hi mx=>Ml T M nx o.dst e σ t x lo hi mx
  | .alloc t=>Mh T nx o.dst t
  | .box t y=>PL M nx o.dst t (e y)
  | .build t parts=>Mi T t (parts.toList.map fun p=>(p.1,e p.2))
  | .buildSlice t n parts=>Ju T M nx o.dst t n (parts.toList.map fun p=>(p.1,e p.2))
  | .makeSlice t x y=>N7 T nx o.dst t (e x) (e y)
  | .makeFunc f first caps=>some (aI True (.fn f (first.toList.map e) (caps.toList.map e)))
  | .call c=>N5 T nx o.dst o.type σ e c
  |_=>none
theorem DK(T:List TI)(wr:Bool)(M:List Nat)(nx:Nat)(o:Oper)(e:Operand->V)(σ:Nat->Option Ob):As T wr M nx o e σ=BD T wr M nx o e σ:=by
 obtain⟨d,op,ty,pos,af,gd⟩:=o;cases op <;> try rfl
 case unOp op t x=>cases op <;> rfl
def N4(T:List TI)(t:Nat)(u v:V):Option SR:=match u,v with
 | .agg cs,.c (.int _ i)=>match (T.getD t bE).arr with
  |some (n,el)=>match (T.getD el bE).size with
   |some sz=>match iM T el (cs.drop (i.toNat*sz))with
    |some v=>some (aI (0<=i/\i< n) v)
    |none=>none
   |none=>none
  |none=>none
 |_,_=>none
def Jq(T:List TI)(t:Nat)(parts:List (Nat×V)):Option SR:=match (T.getD t bE).zero,(T.getD t bE).arr with
 |some zs,some (_,el)=>match (T.getD el bE).size with
  |some sz=>match iq (fun i=>some (i*sz,sz)) zs parts with
   |some us=>some (aI True (.agg us))
   |none=>none
  |none=>none
 |_,_=>none
def Js(T:List TI)(t:Nat)(v:V)(lo hi mx:Option Operand):Option SR:=match lo,hi,mx with
 |none,none,none=>match v,(T.getD t bE).arr with
  | .ptr cs,some (n,el)=>match (T.getD el bE).size with
   |some sz=>if cs.length=n*sz then some (aI True (.sl sz n fun i=>(cs.drop (i*sz)).take sz))else none
   |none=>none
  |_,_=>none
 |_,_,_=>none
def Mg(T:List TI)(σ:Nat->Option Ob)(e:Operand->V)(c:Call):Option SR:=match c.args,c.argTypes with
 | ⟨[x,y]⟩,⟨[t,_]⟩=>match (T.getD t bE).elem with
  |some el=>if(T.getD el bE).size=some 1 then(match e x,e y with
   | .own id,.sl sz m row'=>match σ id with
    |some (.row e' sz' n row)=>if sz=1/\sz'=1 then some ⟨0< n/\0< m,.i ((min m n:Nat):Int),[(id,.row e' sz' n row)],[],[(id,some (.row e' sz' n fun j=>if j< min m n then row' j else row j))]⟩else none
    |_=>none
   |_,_=>none)else none
  |none=>none
 |_,_=>none
def PI(T:List TI)(t:Nat)(u v:V):Option SR:=match u,v with
 | .c (.bool a),.c (.bool b)=>if(T.getD t bE).tC=some 1000000 then some (aI True (.b (a == b)))else none
 | .c (.string a),.c (.string b)=>some (aI True (.b (a.toList == b.toList)))
 |u,.c (.pointer none)=>match oW u with
  |some b=>if(T.getD t bE).tC=some 1000002 then some (aI True (.b b))else none
  |none=>none
 |_,_=>match (T.getD t bE).elem with
  |some _=>match DV u v with
   |some (c,b)=>some (aI c (.b (b)))
   |none=>none
  |none=>none
def PJ(T:List TI)(t:Nat)(u v:V):Option SR:=match u,v with
 | .c (.bool a),.c (.bool b)=>if(T.getD t bE).tC=some 1000000 then some (aI True (.b (!(a == b))))else none
 | .c (.string a),.c (.string b)=>some (aI True (.b (!(a.toList == b.toList))))
 |u,.c (.pointer none)=>match oW u with
  |some b=>if(T.getD t bE).tC=some 1000002 then some (aI True (.b (!b)))else none
  |none=>none
 |_,_=>match (T.getD t bE).elem with
  |some _=>match DV u v with
   |some (c,b)=>some (aI c (.b (!b)))
   |none=>none
  |none=>none
def N3(T:List TI)(op:BinOp)(t:Nat)(u v:V):Option SR:=match op with
 | .eql=>PI T t u v
 | .neq=>PJ T t u v
 |_=>none
def Mf(T:List TI)(σ:Nat->Option Ob)(e:Operand->V)(c:Call):Option SR:=match c.callee with
 | .builtin .copy=>Mg T σ e c
 |_=>none
def pT(v:V):Option SR:=match v.uA with
 |true=>some (aI True v)
 |false=>none
def vY(T:List TI)(o:Oper)(e:Operand->V)(σ:Nat->Option Ob):Option SR:=
 match o.op with
  | .index t x ix=>N4 T t (e x) (e ix)
  | .build t parts=>Jq T t (parts.toList.map fun p=>(p.1,e p.2))
  | .slice t x lo hi mx=>Js T t (e x) lo hi mx
  | .call c=>Mf T σ e c
  | .nilCheck x=>pT (e x)
  | .binOp op t x y _=>N3 T op t (e x) (e y)
  |_=>none
theorem DL(T:List TI)(o:Oper)(e:Operand->V)(σ:Nat->Option Ob):vY T o e σ=vk T o e σ:=by
 obtain⟨d,op,ty,pos,af,gd⟩:=o;cases op <;> try rfl
 case binOp op t x y t'=>cases op <;> rfl
 case slice t x lo hi mx=>cases lo <;> cases hi <;> cases mx <;> rfl
 case nilCheck x=>
  show pT (e x)=if(e x).uA=true then some (aI True (e x))else none
  unfold pT
  cases (e x).uA <;> rfl
def pU(T:List TI)(wr:Bool)(M:List Nat)(nx:Nat)(o:Oper)(e:Operand->V)(σ:Nat->Option Ob):Option SR:=
 match As T wr M nx o e σ with
  |some r=>some r
  |none=>match vY T o e σ with
   |some r=>some r
   |none=>match vm T nx o e σ with
    |some r=>some r
    |none=>vo T o e
theorem GB(T:List TI)(wr:Bool)(M:List Nat)(nx:Nat)(o:Oper)(e:Operand->V)(σ:Nat->Option Ob):pU T wr M nx o e σ=kI T wr M nx o e σ:=by unfold pU kI;rw [DK,DL];rfl
def QJ(wr:Bool)(op:BinOp)(k:IntKind)(a b:Int):PQ:=match op with
 | .add=>match wr with |true=> .tt |false=>vV k (a+b)
 | .sub=>match wr with |true=> .tt |false=>vV k (a- b)
 | .mul=>match wr with |true=> .tt |false=>vV k (a*b)
 | .quo=>match wr with |true=> .ne b 0 |false=> .and (.lt 0 b) (vV k a)
 | .rem=> .ne b 0
 | .shl=>match wr with |true=> .le 0 b |false=> .and (.le 0 b) (.and (.le b k.bits) (vV k (a*2 ^ b.toNat)))
 | .shr=> .le 0 b
 |_=> .tt
def P2(wr:Bool)(op:BinOp)(u v:V):PQ:=match u,v with
 | .c (.int k a),.c (.int _ b)=>QJ wr op k a b
 | .sl _ n _,.nil=> .nlt 0 n
 | .nil,.sl _ n _=> .nlt 0 n
 |_,_=> .tt
def P4(wr:Bool)(v:V):PQ:=match v with
 | .c (.int k a)=>match wr with |true=> .tt |false=>vV k (-a)
 |_=> .tt
def Oj(T:List TI)(wr:Bool)(t:Nat)(v:V):PQ:=match v with
 | .c (.int _ a)=>match (T.getD t bE).kind with
  |some k=>match wr with |true=> .tt |false=>vV k a
  |none=> .tt
 |_=> .tt
def D3(T:List TI)(t:Nat)(i:Int):PQ:=match (T.getD t bE).arr with
 |some (n,_)=>Jn i n
 |none=> .tt
def JN(T:List TI)(t:Nat)(σ:Nat->Option Ob)(u v:V):PQ:=match v with
 | .c (.int _ i)=>match u with
  | .sl _ n _=>Jn i n
  | .own id=>match σ id with
   |some (.row _ _ n _)=>Jn i n
   |_=> .tt
  |_=>D3 T t i
 |_=> .tt
def P3(T:List TI)(t:Nat)(u v:V):PQ:=match v with
 | .c (.int _ i)=>match u with
  | .c (.string b)=>Jn i b.size
  |_=>D3 T t i
 |_=> .tt
def Cj(σ:Nat->Option Ob)(v:V):PQ:=match v with
 | .ref id o=>match σ id with
  |some (.box _ cs)=> .nle o cs.length
  |_=> .tt
 | .oel id _ i o=>match σ id with
  |some (.row _ _ n row)=> .and (.nlt i n) (.nle o (row i).length)
  |_=> .tt
 |_=> .tt
def wo(σ:Nat->Option Ob)(u v:V):PQ:=match bY v with
 |some us=>match u with
  | .ref id o=>match σ id with
   |some (.box _ cs)=> .nle (o+us.length) cs.length
   |_=> .tt
  | .oel id _ i o=>match σ id with
   |some (.row _ _ n row)=> .and (.nlt i n) (.nle (o+us.length) (row i).length)
   |_=> .tt
  |_=> .tt
 |none=> .tt
def ME(σ:Nat->Option Ob)(e:Operand->V)(v:V)(lo hi:Option Operand):PQ:=match v with
 | .sl _ n _=>Nr e lo hi n false
 | .own id=>match σ id with
  |some (.row _ _ n _)=>Nr e lo hi n true
  |_=> .tt
 | .c (.string b)=>Nr e lo hi b.size false
 |_=> .tt
def Om(u v:V):PQ:=match u,v with
 | .c (.int _ l),.c (.int _ c)=> .and (.le 0 l) (.and (.le l c) (.le c 1099511627776))
 |_,_=> .tt
def PZ(σ:Nat->Option Ob)(e:Operand->V)(c:Call):PQ:=match c.args with
 | ⟨[s,x]⟩=>match e x with
  | .sl _ m _=>match e s with
   | .nil=> .nle m 1099511627776
   | .own id=>match σ id with
    |some (.row _ _ n _)=> .nle (n+m) 1099511627776
    |_=> .tt
   |_=> .tt
  | .own id1=>match σ id1 with
   |some (.row _ _ m _)=>match e s with
    | .nil=> .nle m 1099511627776
    | .own id=>match σ id with
     |some (.row _ _ n _)=> .nle (n+m) 1099511627776
     |_=> .tt
    |_=> .tt
   |_=> .tt
  |_=> .tt
 |_=> .tt
def Ok(σ:Nat->Option Ob)(e:Operand->V)(c:Call):PQ:=match c.args with
 | ⟨[x,y]⟩=>match e x,e y with
  | .own id,.sl _ m _=>match σ id with
   |some (.row _ _ n _)=> .and (.nlt 0 n) (.nlt 0 m)
   |_=> .tt
  |_,_=> .tt
 |_=> .tt
def Oi(σ:Nat->Option Ob)(e:Operand->V)(c:Call):PQ:=match c.callee with
 | .builtin .append=>PZ σ e c
 | .builtin .copy=>Ok σ e c
 |_=> .tt
def Ol(T:List TI)(t:Nat)(σ:Nat->Option Ob)(u v:V):PQ:=match pW T t,u,DT v with
 |some (_,et),.own id,some key=>match σ id with
  |some (.mp _ f)=>match HW T et with
   |some vz=>match (T.getD et bE).kind with
    |some _=> .re (nN f key vz)
    |none=> .tt
   |none=> .tt
  |_=> .tt
 |_,_,_=> .tt
def Ck(T:List TI)(wr:Bool)(o:Oper)(e:Operand->V)(σ:Nat->Option Ob):PQ:=
 match o.op with
  | .binOp op _ x y _=>P2 wr op (e x) (e y)
  | .unOp .neg _ x=>P4 wr (e x)
  | .convert _ t x=>Oj T wr t (e x)
  | .indexAddr t x ix=>JN T t σ (e x) (e ix)
  | .index t x ix=>P3 T t (e x) (e ix)
  | .load _ x=>Cj σ (e x)
  | .store _ x y=>wo σ (e x) (e y)
  | .slice _ x lo hi none=>ME σ e (e x) lo hi
  | .makeSlice _ x y=>Om (e x) (e y)
  | .lookup t m k _=>Ol T t σ (e m) (e k)
  | .call c=>Oi σ e c
  |_=> .tt
def O4(id:Nat)(v0:V):Ob->Ob->Prop
 | .box t cs,.box t' cs'=>t=t'/\(cs'=V.og id v0 cs\/cs'=cs)
 | .row e sz n f,.row e' sz' n' f'=>e=e'/\sz=sz'/\n=n'/\∀i,i< n->f' i=V.og id v0 (f i)\/f' i=f i
 | .mp s f,.mp s' f'=>s=s'/\(f'=f.map (V.fz id v0)\/f'=f)
 |_,_=>False
theorem Kq{w:World}{L:Nat->Prop}{ρ:Nat->Option Value}{id:Nat}{v0:V}(h0:∀y,ρ id=some y->R w L ρ v0 y){us:List V}{xs:List Value}(h:RL w L ρ us xs):RL w L ρ (V.og id v0 us) xs:=by
 refine⟨by rw [<-h.1,V.fB],fun i u x hu hx=> ?_⟩;rw [V.gR]at hu;cases hc:us[i]? with
 |none=>rw [hc]at hu;cases hu
 |some u'=>rw [hc]at hu;injection hu with hu;subst hu;obtain⟨q1,q2⟩:=h.2 i u' x hc hx;exact⟨nc h0 _ _ q1,q2⟩
theorem Real.z{W L:Nat->Prop}{w:World}{ρ:Nat->Option Value}{id j:Nat}{v0:V}{o o':Ob}(h0:∀y,ρ id=some y->R w L ρ v0 y)(h:Real W w L ρ j o)(hz:O4 id v0 o o'):Real W w L ρ j o':=by
 cases o with
 |box t cs=>
  cases o' with
  |box t' cs'=>
   obtain⟨rfl,rfl |rfl⟩:=hz;·obtain⟨b,xs,h1,h2,h3,h4,h5⟩:=h;exact⟨b,xs,h1,h2,h3,h4,Kq h0 h5⟩
   ·exact h
  |row _ _ _ _=>exact hz.elim
  |mp _ _=>exact hz.elim
 |row e sz n f=>
  cases o' with
  |row e' sz' n' f'=>
   obtain⟨rfl,rfl,rfl,hf⟩:=hz;obtain⟨v,xs,h1,h2,h3,h4,h5⟩:=h;have hlen:∀i,i< n->(f' i).length=(f i).length:=fun i hi=>by
    rcases hf i hi with e |e <;> rw [e]
    exact V.fB _ _ _
   refine⟨v,xs,h1,h2,fun i hi=>(hlen i hi).trans (h3 i hi),?_,h5⟩;have key:∀(m:Nat),m<=n->∀xs,RL w L ρ (aE m f).flatten xs->RL w L ρ (aE m f').flatten xs:=by
    intro m;induction m with
    |zero=>intro _ xs h;exact h
    |succ m ih=>
     intro hm xs h;have e1:∀g:Nat->List V,(aE (m+1) g).flatten=(aE m g).flatten++g m:=fun g=>by simp [aE,List.range_succ]
     rw [e1]at h ⊢;have hl:=h.1;rw [List.length_append]at hl;have ex:xs=xs.take (aE m f).flatten.length++xs.drop (aE m f).flatten.length:=by simp
     have ha:RL w L ρ (aE m f).flatten (xs.take (aE m f).flatten.length):=by have:=h.sub 0 (aE m f).flatten.length;simpa using this
     have hb:RL w L ρ (f m) (xs.drop (aE m f).flatten.length):=by have:=h.sub (aE m f).flatten.length (f m).length;rw [List.drop_left,List.take_length,List.take_of_length_le (by rw [List.length_drop];omega)]at this;exact this
     rw [ex];refine(ih oM _ ha).append ?_;rcases hf m oM with e |e <;> rw [e]
     ·exact Kq h0 hb
     ·exact hb
   exact key n (Nat.le_refl _) xs h4
  |box _ _=>exact hz.elim
  |mp _ _=>exact hz.elim
 |mp s f=>
  cases o' with
  |mp s' f'=>
   obtain⟨rfl,rfl |rfl⟩:=hz;·obtain⟨B,es,cl,hv',hBW,hBL,hh,hl⟩:=h;exact⟨B,es,cl,hv',hBW,hBL,hh,hl.N9 (fun v=>by rw [V.fz]) fun i u x _ hr=>nc h0 _ _ hr⟩
   ·exact h
  |box _ _=>exact hz.elim
  |row _ _ _ _=>exact hz.elim
theorem Le.QF{s:S}(id:Nat){ob:Ob}(hσ:s.σ id=some ob)(v0:V){σ':Nat->Option Ob}(hs:∀i o',σ' i=some o'->i≠id/\∃o,s.σ i=some o/\O4 id v0 o o') (h0:∀(W:Nat->Prop) (w:World) (L:Nat->Prop) (ρ:Nat->Option Value),Real W w L ρ id ob->∀y,ρ id=some y->R w (fun b=>L b\/blk y=some b) ρ v0 y):Le s ⟨fun t=>V.fz id v0 (s.tm t),σ',s.nx⟩:=by
 intro P N C a w ⟨L,ρ,h⟩;have hr:=h.g.ob id _ hσ;obtain⟨v,hv,hlt⟩:=hr.lt;have ex:Ext w L ρ w (fun b=>L b\/blk v=some b) ρ:=⟨fun b hb=>⟨.inl hb,rfl⟩,fun _ _ h=>h⟩;have h0':∀y,ρ id=some y->R w (fun b=>L b\/blk v=some b) ρ v0 y:=fun y hy=>by
  have hy':=hy;rw [hv]at hy';injection hy' with hy';subst hy'
  exact h0 _ _ _ _ hr _ hy
 refine⟨fun b=>L b\/blk v=some b,ρ,⟨⟨fun b hbl=> ?_,h.g.new,fun id' o' (ho:σ' id'=some o')=> ?_,fun i j x y k hij (hi:σ' i≠none) (hj:σ' j≠none)=> ?_,h.g.tN ex⟩,h.fr,fun t=>nc h0' _ _ ((h.tm t).ext ex),h.size,?_,h.pin⟩⟩
 ·rcases hbl with hbl |hbl;·exact h.g.ll b hbl
  ·exact⟨(hlt b hbl).1,C.wl b (hlt b hbl).2.1⟩
 ·obtain⟨hne,o,ho',hz⟩:=hs id' o' ho;have k:=(h.g.ob id' o ho').keep ex fun x k hx hk=>⟨rfl,by
   rintro(hL |hL)
   ·obtain⟨y,hy,hy2⟩:=(h.g.ob id' o ho').lt;rw [hx]at hy;injection hy with hy;subst hy
    exact(hy2 k hk).2.2 hL
   ·exact h.g.sep id' id x v k hne (by rw [ho'];simp) (by rw [hσ];simp) hx hv hk hL⟩
  exact k.z h0' hz
 ·obtain⟨o1,ho1⟩:=Option.ne_none_iff_exists'.1 hi;obtain⟨o2,ho2⟩:=Option.ne_none_iff_exists'.1 hj;obtain⟨_,p1,hp1,_⟩:=hs i o1 ho1;obtain⟨_,p2,hp2,_⟩:=hs j o2 ho2;exact h.g.sep i j x y k hij (by rw [hp1];simp) (by rw [hp2];simp)
 ·obtain⟨Ds,h4,h5,h6⟩:=h.defers;refine⟨Ds,h4,h5,fun D hD=> ?_⟩;obtain⟨h7,h8,h9⟩:=h6 D hD;refine⟨h7,h8,?_⟩;rintro(hL |hL);·exact h9 hL
  ·exact hr.gv hv hL h7
theorem Fg{P:Program}{W LB:Nat->Prop}{d:Option Tmp}{ty:TypeId}{pos:String}{af:Array Edge}{gd:Option (Nat×Bool)}{ev:Operand->V}(t t':TypeId)(x y:Operand){e0 sz n id el:Nat}{row:Nat->List V}(he:dw P t=some el)(hx:ev x= .own id)(hy:ev y= .nil)(hn:0< n) : aU P W LB ⟨d,.binOp .eql t x y t',ty,pos,af,gd⟩ ev (.b false) [(id,.row e0 sz n row)] [] []/\aU P W LB ⟨d,.binOp .neq t x y t',ty,pos,af,gd⟩ ev (.b true) [(id,.row e0 sz n row)] [] []:=by
 have hu:=bM he;have run:∀w A c',(Op.equalIn Op.maxDepth t (.slice (some A) n c') (.slice none 0 0)).run P w= .ok false w:=by intro w A c';show(Op.equalIn (_+1) t _ _).run P w=_;unfold Op.equalIn;simp [aA hu]
 have key:∀ {σ:Nat->Option Ob}{w:World}{L:Nat->Prop}{ρ:Nat->Option Value}{g:Operand->Value},G W LB σ w L ρ->R w L ρ (ev x) (g x)->R w L ρ (ev y) (g y)->σ id=some (.row e0 sz n row)->∃A c',g x= .slice (some A) n c'/\g y= .slice none 0 0:=by
  intro σ w L ρ g hG h1 h2 hσ;rw [hx]at h1;rw [hy]at h2;have hρ:=h1.cX;obtain⟨v,xs,hv,hown,_⟩:=hG.ob id _ hσ;rw [hρ]at hv;injection hv with hv
  rcases hown.2 with⟨_,h0⟩ | ⟨g',cap,cur,h3,_⟩;·omega
  ·refine⟨_,_,hv.trans h3,?_⟩;generalize g y=Y at h2;cases h2;rfl
 constructor;·intro σ w L ρ g hG hr hpre _;obtain⟨A,c',e1,e2⟩:=key hG (hr x (by simp [Op.operands])) (hr y (by simp [Op.operands])) (hpre _ (List.mem_cons_self ..));exact bk.value (v:= .bool false) (w':=w) rfl (by simp [execOp,e1,e2,eqGuard,binOp,Op.equal,run w A c']) ⟨L,ρ,hG,.c _ _,aZ.refl _ _,Ext.refl _ _ _,fun _ _=>rfl,dM.refl _ _⟩
 ·intro σ w L ρ g hG hr hpre _;obtain⟨A,c',e1,e2⟩:=key hG (hr x (by simp [Op.operands])) (hr y (by simp [Op.operands])) (hpre _ (List.mem_cons_self ..));exact bk.value (v:= .bool true) (w':=w) rfl (by simp [execOp,e1,e2,eqGuard,binOp,Op.equal,run w A c']) ⟨L,ρ,hG,.c _ _,aZ.refl _ _,Ext.refl _ _ _,fun _ _=>rfl,dM.refl _ _⟩
theorem E6{P:Program}{d:Option Tmp}{ty:TypeId}{pos:String}{af:Array Edge}{gd:Option (Nat×Bool)}{ev:Operand->V}(t:Nat)(x:Operand)(h:lB P t=some true):aD P ⟨d,.makeInterface t x,ty,pos,af,gd⟩ ev (.ifc t (ev x)):= aD.same rfl fun w L ρ g hr=>by
 have h1:=hr x (by simp [Op.operands]);refine⟨.iface t (g x),?_,.ifc _ _ _ _ h1⟩;unfold lB at h;cases hu:P.underlying t with
 |none=>rw [hu]at h;cases h
 |some u=>
  rw [hu]at h;have hr':=fun w=>aA (w:=w) hu;cases u <;> first
   | (simp at h;done)
   |simp [execOp,Instr.makeInterface,hr']
theorem CW{P:Program}{d:Option Tmp}{ty:TypeId}{pos:String}{af:Array Edge}{gd:Option (Nat×Bool)}{ev:Operand->V}(x:Operand){t:Nat}{v:V}(hx:ev x= .ifc t v):aD P ⟨d,.nilCheck x,ty,pos,af,gd⟩ ev (.ifc t v):= aD.same rfl fun w L ρ g hr=>by
 have h1:=hr x (by simp [Op.operands]);rw [hx]at h1;have h2:∃y,g x= .iface t y:=by generalize g x=y at h1;cases h1;exact⟨_,rfl⟩
 refine⟨g x,?_,h1⟩;obtain⟨y,hy⟩:=h2;simp [execOp,hy]
def wW(P:Program)(name:String)(t:Nat)(f:FuncId):Prop:=∀(v:Value) (w:World),(method (P.types.size+Made.depth) t v name).run P w= .ok (f,v) w
def GU(P:Program)(name:String)(t:Nat):Option FuncId:=match P.info? t with
 |some i=>match i.methods.find? (·.name == name)with
  |some m=>match m.path.toList with
   | []=>match m.func with
    |some (f,false)=>match lB P t with
     |some true=>some f
     |_=>none
    |_=>none
   |_::_=>none
  |none=>none
 |none=>none
theorem GV{P:Program}{name:String}{t:Nat}{f:FuncId}(h:GU P name t=some f):wW P name t f:=by
 intro v w;unfold GU at h;split at h
 ·rename_i i hi;split at h
  ·rename_i m hm;split at h
   ·rename_i hp;split at h
    ·rename_i f' hf;split at h
     ·rename_i ha;injection h with h;subst h;have hti:(typeInfo t).run P w= .ok i w:=by simp [typeInfo,go_sem,hi]
      unfold lB at ha;cases hu:P.underlying t with
      |none=>rw [hu]at ha;cases ha
      |some u=>
       rw [hu]at ha;have hr':=fun w=>aA (w:=w) hu;show(method ((P.types.size+99)+1) t v name).run P w=_;unfold method;cases u <;> first
        | (simp at ha;done)
        |simp [hti,hm,hp,hf,follow,receiverAt,hr',Place.get]
     ·cases h
    ·cases h
   ·cases h
  ·cases h
 ·cases h
noncomputable section
inductive TR where
  |e
  |n (v:V) (l r:TR)
def TR.get:TR->Nat->V:=TR.rec (motive:=fun _=>Nat->V) (fun _=> .any) (fun v _ _ gl gr t=>Nat.rec (motive:=fun _=>V) v (fun t' _=>Bool.rec (motive:=fun _=>V) (gr (Nat.div t' 2)) (gl (Nat.div t' 2)) (Nat.beq (Nat.mod t' 2) 0)) t)
def TR.put:Nat->TR->Nat->V->TR:=Nat.rec (motive:=fun _=>TR->Nat->V->TR) (fun tr _ _=>tr) (fun _ ih tr t v=>TR.rec (motive:=fun _=>TR)
 (Nat.rec (motive:=fun _=>TR) (.n v .e .e) (fun t' _=>Bool.rec (motive:=fun _=>TR) (.n .any .e (ih .e (Nat.div t' 2) v)) (.n .any (ih .e (Nat.div t' 2) v) .e) (Nat.beq (Nat.mod t' 2) 0)) t)
 (fun u l r _ _=>Nat.rec (motive:=fun _=>TR) (.n v l r) (fun t' _=>Bool.rec (motive:=fun _=>TR) (.n u l (ih r (Nat.div t' 2) v)) (.n u (ih l (Nat.div t' 2) v) r) (Nat.beq (Nat.mod t' 2) 0)) t) tr)
theorem TR.jm(t:Nat):TR.get .e t= .any:=rfl
theorem TR.mj(v:V)(l r:TR):TR.get (.n v l r) 0=v:=rfl
theorem vr(t:Nat):Nat.beq (Nat.mod t 2) 0=decide (t% 2=0):=by show Nat.beq (t% 2) 0=_;rcases Nat.mod_two_eq_zero_or_one t with h |h <;> rw [h] <;> rfl
theorem TR.kT(v:V)(l r:TR)(t:Nat):TR.get (.n v l r) (t+1)=if t% 2=0 then l.get (t / 2)else r.get (t / 2):=by
 show Bool.rec (motive:=fun _=>V) (r.get (Nat.div t 2)) (l.get (Nat.div t 2)) (Nat.beq (Nat.mod t 2) 0)=_;rw [vr];by_cases h:t% 2=0;·rw [if_pos h,decide_eq_true h];rfl
 ·rw [if_neg h,decide_eq_false h];rfl
theorem TR.Mz(d:Nat)(v:V):TR.put (d+1) .e 0 v= .n v .e .e:=rfl
theorem TR.MB(d:Nat)(u:V)(l r:TR)(v:V):TR.put (d+1) (.n u l r) 0 v= .n v l r:=rfl
theorem TR.MA(d:Nat)(t:Nat)(v:V):TR.put (d+1) .e (t+1) v=if t% 2=0 then .n .any (TR.put d .e (t / 2) v) .e else .n .any .e (TR.put d .e (t / 2) v):=by
 show Bool.rec (motive:=fun _=>TR) _ _ (Nat.beq (Nat.mod t 2) 0)=_;rw [vr];by_cases h:t% 2=0;·rw [if_pos h,decide_eq_true h];rfl
 ·rw [if_neg h,decide_eq_false h];rfl
theorem TR.MC(d:Nat)(u:V)(l r:TR)(t:Nat)(v:V):TR.put (d+1) (.n u l r) (t+1) v=if t% 2=0 then .n u (TR.put d l (t / 2) v) r else .n u l (TR.put d r (t / 2) v):=by
 show Bool.rec (motive:=fun _=>TR) _ _ (Nat.beq (Nat.mod t 2) 0)=_;rw [vr];by_cases h:t% 2=0;·rw [if_pos h,decide_eq_true h];rfl
 ·rw [if_neg h,decide_eq_false h];rfl
theorem TR.nT:∀(d:Nat) (tr:TR) (t t':Nat) (v:V),t+1< 2 ^ d->(TR.put d tr t v).get t'=if t'=t then v else tr.get t'
  |0,_,t,_,_,h=>by simp at h
  |d+1,.e,0,t',v,h=>by
    rw [TR.Mz]
    cases t' with
    |zero=>rw [TR.mj,if_pos rfl]
    |succ t'=>rw [TR.kT,TR.jm,TR.jm,if_neg (by omega:¬t'+1=0)];split <;> rfl
  |d+1,.n u l r,0,t',v,h=>by
    rw [TR.MB]
    cases t' with
    |zero=>rw [TR.mj,if_pos rfl]
    |succ t'=>rw [TR.kT,TR.kT,if_neg (by omega:¬t'+1=0)]
  |d+1,.e,t+1,t',v,h=>by
    have hd:t / 2+1< 2 ^ d:=by rw [Nat.pow_succ]at h;omega
    rw [TR.MA]
    by_cases hm:t% 2=0
    · rw [if_pos hm]
      cases t' with
      |zero=>rw [TR.mj,if_neg oM,TR.jm]
      |succ t'=>
        rw [TR.kT,TR.jm,TR.jm,TR.nT d .e _ _ _ hd,TR.jm]
        by_cases he:t'=t
        · subst he;rw [if_pos hm,if_pos rfl,if_pos rfl]
        · rw [if_neg (by omega:¬t'+1=t+1)]
          split
          · rw [if_neg oM]
          · rfl
    · rw [if_neg hm]
      cases t' with
      |zero=>rw [TR.mj,if_neg oM,TR.jm]
      |succ t'=>
        rw [TR.kT,TR.jm,TR.jm,TR.nT d .e _ _ _ hd,TR.jm]
        by_cases he:t'=t
        · subst he;rw [if_neg hm,if_pos rfl,if_pos rfl]
        · rw [if_neg (by omega:¬t'+1=t+1)]
          split
          · rfl
          · rw [if_neg oM]
  |d+1,.n u l r,t+1,t',v,h=>by
    have hd:t / 2+1< 2 ^ d:=by rw [Nat.pow_succ]at h;omega
    rw [TR.MC]
    by_cases hm:t% 2=0
    · rw [if_pos hm]
      cases t' with
      |zero=>rw [TR.mj,TR.mj,if_neg oM]
      |succ t'=>
        rw [TR.kT,TR.kT,TR.nT d l _ _ _ hd]
        by_cases he:t'=t
        · subst he;rw [if_pos hm,if_pos rfl,if_pos rfl]
        · rw [if_neg (by omega:¬t'+1=t+1)]
          split
          · rw [if_neg oM]
          · rfl
    · rw [if_neg hm]
      cases t' with
      |zero=>rw [TR.mj,TR.mj,if_neg oM]
      |succ t'=>
        rw [TR.kT,TR.kT,TR.nT d r _ _ _ hd]
        by_cases he:t'=t
        · subst he;rw [if_neg hm,if_pos rfl,if_pos rfl]
        · rw [if_neg (by omega:¬t'+1=t+1)]
          split
          · rfl
          · rw [if_neg oM]
theorem TR.jU{tr:TR}{t:Nat}{v:V}(h:t< 1000):(TR.put 10 tr t v).get=bL tr.get t v:=by funext t';rw [TR.nT 10 tr t t' v oM];rfl
def fN:List (Nat×Option Ob)->Nat->Option Ob
 | [],_=>none
 | (k,o)::l,i=>match Nat.beq i k with
  |true=>o
  |false=>fN l i
def Dn:List (Nat×Option Ob)->Nat->List (Nat×Option Ob)
 | [],_=>[]
 | (k',o')::l,k=>match Nat.beq k k' with
  |true=>Dn l k
  |false=>(k',o')::Dn l k
def HC:List (Nat×Option Ob)->Nat->Option Ob->List (Nat×Option Ob)
 | [],k,o=>[(k,o)]
 | (k',o')::l,k,o=>match Nat.beq k k' with
  |true=>(k,o)::l
  |false=>(k',o')::HC l k o
def My(l:List (Nat×Option Ob))(k:Nat)(o:Option Ob):List (Nat×Option Ob):=match o with
 |none=>Dn l k
 |some o=>HC l k (some o)
theorem Aw:∀(l:List (Nat×Option Ob)) (k i:Nat),fN (Dn l k) i=if i=k then none else fN l i
 | [],k,i=>by simp only [Dn,fN];split <;> rfl
 | (k',o')::l,k,i=>by
  simp only [Dn];split
  ·rename_i h;have h:=Nat.eq_of_beq_eq_true h;subst h;rw [Aw l k i];simp only [fN];split;·rfl
   ·rename_i h2;split;·rename_i h3;exact absurd (Nat.eq_of_beq_eq_true h3) h2
    ·rfl
  ·rename_i h;have h:=Nat.ne_of_beq_eq_false h;simp only [fN];split;·rename_i h2;have h2:=Nat.eq_of_beq_eq_true h2;rw [if_neg oM]
   ·exact Aw l k i
theorem GH:∀(l:List (Nat×Option Ob)) (k:Nat) (o:Option Ob) (i:Nat),fN (HC l k o) i=if i=k then o else fN l i
 | [],k,o,i=>by
  simp only [HC,fN];split;·rename_i h;rw [if_pos (Nat.eq_of_beq_eq_true h)]
  ·rename_i h;rw [if_neg (Nat.ne_of_beq_eq_false h)]
 | (k',o')::l,k,o,i=>by
  simp only [HC];split
  ·rename_i h;have h:=Nat.eq_of_beq_eq_true h;subst h;simp only [fN];split;·rename_i h;rw [if_pos (Nat.eq_of_beq_eq_true h)]
   ·rename_i h;rw [if_neg (Nat.ne_of_beq_eq_false h)]
  ·rename_i h;have h:=Nat.ne_of_beq_eq_false h;simp only [fN];split;·rename_i h2;have h2:=Nat.eq_of_beq_eq_true h2;rw [if_neg oM]
   ·exact GH l k o i
theorem Mo(l:List (Nat×Option Ob))(k:Nat)(o:Option Ob)(i:Nat):fN (My l k o) i=if i=k then o else fN l i:=by
 cases o with
 |none=>exact Aw l k i
 |some o=>exact GH l k (some o) i
theorem JA(l:List (Nat×Option Ob))(k:Nat)(o:Option Ob):fN (My l k o)=bL (fN l) k o:=by funext i;exact Mo l k o i
def Ci:List (Nat×Option Ob)->List (Nat×Option Ob)->List (Nat×Option Ob)
 |l,[]=>l
 |l,(k,o)::δ=>Ci (My l k o) δ
theorem yg:∀(δ l:List (Nat×Option Ob)),fN (Ci l δ)=bG (fN l) δ
 | [],l=>rfl
 | (k,o)::δ,l=>by rw [Ci,yg,JA,bG]
structure CS where
  tr:TR
  sl:List (Nat×Option Ob)
  nx:Nat
def CS.den(s:CS):S:=⟨s.tr.get,fN s.sl,s.nx⟩
def Oh(tr:TR)(d:Option Tmp)(v:V):TR:=match d with
 |some t=>TR.put 10 tr t v
 |none=>tr
theorem Hj{tr:TR}{d:Option Tmp}{v:V}(h:∀t,d=some t->t< 1000):(Oh tr d v).get=eR tr.get d v:=by
 cases d with
 |none=>rfl
 |some t=>exact TR.jU (h t rfl)
inductive CT where
  |lf (l:List (CE×CE))
  |nd (a b:CT)
inductive CU where
  |lf (l:List CE)
  |nd (a b:CU)
def CT.l:CT->CU
 | .lf l=> .lf (l.map Prod.fst)
 | .nd a b=> .nd a.l b.l
def CT.r:CT->CU
 | .lf l=> .lf (l.map Prod.snd)
 | .nd a b=> .nd a.r b.r
def kf:CT->Prop
 | .lf l=>iH l
 | .nd a b=>kf a/\kf b
theorem Ag:∀ {t:CT},t.l=t.r->kf t
 | .lf l,h=>by simp only [CT.l,CT.r,CU.lf.injEq]at h;exact vL h
 | .nd a b,h=>by simp only [CT.l,CT.r,CU.nd.injEq]at h;exact⟨Ag h.1,Ag h.2⟩
mutual
def V.ids:V->List Nat
 | .agg cs=>V.oI cs
 | .tup cs=>V.oI cs
 | .fn _ a b=>V.oI a++V.oI b
 | .ifc _ v=>v.ids
 | .gd _ v=>v.ids
 | .alt _ v u=>v.ids++u.ids
 | .own i=>[i]
 | .ref i _=>[i]
 | .oel i _ _ _=>[i]
 | .osl i _ _ _=>[i]
 |_=>[]
def V.oI:List V->List Nat
 | []=>[]
 |v::l=>v.ids++V.oI l
end
def jO:List Nat->Nat->Bool
 | [],_=>false
 |k::l,i=>match Nat.beq i k with
  |true=>true
  |false=>jO l i
def L8:List (List V)->List Nat->List Nat
 | [],t=>t
 |r::l,t=>match V.bA r with
  |true=>L8 l t
  |false=>V.oI r++L8 l t
def fQ(σ:Nat->Option Ob):Nat->List Nat->List Nat->List Nat
 |0,_,seen=>seen
 |_+1,[],seen=>seen
 |k+1,i::todo,seen=>match jO seen i with
  |true=>fQ σ k todo seen
  |false=>match σ i with
   |some (.box _ cs)=>fQ σ k (V.oI cs++todo) (seen++[i])
   |some (.row _ _ n f)=>fQ σ k (L8 ((List.range n).map f) todo) (seen++[i])
   |_=>fQ σ k todo (seen++[i])
def x7:List Nat->Nat->Nat
 | [],_=>0
 |k::l,i=>match Nat.beq i k with
  |true=>0
  |false=>x7 l i+1
def rowOf(l:List (List V))(i:Nat):List V:=l.getD i []
def zq(g:Nat->Nat):Ob->Option Ob
 | .box t cs=>some (.box t (V.aS g cs))
 | .row e sz n f=>match ((List.range n).map f).all V.bA with
  |true=>some (.row e sz n (rowOf ((List.range n).map f)))
  |false=>some (.row e sz n (rowOf (((List.range n).map f).map (V.aS g))))
 | .mp s f=>match f.l.all fun p=>p.2.ck with
  |true=>some (.mp s f)
  |false=>none
def x9(σ:Nat->Option Ob)(g:Nat->Nat):List Nat->Option (List (Ob×Ob))
 | []=>some []
 |k::ns=>match σ k with
  |some o=>match zq g o with
   |some o'=>match x9 σ g ns with
    |some l=>some ((o,o')::l)
    |none=>none
   |none=>none
  |none=>none
def O6(g:Nat->Nat)(n:Nat)(f f':Nat->List V):List (CE×CE):=match ((List.range n).map f).all V.bA with
 |true=>[]
 |false=>(List.range n).map fun i=>(.vs (f i),.vs (V.aS g (f' i)))
def zV(g:Nat->Nat):Ob×Ob->List (CE×CE)
 | (.box _ cs,.box _ cs')=>[(.vs cs,.vs (V.aS g cs'))]
 | (.row _ _ n f,.row _ _ _ f')=>O6 g n f f'
 |_=>[]
def eX(g:Nat->Nat):List (Ob×Ob)->List (CE×CE)
 | []=>[]
 |p::l=>zV g p++eX g l
def L9(k:Nat):Ob×Ob->Bool
 | (_,.box _ cs)=>V.cS k cs
 | (.row _ _ n f,.row _ _ _ f')=>match ((List.range n).map f).all V.bA with
  |true=>true
  |false=>((List.range n).map f').all (V.cS k)
 |_=>true
def tO(n:Nat):List (Ob×Ob)->Bool
 | []=>true
 |p::l=>L9 n p && tO n l
theorem ec{g:Nat->Nat}{l:List V}(h:V.bA l=true):V.aS g l=l:=V.ec g l h
theorem ia{l:List (List V)}(h:l.all V.bA=true)(i:Nat):V.bA (rowOf l i)=true:=by
 unfold rowOf;rw [List.getD_eq_getElem?_getD];cases hi:l[i]? with
 |none=>rfl
 |some x=>exact List.all_eq_true.1 h x (List.mem_of_getElem? hi)
theorem lT{f:Nat->List V}{n i:Nat}(h:i< n):rowOf ((List.range n).map f) i=f i:=by unfold rowOf;rw [List.getD_eq_getElem?_getD,List.getElem?_map,List.getElem?_range h];rfl
theorem GW{f:MF}(h:(f.l.all fun p=>p.2.ck)=true)(g:Nat->Nat):f.map (V.bD g)=f:=by
 obtain⟨l,rest⟩:=f;show MF.mk (l.map fun p=>(p.1,V.bD g p.2)) rest=⟨l,rest⟩;congr 1
 have h':∀p∈l,p.2.ck=true:=fun p hp=>List.all_eq_true.1 h p hp;clear h;induction l with
 |nil=>rfl
 |cons p l ih=>rw [List.map_cons,ih fun q hq=>h' q (by simp [hq]),V.eV g _ (h' p (by simp))]
theorem JD{f:MF}(h:(f.l.all fun p=>p.2.ck)=true){k:MK}{u:V}(hu:f.look k=some u):u.ck=true:=by
 obtain⟨l,rest⟩:=f;have h':∀p∈l,p.2.ck=true:=fun p hp=>List.all_eq_true.1 h p hp;have hu':iy rest k l=some u:=hu;clear h hu;induction l with
 |nil=>simp only [iy,Option.map_eq_some_iff]at hu';obtain⟨v,_,rfl⟩:=hu';rfl
 |cons p l ih=>
  simp only [iy]at hu';split at hu';·injection hu' with hu';subst hu';exact h' p (by simp)
  ·exact ih (fun q hq=>h' q (by simp [hq])) hu'
theorem oO{g gi:Nat->Nat}{o o':Ob}(h:zq gi o=some o')(he:iH (eX g [(o,o')])):fH o (o'.bD g):=by
 have he:iH (zV g (o,o')):=fun p hp=>he p (by simp only [eX,List.append_nil];exact hp);cases o with
 |box t cs=>simp only [zq,Option.some.injEq]at h;subst h;have h1:=he.hd;injection h1 with h1;exact⟨rfl,h1⟩
 |row e sz n f=>
  simp only [zq]at h;split at h;·rename_i hi;injection h with h;subst h;refine⟨rfl,rfl,rfl,fun i hi'=> ?_⟩;show f i=V.aS g (rowOf ((List.range n).map f) i);rw [ec (ia hi i),lT hi']
  ·rename_i hi;injection h with h;subst h;refine⟨rfl,rfl,rfl,fun i hi'=> ?_⟩;simp only [zV,O6,hi]at he;have h1:=he (.vs (f i),.vs (V.aS g (rowOf (((List.range n).map f).map (V.aS gi)) i))) (List.mem_map.2 ⟨i,List.mem_range.2 hi',rfl⟩);injection h1 with h1
 |mp str f=>
  simp only [zq]at h;split at h;·rename_i hi;injection h with h;subst h;refine⟨rfl,fun k=> ?_⟩;show f.look k=(f.map (V.bD g)).look k;rw [GW hi g]
  ·cases h
theorem Mr{n:Nat}{gi:Nat->Nat}{o o':Ob}(h:zq gi o=some o')(he:tO n [(o,o')]=true):o'.j4 n:=by
 have he:L9 n (o,o')=true:=by simpa only [tO,Bool.and_true]using he
 cases o with
 |box t cs=>simp only [zq,Option.some.injEq]at h;subst h;exact he
 |row e sz m f=>
  simp only [zq]at h;split at h;·rename_i hi;injection h with h;subst h;exact fun i _=>iu n _ (ia hi i)
  ·rename_i hi;injection h with h;subst h;intro i hi';simp only [L9,hi]at he;exact List.all_eq_true.1 he _ (List.mem_map.2 ⟨i,List.mem_range.2 hi',rfl⟩)
 |mp str f=>
  simp only [zq]at h;split at h;·rename_i hi;injection h with h;subst h;exact fun k u hu=>lP n u (JD hi hu)
  ·cases h
def uT(g:Nat->Nat):Ob->List (CE×CE)
 | .box _ cs=>[(.vs cs,.vs (V.aS g cs))]
 | .row _ _ n f=>O6 g n f f
 |_=>[]
theorem Ee{l:List (List V)}{i:Nat}(h:l.length<=i):rowOf l i=[]:=by unfold rowOf;rw [List.getD_eq_getElem?_getD,List.getElem?_eq_none h];rfl
theorem yp{g gi:Nat->Nat}{o o':Ob}(h:zq gi o=some o')(he:iH (uT g o')):o'.bD g=o':=by
 cases o with
 |box t cs=>simp only [zq,Option.some.injEq]at h;subst h;have h1:=he.hd;injection h1 with h1;rw [Ob.bD,<-h1]
 |row e sz m f=>
  simp only [zq]at h;split at h
  ·rename_i hi;injection h with h;subst h;rw [Ob.bD];congr 1
   funext i;exact ec (ia hi i)
  ·injection h with h;subst h;rw [Ob.bD];congr 1
   funext i;by_cases hlt:i< m
   ·generalize ((List.range m).map f).map (V.aS gi)=l at he;simp only [uT,O6]at he;split at he;·rename_i ha;exact ec (by have:=List.all_eq_true.1 ha _ (List.mem_map.2 ⟨i,List.mem_range.2 hlt,rfl⟩);exact this)
    ·have h1:=he (.vs (rowOf l i),.vs (V.aS g (rowOf l i))) (List.mem_map.2 ⟨i,List.mem_range.2 hlt,rfl⟩);injection h1 with h1;exact h1.symm
   ·rw [Ee (by simp;omega)];rfl
 |mp str f=>
  simp only [zq]at h;split at h;·rename_i hi;injection h with h;subst h;show Ob.mp str (f.map (V.bD g))= .mp str f;rw [GW hi g]
  ·cases h
theorem pL{g:Nat->Nat}{p:Ob×Ob}{l:List (Ob×Ob)}(h:iH (eX g (p::l))):iH (eX g [p])/\iH (eX g l):= ⟨fun q hq=>h q (List.mem_append.2 (.inl (by simpa only [eX,List.append_nil]using hq))),fun q hq=>h q (List.mem_append.2 (.inr hq))⟩
theorem uz{n:Nat}{p:Ob×Ob}{l:List (Ob×Ob)}(h:tO n (p::l)=true):tO n [p]=true/\tO n l=true:=by simp only [tO,Bool.and_eq_true,Bool.and_true]at h ⊢;exact h
theorem kW{σ:Nat->Option Ob}{gi:Nat->Nat}:∀ {ns:List Nat}{l:List (Ob×Ob)},x9 σ gi ns=some l->l.length=ns.length/\∀(i:Nat) (p:Ob×Ob),l[i]?=some p->∃k,ns[i]?=some k/\σ k=some p.1/\zq gi p.1=some p.2
 | [],l,h=>by simp only [x9,Option.some.injEq]at h;subst h;exact⟨rfl,fun i p h=>by simp at h⟩
 |k::ns,l,h=>by
  simp only [x9]at h;split at h
  ·rename_i o ho;split at h
   ·rename_i o' ho';split at h
    ·rename_i l' hl;injection h with h;subst h;obtain⟨h1,h2⟩:=kW hl;refine⟨by simp [h1],fun i p hp=> ?_⟩;cases i with
     |zero=>simp at hp;subst hp;exact⟨k,rfl,ho,ho'⟩
     |succ i=>simpa using h2 i p (by simpa using hp)
    ·cases h
   ·cases h
  ·cases h
theorem fK{g:Nat->Nat}:∀ {l:List (Ob×Ob)},iH (eX g l)->∀ {i:Nat}{p:Ob×Ob},l[i]?=some p->iH (eX g [p])
 |q::l,h,0,p,hp=>by simp at hp;subst hp;exact(pL h).1
 |q::l,h,i+1,p,hp=>fK (pL h).2 (by simpa using hp)
theorem x8{n:Nat}:∀ {l:List (Ob×Ob)},tO n l=true->∀ {i:Nat}{p:Ob×Ob},l[i]?=some p->tO n [p]=true
 |q::l,h,0,p,hp=>by simp at hp;subst hp;exact(uz h).1
 |q::l,h,i+1,p,hp=>x8 (uz h).2 (by simpa using hp)
structure CR where
  v:V
  outs:List (Option Ob)
  obs:List Ob
  e:CT
abbrev fG:Type:=FuncId->List V->List Ob->Option CR
def G1:Nat:=999999999
def dg(P:Program)(call:fG):Prop:=(∀f args ins r,Nat.beq f G1=false->call f args ins=some r->kf r.e->AM P f args ins r.v r.outs r.obs)/\ ∀(name:String) (t:Nat) (r:CR) (n:Int),call G1 [.fn (.method name) [] [],.i (t:Int)] []=some r->r.v= .i n->wW P name t n.toNat
structure SX where
  v:V
  pre:List (Nat×Ob)
  δ:List (Nat×Option Ob)
  e:CT
def so:List Nat->Bool
 | []=>true
 |k::l=>match jO l k with
  |true=>false
  |false=>so l
def Fl(call:fG)(nx:Nat)(d:Nat)(f:FuncId)(as0:List V)(ns:List Nat)(l:List (Ob×Ob)):Option SX:=
 match decide (d< 1000) && (so ns && (V.cS l.length (V.aS (fun i=>500+x7 ns i) as0) && (tO l.length l && !Nat.beq f G1)))with
  |true=>match call f (V.aS (fun i=>500+x7 ns i) as0) (l.map Prod.snd)with
   |some r=>match Nat.ble r.obs.length 90 && Nat.beq r.outs.length l.length with
    |true=>some ⟨r.v.bD (aJ nx (some d) ns),jd ns (l.map Prod.fst),gG (aJ nx (some d) ns) ns r.outs++cj (aJ nx (some d) ns) 0 r.obs,
     .nd (.lf ((.vs as0,.vs (V.aS (aJ nx (some d) ns) (V.aS (fun i=>500+x7 ns i) as0)))::eX (aJ nx (some d) ns) l)) r.e⟩
    |false=>none
   |none=>none
  |false=>none
def xz(call:fG)(nx:Nat)(σ:Nat->Option Ob)(o:Oper)(f:FuncId)(as0:List V):Option SX:=
 match o.dst with
  |some d=>match x9 σ (fun i=>500+x7 (fQ σ 1000 (V.oI as0) []) i) (fQ σ 1000 (V.oI as0) [])with
   |some l=>Fl call nx d f as0 (fQ σ 1000 (V.oI as0) []) l
   |none=>none
  |none=>none
def Qu(M:List Nat)(tm:Nat->V)(o:Oper):List Nat:=match o.op with
 | .box _ y=>match bY (ug (ev tm y))with
  |some us=>match V.bA us with
   |true=>M
   |false=>[o.dst.getD 0]
  |none=>M
 | .buildSlice _ n parts=>match n with
  |0=>[o.dst.getD 0]
  |_+1=>match V.bA (parts.toList.map fun p=>ug (ev tm p.2))with
   |true=>M
   |false=>[o.dst.getD 0]
 |_=>M
def uq(o:Oper):Bool:=match o.dst with
 |some t=>Nat.ble t 999
 |none=>match o.op with
  | .store _ _ _=>true
  | .insert _ _ _ _=>true
  | .mapUpdate _ _ _ _=>true
  |_=>false
theorem Fo{o:Oper}(h:uq o=true):jZ o=true:=by
 unfold uq at h;unfold jZ;split at h;·rename_i t ht;have:=Nat.le_of_ble_eq_true h;simp only [ht];exact decide_eq_true (Nat.lt_succ_of_le this)
 ·rename_i ht;simp only [ht];exact h
def PB(T:List TI)(M:List Nat)(nx:Nat)(tm:Nat->V)(σ:Nat->Option Ob)(o:Oper):Option SX:=
 match o.op with
  | .pick x a b=>match ev tm x with
   | .c (.bool t)=>match mW t (ug (ev tm a)) (ug (ev tm b))with
    |some v=>match iN o with
     |true=>some ⟨v,[],[],.lf (Hi (F8 (t == true) (ev tm a)++F8 (t == false) (ev tm b)))⟩
     |false=>none
    |none=>none
   |_=>none
  |_=>match uq o && sn (opsV tm o)with
   |true=>match (Ck T false o (fun x=>ug (ev tm x)) σ).dec with
    |true=>match pU T false (Qu M tm o) nx o (fun x=>ug (ev tm x)) σ with
     |some r=>some ⟨r.v,r.pre,r.δ,.lf [(.p r.c,.p (Ck T false o (fun x=>ug (ev tm x)) σ).den)]⟩
     |none=>none
    |false=>match (Ck T true o (fun x=>ug (ev tm x)) σ).dec with
     |true=>match pU T true (Qu M tm o) nx o (fun x=>ug (ev tm x)) σ with
      |some r=>some ⟨r.v,r.pre,r.δ,.lf [(.p r.c,.p (Ck T true o (fun x=>ug (ev tm x)) σ).den)]⟩
      |none=>none
     |false=>none
   |false=>none
def AG(T:List TI)(tm:Nat->V)(σ:Nat->Option Ob)(o:Oper):Option SX:=match o.op with
 | .binOp op t x y _=>match ev tm x with
  | .own id=>match ev tm y with
   | .nil=>match (T.getD t bE).elem with
    |some _=>match σ id with
     |some (.row e sz n row)=>match n with
      |0=>none
      |k+1=>match iN o with
       |true=>match op with
        | .eql=>some ⟨.b false,[(id,.row e sz (k+1) row)],[],.lf []⟩
        | .neq=>some ⟨.b true,[(id,.row e sz (k+1) row)],[],.lf []⟩
        |_=>none
       |false=>none
     |_=>none
    |none=>none
   |_=>none
  |_=>none
 |_=>none
theorem rW:∀ {l:List Nat}{i:Nat},jO l i=false->i∉l
 | [],_,_=>by simp
 |k::l,i,h=>by
  simp only [jO]at h;split at h;·cases h
  ·rename_i hb;have hb:=Nat.ne_of_beq_eq_false hb;simp only [List.mem_cons,not_or];exact⟨hb,rW h⟩
theorem oR:∀ {l:List Nat},so l=true->l.Nodup
 | [],_=> .nil
 |k::l,h=>by
  simp only [so]at h;split at h;·cases h
  ·rename_i hb;exact List.nodup_cons.2 ⟨rW hb,oR h⟩
section
variable {P:Program}{W LB:Nat->Prop}{T:List TI}{M:List Nat}{nx:Nat}{tm:Nat->V}{σ:Nat->Option Ob}{o:Oper}{x:SX}{call:fG}
def Il(P:Program)(W LB:Nat->Prop)(nx:Nat)(tm:Nat->V)(σ:Nat->Option Ob)(o:Oper)(x:SX):Prop:= ∃nw,aU P W LB o (ev tm) x.v x.pre nw x.δ/\(∀p∈x.pre,σ p.1=some p.2)/\l6 nx o.dst nw/\∀t,o.dst=some t->t< 1000
theorem kK(hT:aK T P){wr:Bool}{r:SR}(hd:(uq o && sn (opsV tm o))=true)(h:pU T wr M nx o (fun x=>ug (ev tm x)) σ=some r)(hc:r.c){e:CT}:Il P W LB nx tm σ o ⟨r.v,r.pre,r.δ,e⟩:=by simp only [Bool.and_eq_true]at hd;have hd:jZ o=true/\sn (opsV tm o)=true:=⟨Fo hd.1,hd.2⟩;rw [GB]at h;obtain⟨h1,h2,h3⟩:=gQ (W:=W) (LB:=LB) hT o h hc (jI hd.1);exact⟨r.nw,h1.weaken fun x hx _ _ _ _ hy=>hy.ug (oQ hd.2 _ (ld hx)),h2,KR hd.1 h3,fun t ht=>xJ hd.1 ht⟩
theorem Cg{c:Prop}{q:PQ}(h:CE.p c=CE.p q.den)(hq:q.dec=true):c:=by injection h with h;rw [h];exact PQ.ok hq
theorem Fx(hT:aK T P)(h:PB T M nx tm σ o=some x)(he:kf x.e):Il P W LB nx tm σ o x:=by
 unfold PB at h;split at h
 ·rename_i xx a b hop;split at h
  ·rename_i t hx;split at h
   ·rename_i v hv;split at h;·rename_i hd;injection h with h;subst h;have hp:=iH.ps he;obtain⟨d,op,ty,pos,af,gd⟩:=o;simp only at hop;subst hop;refine⟨[],(xg xx a b hx (nD hp.l) (nD hp.r) (lg hv)).step,by simp,by simp [l6],fun t ht=> ?_⟩;simp only at ht;subst ht;simpa [iN]using hd
    ·cases h
   ·cases h
  ·cases h
 ·split at h
  ·rename_i hd;split at h
   ·rename_i hq;split at h;·rename_i r hr;injection h with h;subst h;exact kK hT hd hr (Cg he.hd hq)
    ·cases h
   ·split at h
    ·rename_i hq;split at h;·rename_i r hr;injection h with h;subst h;exact kK hT hd hr (Cg he.hd hq)
     ·cases h
    ·cases h
  ·cases h
theorem uo(hcl:dg P call)(hwl:∀b,W b->LB b){f:FuncId}{as0:List V}(hpl:jT o.op=true)(hex:Qo P o (ev tm) f as0)(h:xz call nx σ o f as0=some x)(he:kf x.e):Il P W LB nx tm σ o x:=by
  unfold xz at h
  split at h
  · rename_i d hd
    split at h
    · rename_i l hl
      generalize fQ σ 1000 (V.oI as0) []=ns at h hl
      unfold Fl at h
      split at h
      · rename_i hb
        split at h
        · rename_i r hr
          split at h
          · rename_i hb2
            injection h with h;subst h
            simp only [Bool.and_eq_true,decide_eq_true_eq]at hb hb2
            obtain⟨hb0,hb1,hb3,hb4,hbm⟩:=hb
            obtain⟨hbo,hbl⟩:=hb2
            have hbl:=Nat.eq_of_beq_eq_true hbl
            have hbo:=Nat.le_of_ble_eq_true hbo
            obtain⟨hlen,hget⟩:=kW hl
            have hE:=he.1
            have h1:=hE.hd
            injection h1 with h1
            have hB:=hE.tl
            have am:=hcl.1 _ _ _ _ (by simpa using hbm) hr he.2
            refine⟨(List.range r.obs.length).map (ay nx (some d)),uh (W:=W) (LB:=LB) (d:=some d) (ins':=l.map Prod.fst) am hwl ns hpl hex nx h1 (by simpa using hb3) (by simpa using hb0) hbo (oR hb1) (by simp [hlen]) (by simpa using hbl) (by simp) (fun i o o' h2 h3=> ?_),fun p hp=> ?_,?_,?_⟩
            · simp only [List.getElem?_map,Option.map_eq_some_iff]at h2 h3
              obtain⟨p,hp,rfl⟩:=h2
              obtain⟨q,hq,rfl⟩:=h3
              rw [hp]at hq
              injection hq with hq
              subst hq
              obtain⟨k,_,_,hn⟩:=hget i p hp
              exact⟨oO hn (fK hB hp),by simpa using Mr hn (x8 hb4 hp)⟩
            · have key:∀(ns:List Nat) (l:List (Ob×Ob)),(∀(i:Nat) (p:Ob×Ob),l[i]?=some p->∃k,ns[i]?=some k/\σ k=some p.1)->∀p∈jd ns (l.map Prod.fst),σ p.1=some p.2:=by
                intro ns
                induction ns with
                |nil=>intro l _ p hp;simp [jd]at hp
                |cons k ns ih=>
                  intro l hl p hp
                  cases l with
                  |nil=>simp [jd]at hp
                  |cons q l=>
                    simp only [List.map_cons,jd,List.mem_cons]at hp
                    rcases hp with rfl |hp
                    · obtain⟨k',h1,h2⟩:=hl 0 q rfl
                      simp at h1;subst h1
                      exact h2
                    · exact ih l (fun i p hp=>by simpa using hl (i+1) p (by simpa using hp)) p hp
              exact key ns l (fun i p hp=>(hget i p hp).imp fun k h=>⟨h.1,h.2.1⟩) p hp
            · intro id hid
              obtain⟨j,hj,rfl⟩:=List.mem_map.1 hid
              have hj':j< r.obs.length:=by simpa using hj
              refine⟨d,hd,?_,?_,?_⟩ <;> simp only [ay,Option.getD_some] <;> omega
            · intro t ht
              rw [hd]at ht
              simp only [Option.some.injEq]at ht
              subst ht
              exact hb0
          · cases h
        · cases h
      · cases h
    · cases h
  · cases h
theorem x5{ar:Array Operand}{w:World}{L:Nat->Prop}{ρ:Nat->Option Value}{g:Operand->Value}{e:Operand->V}(hr:∀x∈ar,R w L ρ (e x) (g x)):RV w L ρ (ar.toList.map e) (ar.map g).toList:=by refine⟨by simp,fun i u x hu hx=> ?_⟩;simp only [List.getElem?_map,Option.map_eq_some_iff,Array.toList_map]at hu hx;obtain⟨p,hp,rfl⟩:=hu;obtain⟨q,hq,rfl⟩:=hx;rw [hp]at hq;injection hq with hq;subst hq;exact hr p (by simpa using List.mem_of_getElem? hp)
theorem Fm(hcl:dg P call)(hwl:∀b,W b->LB b){f:FuncId}{as0:List V}(hq:rz (ev tm) o=some (f,as0))(h:xz call nx σ o f as0=some x)(he:kf x.e):Il P W LB nx tm σ o x:=by
 obtain⟨d',fo,ar,ats,ty,pos,af,gd,first,caps,rfl,hf,ha⟩:=jF hq;refine uo hcl hwl rfl (fun w L ρ g hr=> ?_) h he;have h1:=hr fo (by simp [Op.operands,Call.operands]);rw [hf]at h1;obtain⟨xs,ys,e1,hx,hy⟩:=h1.kP;have hz:RV w L ρ (ar.toList.map (ev tm)) (ar.map g).toList:=x5 fun p hp=>hr p (by simp [Op.operands,Call.operands,hp]);refine⟨xs++ar.map g++ys,fun hcf=> ?_,?_⟩;·simp [execOp,resolve,Deferred.ofValue,invoke,e1,hcf]
 ·rw [<-ha];have:=(hx.append hz).append hy;simpa using this
def GR(e:Operand->V)(o:Oper):Option (String×Nat×List V):=match o.op with
 | .call c=>match c.callee with
  | .value fo=>match e fo with
   | .fn (.method name) [.ifc t v] []=>some (name,t,v::c.args.toList.map e)
   |_=>none
  |_=>none
 |_=>none
def Fv(call:fG)(nx:Nat)(σ:Nat->Option Ob)(o:Oper)(q:String×Nat×List V):Option SX:=match call G1 [.fn (.method q.1) [] [],.i (q.2.1:Int)] []with
 |some r=>match r.v with
  | .c (.int .i64 n)=>xz call nx σ o n.toNat q.2.2
  |_=>none
 |none=>none
theorem Fw(hcl:dg P call)(hwl:∀b,W b->LB b){q:String×Nat×List V}(hq:GR (ev tm) o=some q)(h:Fv call nx σ o q=some x)(he:kf x.e):Il P W LB nx tm σ o x:=by
 obtain⟨d,op,ty,pos,af,gd⟩:=o;unfold GR at hq;simp only at hq;split at hq
 ·rename_i c;obtain⟨callee,ar,ats⟩:=c;simp only at hq;split at hq
  ·rename_i fo;split at hq
   ·rename_i name t v hf;injection hq with hq;subst hq;unfold Fv at h;split at h
    ·rename_i r hr;split at h
     ·rename_i n hn;have hm:=hcl.2 name t r n hr hn;refine uo hcl hwl rfl (fun w L ρ g hrr=> ?_) h he;have h1:=hrr fo (by simp [Op.operands,Call.operands]);rw [hf]at h1;obtain⟨xs,ys,e1,hx,hy⟩:=h1.kP;have hy0:ys= #[]:=by have:=hy.1;simpa using this.symm
      subst hy0;obtain⟨x0,hx0,hr0⟩:=hx.get (i:=0) (u:= .ifc t v) rfl;have hl1:xs.size=1:=by have:=hx.1;simpa using this.symm
      obtain⟨y,e2,hy2⟩:∃y,x0= .iface t y/\R w L ρ v y:=by cases hr0;exact⟨_,rfl,by assumption⟩
      have e3:xs= #[.iface t y]:=by
       rw [e2]at hx0;apply Array.ext';have:xs.toList.length=1:=by simpa using hl1
       match hxl:xs.toList,this with
       | [a],_=>rw [hxl]at hx0;simp at hx0;rw [hx0]
      have hz:RV w L ρ (ar.toList.map (ev tm)) (ar.map g).toList:=x5 fun p hp=>hrr p (by simp [Op.operands,Call.operands,hp]);refine⟨#[y]++ar.map g,fun hcf=> ?_,?_⟩
      ·obtain⟨A,hA⟩:∃A,A= #[Value.iface t y]++ar.map g:=⟨_,rfl⟩;have hA0:A[0]?=some (.iface t y):=by rw [hA,Array.getElem?_append_left (by simp)];rfl
       have hA1:A.extract 1 A.size=ar.map g:=by rw [hA];apply Array.ext';simp [List.take_of_length_le]
       have e5:(method (P.types.size+100) t y name).run P w= .ok (n.toNat,y) w:=hm y w;have e6:(execOp g ⟨d,.call {callee:= .value fo,args:=ar,argTypes:=ats},ty,pos,af,gd⟩).run P w=(invoke (.fn (.method name) #[]) A).run P w:=by rw [hA];simp [execOp,resolve,Deferred.ofValue,e1,e3]
       rw [e6];simp only [invoke,hA0,hA1,callMethod];simp [go_sem,e5,hcf]
      ·have:=(RV.nil (w:=w) (L:=L) (ρ:=ρ)).cons hy2;have:=this.append hz;simpa using this
     ·cases h
    ·cases h
   ·cases hq
  ·cases hq
 ·cases hq
def IU(T:List TI)(tm:Nat->V)(o:Oper):Option SX:=match o.op with
 | .makeInterface t x=>match (T.getD t bE).agg with
  |some true=>match iN o with
   |true=>some ⟨.ifc t (ev tm x),[],[],.lf []⟩
   |false=>none
  |_=>none
 | .nilCheck x=>match ev tm x with
  | .ifc t v=>match iN o with
   |true=>some ⟨.ifc t v,[],[],.lf []⟩
   |false=>none
  |_=>none
 |_=>none
theorem BL(hT:aK T P)(h:IU T tm o=some x):Il P W LB nx tm σ o x:=by
 obtain⟨d,op,ty,pos,af,gd⟩:=o;unfold IU at h;split at h
 ·rename_i t xx hop;simp only at hop;subst hop;split at h
  ·rename_i ha;split at h;·rename_i hd;injection h with h;subst h;exact⟨[],(E6 t xx (hT.agg ha)).step,by simp,by simp [l6],fun t ht=>by simp only at ht;subst ht;simpa [iN]using hd⟩
   ·cases h
  ·cases h
 ·rename_i xx hop;simp only at hop;subst hop;split at h
  ·rename_i t v hx;split at h;·rename_i hd;injection h with h;subst h;exact⟨[],(CW xx hx).step,by simp,by simp [l6],fun t ht=>by simp only at ht;subst ht;simpa [iN]using hd⟩
   ·cases h
  ·cases h
 ·cases h
theorem DX(hT:aK T P)(h:AG T tm σ o=some x):Il P W LB nx tm σ o x:=by
  obtain⟨d,op,ty,pos,af,gd⟩:=o
  unfold AG at h
  split at h
  · rename_i bo t xx y t' hop
    simp only at hop
    subst hop
    split at h
    · rename_i id hx
      split at h
      · rename_i hy
        split at h
        · rename_i el hel
          split at h
          · rename_i e sz n row hσ
            split at h
            · cases h
            · split at h
              · rename_i hd
                have hd':∀t,d=some t->t< 1000:=fun t ht=>by
                  subst ht
                  simpa [iN]using hd
                split at h
                · injection h with h;subst h
                  exact⟨[],(Fg t t' xx y (hT.elem hel) hx hy (Nat.succ_pos _)).1,by simpa using hσ,by simp [l6],hd'⟩
                · injection h with h;subst h
                  exact⟨[],(Fg t t' xx y (hT.elem hel) hx hy (Nat.succ_pos _)).2,by simpa using hσ,by simp [l6],hd'⟩
                · cases h
              · cases h
          · cases h
        · cases h
      · cases h
    · cases h
  · cases h
end
def TR.map(f:V->V):TR->TR
 | .e=> .e
 | .n v l r=> .n (f v) (l.map f) (r.map f)
theorem TR.get_map{f:V->V}(hf:f .any= .any):∀(tr:TR) (t:Nat),(tr.map f).get t=f (tr.get t)
 | .e,t=>by rw [TR.map,TR.jm,hf]
 | .n v l r,0=>by rw [TR.map,TR.mj,TR.mj]
 | .n v l r,t+1=>by rw [TR.map,TR.kT,TR.kT,TR.get_map hf l,TR.get_map hf r];split <;> rfl
def Od(id:Nat)(v:V):Ob->Ob
 | .box t cs=>match V.bA cs with
  |true=> .box t cs
  |false=> .box t (V.og id v cs)
 | .row e sz n f=>match ((List.range n).map f).all V.bA with
  |true=> .row e sz n f
  |false=> .row e sz n (rowOf (((List.range n).map f).map (V.og id v)))
 | .mp s f=>match f.l.all fun p=>p.2.ck with
  |true=> .mp s f
  |false=> .mp s (f.map (V.fz id v))
theorem AZ{f:Nat->List V}{g:List V->List V}{n i:Nat}(h:i< n):rowOf (((List.range n).map f).map g) i=g (f i):=by unfold rowOf;rw [List.getD_eq_getElem?_getD,List.getElem?_map,List.getElem?_map,List.getElem?_range h];rfl
theorem Mu(id:Nat)(v:V)(o:Ob):O4 id v o (Od id v o):=by
 cases o with
 |box t cs=>
  simp only [Od];split;·exact⟨rfl,.inr rfl⟩
  ·exact⟨rfl,.inl rfl⟩
 |row e sz n f=>
  simp only [Od];split;·exact⟨rfl,rfl,rfl,fun _ _=> .inr rfl⟩
  ·exact⟨rfl,rfl,rfl,fun i hi=> .inl (AZ hi)⟩
 |mp s f=>
  simp only [Od];split;·exact⟨rfl,.inr rfl⟩
  ·exact⟨rfl,.inl rfl⟩
def og(id:Nat)(v:V):List (Nat×Option Ob)->List (Nat×Option Ob)
 | []=>[]
 | (k,o)::l=>match Nat.beq k id with
  |true=>og id v l
  |false=>(k,o.map (Od id v))::og id v l
theorem Av(id:Nat)(v:V):∀(l:List (Nat×Option Ob)) (i:Nat) (o':Ob),fN (og id v l) i=some o'->i≠id/\∃o,fN l i=some o/\O4 id v o o'
 | [],i,o',h=>by cases h
 | (k,o)::l,i,o',h=>by
  simp only [og]at h;split at h
  ·rename_i hk;have hk:=Nat.eq_of_beq_eq_true hk;obtain⟨h1,o,h2,h3⟩:=Av id v l i o' h;refine⟨h1,o,?_,h3⟩;simp only [fN];split;·rename_i h4;exact absurd ((Nat.eq_of_beq_eq_true h4).trans hk) h1
   ·exact h2
  ·rename_i hk;have hk:=Nat.ne_of_beq_eq_false hk;simp only [fN]at h ⊢;split at h
   ·rename_i h4;have h4:=Nat.eq_of_beq_eq_true h4;refine⟨by omega,?_⟩;cases o with
    |none=>cases h
    |some o=>simp only [Option.map_some,Option.some.injEq]at h;subst h;exact⟨o,rfl,Mu _ _ _⟩
   ·exact Av id v l i o' h
def F4(s:CS)(id:Nat)(v:V):CS:=⟨s.tr.map (V.fz id v),og id v s.sl,s.nx⟩
theorem vP(s:CS)(id:Nat)(v:V){ob:Ob}(hσ:fN s.sl id=some ob)(h0:∀(W:Nat->Prop) (w:World) (L:Nat->Prop) (ρ:Nat->Option Value),Real W w L ρ id ob->∀y,ρ id=some y->R w (fun b=>L b\/blk y=some b) ρ v y):Le s.den (F4 s id v).den:=by
 have h1:Le s.den ⟨fun t=>V.fz id v (s.tr.get t),fN (og id v s.sl),s.nx⟩:=Le.QF (s:=s.den) id hσ v (fun i o' h=>Av id v s.sl i o' h) h0;have e1:(s.tr.map (V.fz id v)).get=fun t=>V.fz id v (s.tr.get t):=by funext t;exact TR.get_map (by rw [V.fz]) _ _
 simp only [F4,CS.den];rw [e1];exact @h1
def LS(s:CS)(id:Nat):CS:=match Nat.ble 0 id with
 |false=>s
 |true=>match fN s.sl id with
  |some (.row _ sz n f)=>match ((List.range n).map f).all V.bA with
   |true=>F4 s id (.sl sz n (rowOf ((List.range n).map f)))
   |false=>s
  |some (.box _ cs)=>match V.bA cs with
   |true=>F4 s id (.ptr cs)
   |false=>s
  |some (.mp p _)=>match Nat.beq p.2 0 with
   |true=>F4 s id .any
   |false=>s
  |none=>s
def F3(s:CS):List Nat->CS
 | []=>s
 |id::l=>LS (F3 s l) id
theorem Jb(s:CS)(id:Nat):Le s.den (LS s id).den:=by
 unfold LS;split;·exact Le.refl _
 ·split
  ·rename_i e sz n f hσ;split
   ·rename_i hi;refine vP s id _ hσ fun W w L ρ hr y hy=> ?_;have hi':∀i,i< n->V.bA (f i)=true:=fun i hi'=>by have:=ia hi i;rwa [lT hi']at this
    obtain⟨v,h1,_,h3⟩:=hr.slice hi';rw [hy]at h1;injection h1 with h1;subst h1
    exact zE h3 fun i hi''=>(lT hi'').symm
   ·exact Le.refl _
  ·rename_i t0 cs hσ;split
   ·rename_i hi;refine vP s id _ hσ fun W w L ρ hr y hy=> ?_;obtain⟨v,h1,_,h3⟩:=hr.ptr hi;rw [hy]at h1;injection h1 with h1;subst h1
    exact h3
   ·exact Le.refl _
  ·rename_i hσ;split;·exact vP s id _ hσ fun W w L ρ _ y _=> .any _ _
   ·exact Le.refl _
  ·exact Le.refl _
theorem qB(s:CS):∀l:List Nat,Le s.den (F3 s l).den
 | []=>Le.refl _
 |id::l=>Le.trans (qB s l) (Jb _ id)
def Qv:List (Nat×Operand)->Nat->Option Operand
 | [],_=>none
 | (k,y)::l,t=>match Nat.beq t k with
  |true=>some y
  |false=>Qv l t
def G5(en:List (Nat×Operand))(x:Operand):Operand:=match x with
 | .tmp t=>match Qv en t with
  |some y=>y
  |none=> .tmp t
 |x=>x
def KW(tm:Nat->V)(en:List (Nat×Operand)):List Operand->List Nat
 | []=>[]
 |x::l=>(ug (ev tm (G5 en x))).ids++KW tm en l
def kF(mu:List Nat)(tm:Nat->V):List (Nat×Operand)->List Oper->List Nat
 |_,[]=>[]
 |en,o::os=>match o.op with
  | .call c=>match c.callee with
   | .value fo=>match ug (ev tm (G5 en fo))with
    | .fn (.func f) _ _=>match jO mu f with
     |true=>kF mu tm en os
     |false=>KW tm en c.args.toList++kF mu tm en os
    |_=>kF mu tm en os
   |_=>kF mu tm en os
  | .move y=>match o.dst with
   |some t=>kF mu tm ((t,G5 en y)::en) os
   |none=>kF mu tm en os
  |_=>kF mu tm en os
def vS:List Oper->Bool
 | []=>false
 |o::os=>match o.op with
  | .call c=>match c.callee with
   | .value _=>true
   |_=>vS os
  | .binOp .eql _ _ _ _=>true
  | .binOp .neq _ _ _ _=>true
  |_=>vS os
def qj(mu:List Nat)(s:CS)(ol:List Oper):CS:=match vS ol with
 |false=>s
 |true=>F3 s (fQ (fN s.sl) 1000 (kF mu s.tr.get [] ol) [])
theorem vO(mu:List Nat)(s:CS)(ol:List Oper):Le s.den (qj mu s ol).den:=by
 unfold qj;split;·exact Le.refl _
 ·exact qB _ _
structure ve where
  call:fG
  M:List Nat
  nx:Nat
  tm:Nat->V
  σ:Nat->Option Ob
  o:Oper
def HB{α:Type}(b:Bool)(x:Option α):Option α:=Bool.rec (motive:=fun _=>Option α) none x b
def oE{α β:Type}(o:Option α)(els:Option β)(f:α->Option β):Option β:=Option.rec (motive:=fun _=>Option β) els f o
theorem ef{α:Type}{b:Bool}{x:Option α}{y:α}(h:HB b x=some y):b=true/\x=some y:=by
 cases b with
 |true=>exact⟨rfl,h⟩
 |false=>cases h
def KQ:V->Bool
 | .gd _ _=>false
 |_=>true
def dB(d:Option Tmp):Bool:=Option.rec (motive:=fun _=>Bool) false (fun t=>Nat.ble t 999) d
def eF(T:List TI)(p:ve):Option SX:=PB T p.M p.nx p.tm p.σ p.o
def K8(p:ve)(x:Operand)(f:V->Option SX):Option SX:=HB (KQ (ev p.tm x)) (f (ev p.tm x))
def O1(p:ve)(r:Option SR)(q:PQ):Option SX:=HB (and q.dec (dB p.o.dst)) (oE r none fun r=>some ⟨r.v,r.pre,r.δ,(.lf [])⟩)
def J6:V->Option (IntKind×Int)
 | .c (.int k n)=>some (k,n)
 |_=>none
def Gy:IntKind->Nat
 | .i8=>0
 | .i16=>1
 | .i32=>2
 | .i64=>3
 | .u8=>4
 | .u16=>5
 | .u32=>6
 | .u64=>7
theorem Gz{a b:IntKind}(h:Nat.beq (Gy a) (Gy b)=true):a=b:=by have h:=Nat.eq_of_beq_eq_true h;cases a <;> cases b <;> first |rfl | (simp [Gy]at h)
def Px(op:BinOp):IntKind->Int->Int->Option (PQ×V):=match op with
 | .add=>fun k a b=>some (vV k (a+b),.c (.int k (a+b)))
 | .sub=>fun k a b=>some (vV k (a- b),.c (.int k (a- b)))
 | .mul=>fun k a b=>some (vV k (a*b),.c (.int k (a*b)))
 | .quo=>fun k a b=>some (.and (.lt 0 b) (vV k a),.c (.int k (a.tdiv b)))
 | .rem=>fun k a b=>some (.ne b 0,.c (.int k (a.tmod b)))
 | .eql=>fun _ a b=>some (.tt,.b (decide (a=b)))
 | .neq=>fun _ a b=>some (.tt,.b (!decide (a=b)))
 | .lss=>fun _ a b=>some (.tt,.b (decide (a< b)))
 | .leq=>fun _ a b=>some (.tt,.b (decide (a<=b)))
 | .gtr=>fun _ a b=>some (.tt,.b (decide (b< a)))
 | .geq=>fun _ a b=>some (.tt,.b (decide (b<=a)))
 |_=>fun _ _ _=>none
theorem Jl(k:IntKind)(n:Int):(vV k n).den=qm k n:=by cases k <;> rfl
theorem LA{op:BinOp}{k:IntKind}{a b:Int}{q:PQ}{v:V}(h:Px op k a b=some (q,v)):∃c,Dc false op (.c (.int k a)) (.c (.int k b))=some (c,v)/\(q.dec=true->c):=by refine⟨q.den,?_,PQ.ok⟩;cases op <;> simp only [Px,Option.some.injEq,Prod.mk.injEq,reduceCtorEq]at h <;> (rw [<-h.1,<-h.2];simp [Dc,IM,PQ.den,Jl])
def H6(_:Call)(T:List TI)(p:ve):Option SX:=match rz (ev p.tm) p.o with
 |some (f,as0)=>xz p.call p.nx p.σ p.o f as0
 |none=>match GR (ev p.tm) p.o with
  |some q=>Fv p.call p.nx p.σ p.o q
  |none=>eF T p
def Qj(_:TypeId)(_:Operand)(T:List TI)(p:ve):Option SX:=IU T p.tm p.o
def Po(T:List TI)(p:ve):Option SX:=oE (AG T p.tm p.σ p.o) (eF T p) some
def QM(T:List TI)(p:ve)(op:BinOp)(u v:IntKind×Int):Option SX:=oE (HB (Nat.beq (Gy u.1) (Gy v.1)) (Px op u.1 u.2 v.2)) (Po T p) fun r=>HB (and r.1.dec (dB p.o.dst)) (some ⟨r.2,[],[],(.lf [])⟩)
def Qi(op:BinOp)(_:TypeId)(x y:Operand)(_:TypeId)(T:List TI)(p:ve):Option SX:=oE (J6 (ev p.tm x)) (Po T p) fun u=>oE (J6 (ev p.tm y)) (Po T p) fun v=>QM T p op u v
def K9(x:Operand)(T:List TI)(p:ve):Option SX:=HB (and (KQ (ev p.tm x)) (dB p.o.dst)) (some ⟨ev p.tm x,[],[],(.lf [])⟩)
def H7(t:TypeId)(x:Operand)(T:List TI)(p:ve):Option SX:=K8 p x fun v=>O1 p (kZ T t p.σ v) (Cj p.σ v)
def Bh(t:TypeId)(x y:Operand)(T:List TI)(p:ve):Option SX:=K8 p x fun u=>K8 p y fun v=>HB (and (wo p.σ u v).dec (Option.rec (motive:=fun _=>Bool) true (fun _=>false) p.o.dst)) (oE (iU T t p.σ u v) none fun r=>some ⟨r.v,r.pre,r.δ,(.lf [])⟩)
def M5(t:TypeId)(x:Operand)(f:Nat)(T:List TI)(p:ve):Option SX:=K8 p x fun v=>O1 p (Gw T t f v) .tt
def xIdx(t:TypeId)(x y:Operand)(T:List TI)(p:ve):Option SX:=K8 p x fun u=>K8 p y fun v=>O1 p (Gx T t p.σ u v) (JN T t p.σ u v)
def M6(x:Operand)(T:List TI)(p:ve):Option SX:=oE (pT (ev p.tm x)) (IU T p.tm p.o) fun r=>HB (and (KQ (ev p.tm x)) (dB p.o.dst)) (some ⟨r.v,r.pre,r.δ,(.lf [])⟩)
def M4(x:Operand)(i:Nat)(T:List TI)(p:ve):Option SX:=K8 p x fun v=>O1 p (kX v i) .tt
def La(op:Op):List TI->ve->Option SX:=Op.rec (motive:=fun _=>List TI->ve->Option SX) K9 K9 (fun _ _ _=>eF) (fun _=>eF) (fun _ _=>eF) (fun _ _=>eF) (fun _ _ _=>eF) (fun _ _ _ _=>eF) H7 Bh (fun _=>eF) (fun _=>eF) M6 Qi (fun _ _ _=>eF) (fun _ _ _=>eF) (fun _ _=>eF) Qj (fun _ _ _=>eF) (fun _ _=>eF) (fun _ _=>eF) (fun _ _ _=>eF) (fun _ _ _ _ _=>eF) M5 (fun _ _ _=>eF) xIdx (fun _ _ _=>eF) (fun _ _ _ _=>eF) (fun _ _ _ _=>eF) (fun _ _ _=>eF) (fun _ _ _ _=>eF) (fun _ _=>eF) (fun _ _=>eF) (fun _=>eF) (fun _ _ _ _=>eF) M4 H6 (fun _=>eF) (fun _=>eF) (fun _=>eF) (fun _ _=>eF) (fun _ _ _=>eF) (fun _ _=>eF) op
theorem lS{α β:Type}{o:Option α}{els:Option β}{f:α->Option β}{y:β}(h:oE o els f=some y):(∃a,o=some a/\f a=some y)\/(o=none/\els=some y):=by
 cases o with
 |none=>exact .inr ⟨rfl,h⟩
 |some a=>exact .inl ⟨a,rfl,h⟩
theorem dm{α β:Type}{o:Option α}{f:α->Option β}{y:β}(h:oE o none f=some y):∃a,o=some a/\f a=some y:=by
 rcases lS h with h | ⟨_,h⟩;·exact h
 ·cases h
theorem jb{v:V}(h:KQ v=true):ug v=v:=by cases v <;> first |rfl |cases h
theorem iF{p:ve}{x:Operand}{f:V->Option SX}{y:SX}(h:K8 p x f=some y):KQ (ev p.tm x)=true/\f (ev p.tm x)=some y:=ef h
theorem mU{v:V}(h:KQ v=true):sn [v]=true:=by cases v <;> first |rfl |cases h
theorem AA{u v:V}(h:KQ u=true)(k:KQ v=true):sn [u,v]=true:=by cases u <;> first |exact mU k |cases h
theorem pP{o:Oper}(h:dB o.dst=true):uq o=true:=by
 unfold dB at h;unfold uq;cases hd:o.dst with
 |none=>rw [hd]at h;cases h
 |some t=>rw [hd]at h;exact h
theorem oc{p:ve}{r:Option SR}{q:PQ}{y:SX}(h:O1 p r q=some y):q.dec=true/\dB p.o.dst=true/\∃r',r=some r'/\y=⟨r'.v,r'.pre,r'.δ,.lf []⟩:=by obtain⟨h1,h2⟩:=ef h;simp only [Bool.and_eq_true]at h1;obtain⟨r',h3,h4⟩:=dm h2;injection h4 with h4;exact⟨h1.1,h1.2,r',h3,h4.symm⟩
theorem GI{T:List TI}{t:Nat}{σ:Nat->Option Ob}{v:V}{r:SR}(h:kZ T t σ v=some r)(hq:(Cj σ v).dec=true):r.c:=by
 have hq:=PQ.ok hq;unfold kZ at h;unfold Cj at hq;split at h
 ·split at h;·injection h with h;subst h;trivial
  ·cases h
 ·split at h
  ·rename_i hσ;simp only [hσ]at hq;split at h;·injection h with h;subst h;exact hq
   ·cases h
  ·cases h
 ·split at h
  ·rename_i hσ;simp only [hσ]at hq;split at h
   ·split at h;·injection h with h;subst h;exact hq
    ·cases h
   ·cases h
  ·cases h
 ·cases h
theorem Eo{T:List TI}{t:Nat}{σ:Nat->Option Ob}{u v:V}{r:SR}(h:iU T t σ u v=some r)(hq:(wo σ u v).dec=true):r.c:=by
 have hq:=PQ.ok hq;unfold iU at h;unfold wo at hq;split at h
 ·rename_i us hus;simp only [hus]at hq;split at h
  ·split at h
   ·rename_i hσ;simp only [hσ]at hq;split at h;·injection h with h;subst h;exact hq
    ·cases h
   ·cases h
  ·split at h
   ·rename_i hσ;simp only [hσ]at hq;split at h;·injection h with h;subst h;exact hq
    ·cases h
   ·cases h
  ·cases h
 ·cases h
theorem Mk{T:List TI}{t:Nat}{σ:Nat->Option Ob}{u v:V}{r:SR}(h:Gx T t σ u v=some r)(hq:(JN T t σ u v).dec=true):r.c:=by
 have hq:=PQ.ok hq;unfold Gx at h;split at h
 ·rename_i _ i _;unfold nG at h;split at h
  ·split at h
   ·split at h;·injection h with h;subst h;exact hq
    ·cases h
   ·cases h
  ·split at h
   ·rename_i n el ha;have hq:(D3 T t i).den:=hq;unfold D3 at hq;simp only [ha]at hq;split at h;·injection h with h;subst h;exact hq
    ·cases h
   ·cases h
  ·split at h
   ·rename_i n el ha;have hq:(D3 T t i).den:=hq;unfold D3 at hq;simp only [ha]at hq;split at h;·injection h with h;subst h;exact hq
    ·cases h
   ·cases h
  ·split at h
   ·split at h
    ·rename_i hσ;simp only [JN,hσ]at hq;split at h;·injection h with h;subst h;exact hq
     ·cases h
    ·cases h
   ·cases h
  ·cases h
 ·cases h
theorem Mj{T:List TI}{t f:Nat}{v:V}{r:SR}(h:Gw T t f v=some r):r.c:=by
 unfold Gw at h;split at h;·split at h <;> first | (injection h with h;subst h;trivial) |cases h
 ·cases h
theorem Ar{v:V}{i:Nat}{r:SR}(h:kX v i=some r):r.c:=by
 unfold kX at h;split at h
 ·split at h;·injection h with h;subst h;trivial
  ·cases h
 ·cases h
theorem Jr{v:V}{r:SR}(h:pT v=some r):r.c:=by
 unfold pT at h;split at h;·injection h with h;subst h;trivial
 ·cases h
theorem iL{T:List TI}{wr:Bool}{M:List Nat}{nx:Nat}{o:Oper}{e:Operand->V}{σ:Nat->Option Ob}{r:SR}(h:As T wr M nx o e σ=some r):pU T wr M nx o e σ=some r:=by unfold pU;rw [h]
theorem uX{v:V}{k:IntKind}{n:Int}(h:J6 v=some (k,n)):v= .c (.int k n):=by
 unfold J6 at h;split at h;·injection h with h;injection h with h1 h2;subst h1 h2;rfl
 ·cases h
theorem H8{P:Program}{W LB:Nat->Prop}{call:fG}{T:List TI}{M:List Nat}{nx:Nat}{tm:Nat->V}{σ:Nat->Option Ob}{o:Oper}{x:SX}(hT:aK T P)(hcl:dg P call)(hwl:∀b,W b->LB b)(h:La o.op T ⟨call,M,nx,tm,σ,o⟩=some x)(he:kf x.e):Il P W LB nx tm σ o x:=by
 obtain⟨d,op,ty,pos,af,gd⟩:=o;have old:∀ {x:SX},eF T ⟨call,M,nx,tm,σ,⟨d,op,ty,pos,af,gd⟩⟩=some x->kf x.e->Il P W LB nx tm σ ⟨d,op,ty,pos,af,gd⟩ x:=fun h he=>Fx hT h he;have oldB:∀ {x:SX},Po T ⟨call,M,nx,tm,σ,⟨d,op,ty,pos,af,gd⟩⟩=some x->kf x.e->Il P W LB nx tm σ ⟨d,op,ty,pos,af,gd⟩ x:=fun h he=>by
  rcases lS h with⟨y,hy,h⟩ | ⟨_,h⟩;·injection h with h;subst h;exact DX hT hy
  ·exact Fx hT h he
 cases op;case move y=>
  obtain⟨h1,h2⟩:=ef h
  simp only [Bool.and_eq_true]at h1
  injection h2 with h2;subst h2
  have e1:=jb h1.1
  have:=kK (W:=W) (LB:=LB) (M:=M) (wr:=false) (nx:=nx) (σ:=σ) (o:=⟨d,.move y,ty,pos,af,gd⟩) (e:= .lf []) hT (by simp only [Bool.and_eq_true];exact⟨pP (o:=⟨d,.move y,ty,pos,af,gd⟩) h1.2,mU h1.1⟩) (iL rfl) trivial
  simp only [aI,e1]at this
  exact this
 case assign y=>
  obtain⟨h1,h2⟩:=ef h
  simp only [Bool.and_eq_true]at h1
  injection h2 with h2;subst h2
  have e1:=jb h1.1
  have:=kK (W:=W) (LB:=LB) (M:=M) (wr:=false) (nx:=nx) (σ:=σ) (o:=⟨d,.assign y,ty,pos,af,gd⟩) (e:= .lf []) hT (by simp only [Bool.and_eq_true];exact⟨pP (o:=⟨d,.assign y,ty,pos,af,gd⟩) h1.2,mU h1.1⟩) (iL rfl) trivial
  simp only [aI,e1]at this
  exact this
 case binOp bo t y z t'=>
  rcases lS h with⟨u,hu,h⟩ | ⟨_,h⟩
  ·rcases lS h with⟨v,hv,h⟩ | ⟨_,h⟩
   ·rcases lS h with⟨r,hr,h⟩ | ⟨_,h⟩;·obtain⟨hk,hr⟩:=ef hr;obtain⟨h1,h2⟩:=ef h;simp only [Bool.and_eq_true]at h1;injection h2 with h2;subst h2;obtain⟨k,a⟩:=u;obtain⟨k',b⟩:=v;have hk:=Gz hk;simp only at hk;subst hk;obtain⟨q,w⟩:=r;obtain⟨c,hc1,hc2⟩:=LA hr;have eu:=uX hu;have ev':=uX hv;simp only at eu ev';have:=kK (W:=W) (LB:=LB) (M:=M) (wr:=false) (nx:=nx) (σ:=σ) (o:=⟨d,.binOp bo t y z t',ty,pos,af,gd⟩) (tm:=tm) (r:=aI c w) (e:= .lf []) hT (by simp only [Bool.and_eq_true];exact⟨pP (o:=⟨d,.binOp bo t y z t',ty,pos,af,gd⟩) h1.2,AA (by rw [eu];rfl) (by rw [ev'];rfl)⟩) (iL (by show Jt T false bo t (ug (ev tm y)) (ug (ev tm z))=_;rw [eu,ev'];show Jt T false bo t (.c (.int k a)) (.c (.int k b))=_;unfold Jt;rw [hc1])) (hc2 h1.1);exact this
    ·exact oldB h he
   ·exact oldB h he
  ·exact oldB h he
 case load t y=>
  have h:H7 t y T ⟨call,M,nx,tm,σ,⟨d,.load t y,ty,pos,af,gd⟩⟩=some x:=h
  unfold H7 at h
  obtain⟨h1,h2⟩:=iF h
  obtain⟨h3,h4,r,h5,rfl⟩:=oc h2
  exact kK (W:=W) (LB:=LB) (M:=M) (wr:=false) hT (by simp only [Bool.and_eq_true];exact⟨pP h4,mU h1⟩) (iL (by show kZ T t σ (ug (ev tm y))=_;rw [jb h1];exact h5)) (GI h5 h3)
 case store t y z=>
  have h:Bh t y z T ⟨call,M,nx,tm,σ,⟨d,.store t y z,ty,pos,af,gd⟩⟩=some x:=h
  unfold Bh at h
  obtain⟨h1,h2⟩:=iF h
  obtain⟨k1,k2⟩:=iF h2
  obtain⟨h3,h4⟩:=ef k2
  simp only [Bool.and_eq_true]at h3
  obtain⟨r,h5,h6⟩:=dm h4
  injection h6 with h6;subst h6
  have hd:d=none:=by
   cases d with
   |none=>rfl
   |some t=>exact absurd h3.2 (by simp)
  subst hd
  exact kK (W:=W) (LB:=LB) (M:=M) (wr:=false) hT (by simp only [Bool.and_eq_true];exact⟨rfl,AA h1 k1⟩) (iL (by show iU T t σ (ug (ev tm y)) (ug (ev tm z))=_;rw [jb h1,jb k1];exact h5)) (Eo h5 h3.1)
 case fieldAddr t y f=>
  have h:M5 t y f T ⟨call,M,nx,tm,σ,⟨d,.fieldAddr t y f,ty,pos,af,gd⟩⟩=some x:=h
  unfold M5 at h
  obtain⟨h1,h2⟩:=iF h
  obtain⟨h3,h4,r,h5,rfl⟩:=oc h2
  exact kK (W:=W) (LB:=LB) (M:=M) (wr:=false) hT (by simp only [Bool.and_eq_true];exact⟨pP h4,mU h1⟩) (iL (by show Gw T t f (ug (ev tm y))=_;rw [jb h1];exact h5)) (Mj h5)
 case indexAddr t y z=>
  have h:xIdx t y z T ⟨call,M,nx,tm,σ,⟨d,.indexAddr t y z,ty,pos,af,gd⟩⟩=some x:=h
  unfold xIdx at h
  obtain⟨h1,h2⟩:=iF h
  obtain⟨k1,k2⟩:=iF h2
  obtain⟨h3,h4,r,h5,rfl⟩:=oc k2
  exact kK (W:=W) (LB:=LB) (M:=M) (wr:=false) hT (by simp only [Bool.and_eq_true];exact⟨pP h4,AA h1 k1⟩) (iL (by show Gx T t σ (ug (ev tm y)) (ug (ev tm z))=_;rw [jb h1,jb k1];exact h5)) (Mk h5 h3)
 case nilCheck y=>
  have h:M6 y T ⟨call,M,nx,tm,σ,⟨d,.nilCheck y,ty,pos,af,gd⟩⟩=some x:=h
  unfold M6 at h
  rcases lS h with⟨r,h5,h⟩ | ⟨_,h⟩
  ·obtain⟨h1,h2⟩:=ef h;simp only [Bool.and_eq_true]at h1;injection h2 with h2;subst h2;have h5:pT (ev tm y)=some r:=h5;exact kK (W:=W) (LB:=LB) (M:=M) (wr:=false) hT (by simp only [Bool.and_eq_true];exact⟨pP h1.2,mU h1.1⟩) (by unfold pU;show(match vY T ⟨d,.nilCheck y,ty,pos,af,gd⟩ (fun x=>ug (ev tm x)) σ with |some r=>some r |none=>_)=_;rw [show vY T ⟨d,.nilCheck y,ty,pos,af,gd⟩ (fun x=>ug (ev tm x)) σ=some r from by show pT (ug (ev tm y))=_;rw [jb h1.1];exact h5]) (Jr h5)
  ·exact BL hT h
 case extract y i=>
  have h:M4 y i T ⟨call,M,nx,tm,σ,⟨d,.extract y i,ty,pos,af,gd⟩⟩=some x:=h
  unfold M4 at h
  obtain⟨h1,h2⟩:=iF h
  obtain⟨h3,h4,r,h5,rfl⟩:=oc h2
  exact kK (W:=W) (LB:=LB) (M:=M) (wr:=false) hT (by simp only [Bool.and_eq_true];exact⟨pP h4,mU h1⟩) (iL (by show kX (ug (ev tm y)) i=_;rw [jb h1];exact h5)) (Ar h5)
 case makeInterface t y=>exact BL hT h
 case call c=>
  have h:H6 c T ⟨call,M,nx,tm,σ,⟨d,.call c,ty,pos,af,gd⟩⟩=some x:=h
  unfold H6 at h
  split at h
  ·exact Fm hcl hwl (by assumption) h he
  ·split at h;·exact Fw hcl hwl (by assumption) h he
   ·exact old h he
 all_goals exact old h he
def zW(a b:CT):CT:=match a with
 | .lf l=>match l with
  | []=>b
  |x::l=> .nd (.lf (x::l)) b
 | .nd c d=> .nd (.nd c d) b
theorem mM{a b:CT}(h:kf (zW a b)):kf a/\kf b:=by
 unfold zW at h;split at h
 ·split at h;·exact⟨(fun p hp=>nomatch hp),h⟩
  ·exact h
 ·exact h
abbrev KS:Type:=List (List Nat×List Nat)
abbrev RK:Type:=CS->KS->Option (CS×KS×CT)
def P5(call:fG)(T:List TI)(M:List Nat)(o:Oper)(ih:RK)(s:CS)(ks:KS):Option (CS×KS×CT):= oE (La o.op T ⟨call,M,s.nx,s.tr.get,fN s.sl,o⟩) none fun x=>oE (ih ⟨Oh s.tr o.dst x.v,Ci s.sl x.δ,s.nx⟩ ((aV x.δ,dZ x.pre++aV x.δ)::ks)) none fun r=>some (r.1,r.2.1,zW x.e r.2.2)
def Hr(call:fG)(T:List TI)(M:List Nat)(ol:List Oper)(o:Oper)(ih:RK)(s:CS)(ks:KS):Option (CS×KS×CT):=match o.guard with
 |none=>P5 call T M o ih s ks
 |some _=>match eP (ol.map (·.dst)) s.tr.get o with
  |some (some g)=>match g with
   |true=>P5 call T M o ih s ks
   |false=>match o.dst with
    |some t=>match Nat.ble t 999 with
     |true=>ih ⟨TR.put 10 s.tr t (.gd false (.b false)),s.sl,s.nx⟩ (([],[])::ks)
     |false=>none
    |none=>none
  |_=>none
def tV(call:fG)(T:List TI)(M:List Nat)(ol:List Oper)(os:List Oper):RK:=List.rec (motive:=fun _=>RK) (fun s ks=>some (s,ks,.lf [])) (fun o _ ih=>Hr call T M ol o ih) os
theorem Hq(call:fG)(T:List TI)(M:List Nat)(ol:List Oper)(s:CS)(ks:KS):tV call T M ol [] s ks=some (s,ks,.lf []):=rfl
theorem D4(call:fG)(T:List TI)(M:List Nat)(ol:List Oper)(o:Oper)(os:List Oper)(s:CS)(ks:KS):tV call T M ol (o::os) s ks=Hr call T M ol o (tV call T M ol os) s ks:=rfl
theorem fX{P:Program}{N:Nat}{C:Cx P N}{T:List TI}{M:List Nat}{call:fG}(hT:aK T P)(hcl:dg P call){ol:List Oper}{K:(Nat->V)->(Nat->Option Ob)->List (List Nat×List Nat)->Prop} : ∀ {os:List Oper}{s:CS}{ks:List (List Nat×List Nat)}{s':CS}{ks':List (List Nat×List Nat)}{e:CT},tV call T M ol os s ks=some (s',ks',e)->kf e->s'.nx=s.nx/\(K s'.tr.get (fN s'.sl) ks'.reverse->bF C ol.toArray s.nx os s.tr.get (fN s.sl) ks.reverse K)
 | [],s,ks,s',ks',e,h,he=>by simp only [Hq,Option.some.injEq,Prod.mk.injEq]at h;obtain⟨rfl,rfl,rfl⟩:=h;exact⟨rfl,id⟩
 |o::os,s,ks,s',ks',e,h,he=>by
  have run:dJ ol.toArray s.tr.get o=some true->P5 call T M o (tV call T M ol os) s ks=some (s',ks',e)->s'.nx=s.nx/\(K s'.tr.get (fN s'.sl) ks'.reverse->bF C ol.toArray s.nx (o::os) s.tr.get (fN s.sl) ks.reverse K):=by intro hw h;obtain⟨x,hx,h⟩:=dm h;obtain⟨r,h1,h⟩:=dm h;obtain⟨s1,ks1,e1⟩:=r;simp only [Option.some.injEq,Prod.mk.injEq]at h;obtain⟨rfl,rfl,rfl⟩:=h;have he:=mM he;obtain⟨nw,q1,q2,q3,q4⟩:=H8 (W:=C.W) (LB:=C.LB) hT hcl C.wl hx he.1;obtain⟨r1,r2⟩:=fX hT hcl (C:=C) (K:=K) h1 he.2;refine⟨r1,fun hk=>⟨⟨true,x.v,x.pre,nw,x.δ⟩,⟨hw,fun _=>⟨q1,q2,q3⟩,by simp⟩,?_⟩⟩;have:=r2 hk;rw [Hj q4,yg,List.reverse_cons]at this;exact this
  rw [D4]at h;unfold Hr at h;split at h;·rename_i hg;exact run (by unfold dJ;rw [hg]) h
  ·rename_i gd' hg;split at h
   ·rename_i g hgv;have hw:=gk (ops:=ol.toArray) (r:=some g) (by simpa using hgv);split at h;·exact run hw h
    ·split at h
     ·rename_i t ht;split at h;·rename_i hlt;obtain⟨r1,r2⟩:=fX hT hcl (C:=C) (K:=K) h he;refine⟨r1,fun hk=> ?_⟩;have:=r2 hk;rw [TR.jU (Nat.lt_succ_of_le (Nat.le_of_ble_eq_true hlt)),List.reverse_cons]at this;exact kE (by simpa using hgv) ht this
      ·cases h
     ·cases h
   ·cases h
def Oe(ops:List Oper):Bool:=
 decide ((ops.filterMap (·.dst)).Nodup) &&
 (List.range ops.length).all (fun i=>match ops[i]? with
  |some o=>(fT o).all (· < i) &&
   (List.range ops.length).all (fun j=>j == i || match ((ops.map (·.dst))[j]?).bind id with
    |some t=> !(looks (ops.map (·.dst)) o).contains t || (fT o).contains j || (reach ops ops.length [j]).contains i
    |none=>true)
  |none=>true)
def Pg(ks:KS):Bool:=ks.all fun p=>p.1.isEmpty
def JI(ops:List Oper)(ks:KS):Bool:=Oe ops && (Pg ks || jc ops ks.reverse)
theorem Cb{ops:List Oper}{kr:KS}(h:JI ops kr=true):jc ops kr.reverse=true:=by
 simp only [JI,Bool.and_eq_true,Bool.or_eq_true]at h;have hm:Pg kr=true->Pg kr.reverse=true:=fun h=>by simpa [Pg]using h
 generalize kr.reverse=ks at h hm ⊢;obtain⟨h1,h2 |h2⟩:=h
 ·simp only [Oe,Bool.and_eq_true]at h1;obtain⟨h3,h4⟩:=h1;simp only [jc,Bool.and_eq_true];refine⟨h3,List.all_eq_true.2 fun i hi=> ?_⟩;have h5:=List.all_eq_true.1 h4 i hi;have h2:=hm h2;have hw:∀(j:Nat) (w f:List Nat),ks[j]?=some (w,f)->w=[]:=fun j w f hj=>by have:=List.all_eq_true.1 h2 _ (List.mem_of_getElem? hj);simpa using this
  cases ho:ops[i]? with
  |none=>rfl
  |some o=>
   rw [ho]at h5;simp only [Bool.and_eq_true]at h5 ⊢;refine⟨h5,?_⟩;cases hk:ks[i]? with
   |none=>rfl
   |some p=>
    obtain⟨wi,fi⟩:=p;simp only [Bool.or_eq_true];refine .inr (List.all_eq_true.2 fun j hj=> ?_);cases hkj:ks[j]? with
    |none=>rfl
    |some q=>obtain⟨wj,fj⟩:=q;have e1:=hw i wi fi hk;have e2:=hw j wj fj hkj;subst e1 e2;simp
 ·exact h2
inductive CC where
  |code (c:Code) (k:List Fr) (s:CS)
  |ops (ol:List Oper) (dr:Bool) (rest:List Oper) (s:CS) (ks:List (List Nat×List Nat)) (k:List Fr)
  |done (e:Exit) (k:List Fr) (s:CS)
def CC.den:CC->Bq
 | .code c k s=> .code c k s.den
 | .ops ol dr rest s ks k=> .ops ol dr rest s.tr.get (fN s.sl) s.nx ks k
 | .done e k s=> .done e k s.den
def c0:CT:= .lf []
abbrev Nn:Type:=Operand->Array Tmp->Code->Code->CS->Option (Exit×CS×CT)
def Bw{P:Program}{N:Nat}(C:Cx P N)(rng:Nn):Prop:=∀g ps as0 bd s e s' t,rng g ps as0 bd s=some (e,s',t)->kf t->∀Q:Exit->S->Prop,Q e s'.den->AW C (.rangeFunc g ps as0 bd) Q s.den
def MI:Nn:=fun _ _ _ _ _=>none
theorem Co{P:Program}{N:Nat}{C:Cx P N}:Bw C MI:=fun _ _ _ _ _ _ _ _ h=>by cases h
abbrev EK:Type:=CS->Option (Exit×CS×CT)
def Ma:Exit->Bool
 | .normal=>true
 |_=>false
theorem Mb{e:Exit}(h:Ma e=true):e= .normal:=by cases e <;> first |rfl |cases h
theorem Gt{e:Exit}(h:Ma e=false):e≠ .normal:=by intro he;subst he;cases h
def HP:V->Option Bool
 | .c (.bool t)=>some t
 |_=>none
theorem HR{v:V}{t:Bool}(h:HP v=some t):v= .b t:=by
 unfold HP at h;split at h;·injection h with h;subst h;rfl
 ·cases h
def NL(t:CT)(q:Exit×CS×CT):Option (Exit×CS×CT):=some (q.1,q.2.1,zW t q.2.2)
def xK(b:EK)(r:Exit×CS×CT):Option (Exit×CS×CT):=Bool.rec (motive:=fun _=>Option (Exit×CS×CT)) (some r) (oE (b r.2.1) none (NL r.2.2)) (Ma r.1)
def NP(a b:EK):EK:=fun s=>oE (a s) none (xK b)
def NK(c:Operand)(a b:EK):EK:=fun s=>oE (HP (ev s.tr.get c)) none fun t=>Bool.rec (motive:=fun _=>Option (Exit×CS×CT)) (b s) (a s) t
def ND(id:Nat):Exit->Exit
 | .exit id'=>match Nat.beq id' id with
  |true=> .normal
  |false=> .exit id'
 |e=>e
def LL(id:Nat)(a:EK):EK:=fun s=>oE (a s) none fun r=>some (ND id r.1,r.2)
def B7(a:EK)(k:Nat):EK:=Nat.rec (motive:=fun _=>EK) a (fun _ ih s=>oE (ih s) none (xK ih)) k
def NM(a:EK):EK:=fun s=>oE (B7 a 30 s) none fun r=>Bool.rec (motive:=fun _=>Option (Exit×CS×CT)) (some r) none (Ma r.1)
def Oc:Exit->Bool
 | .goto _=>false
 |_=>true
def LM(a:EK):EK:=fun s=>oE (a s) none fun r=>HB (Oc r.1) (some r)
def IY(e:Exit):EK:=fun s=>some (e,s,c0)
def NO(dr:Bool)(ol:List Oper)(r:CS×KS×CT):Option (Exit×CS×CT):=HB (Bool.rec (motive:=fun _=>Bool) true (JI ol r.2.1) dr) (some (.normal,⟨r.1.tr,r.1.sl,r.1.nx+1⟩,r.2.2))
def NN(call:fG)(T:List TI)(M mu:List Nat)(N:Nat)(ops:Array Oper)(dr:Bool):EK:=fun s=>HB (gM N ops.toList) (oE (tV call T M ops.toList ops.toList (qj mu s ops.toList) []) none (NO dr ops.toList))
def KC:EK:=fun _=>none
def xR(call:fG)(rng:Nn)(T:List TI)(M mu:List Nat)(N:Nat)(c:Code):EK:=Code.rec (motive:=fun _=>EK) (IY .normal) (fun _ ops dr=>NN call T M mu N ops dr) (fun _ _ a b=>NP a b) (fun c _ _ a b=>NK c a b) (fun id _ a=>LL id a) (fun _ a=>NM a) (fun f ps as0 bd _ _=>rng f ps as0 bd) (fun id=>IY (.exit id)) (fun _ a=>LM a) (fun _=>IY .normal) (fun _=>KC) (IY .ret) (fun _=>KC) c
section
variable {P:Program}{N:Nat}{C:Cx P N}{T:List TI}{M mu:List Nat}{call:fG}{rng:Nn}
def De(C:Cx P N)(c:Code)(f:EK):Prop:=∀s e s' t,f s=some (e,s',t)->kf t->∀Q:Exit->S->Prop,Q e s'.den->AW C c Q s.den
theorem rG{b:EK}{r q:Exit×CS×CT}(h:xK b r=some q):(Ma r.1=false/\q=r)\/(r.1= .normal/\∃p,b r.2.1=some p/\q=(p.1,p.2.1,zW r.2.2 p.2.2)):=by
 unfold xK at h;cases hn:Ma r.1 with
 |false=>rw [hn]at h;injection h with h;exact .inl ⟨rfl,h.symm⟩
 |true=>rw [hn]at h;obtain⟨p,hp,h⟩:=dm h;injection h with h;exact .inr ⟨Mb hn,p,hp,h.symm⟩
theorem I0{x y:Code}{a b:EK}(ha:De C x a)(hb:De C y b):De C (.seq x y) (NP a b):=by
 intro s e s' t h he Q hQ;obtain⟨r,hr,h⟩:=dm h;obtain⟨e1,s1,t1⟩:=r;rcases rG h with⟨h1,h2⟩ | ⟨h1,p,hp,h2⟩;·simp only [Prod.mk.injEq]at h2;obtain⟨rfl,rfl,rfl⟩:=h2;refine zS (ha _ _ _ _ hr he _ ?_);have:=Gt h1;cases e <;> first |exact absurd rfl this |exact hQ
 ·simp only at h1 hp;subst h1;obtain⟨e2,s2,t2⟩:=p;simp only [Prod.mk.injEq]at h2;obtain⟨rfl,rfl,rfl⟩:=h2;have he:=mM he;exact zS (ha _ _ _ _ hr he.1 _ (hb _ _ _ _ hp he.2 _ hQ))
theorem nI{c:Code}{a:EK}(ha:De C c a){Q:Exit->S->Prop}:∀(k:Nat) (s:CS) (e:Exit) (s':CS) (t:CT),B7 a k s=some (e,s',t)->kf t->(e= .normal->∀m,Kl C c Q m s'.den->∃m',Kl C c Q m' s.den)/\(e≠ .normal->Q e s'.den->∃m',Kl C c Q m' s.den)
 |0,s,e,s',t,h,he=>by
  have h:a s=some (e,s',t):=h;refine⟨fun hn m hm=>⟨m+1,?_⟩,fun hn hq=>⟨1,?_⟩⟩;·subst hn;exact ha _ _ _ _ h he _ hm
  ·refine ha _ _ _ _ h he _ ?_;cases e <;> first |exact absurd rfl hn |exact hq
 |k+1,s,e,s',t,h,he=>by
  have h:oE (B7 a k s) none (xK (B7 a k))=some (e,s',t):=h;obtain⟨r,hr,h⟩:=dm h;obtain⟨e1,s1,t1⟩:=r;rcases rG h with⟨h1,h2⟩ | ⟨h1,p,hp,h2⟩;·simp only [Prod.mk.injEq]at h2;obtain⟨rfl,rfl,rfl⟩:=h2;exact nI ha k _ _ _ _ hr he
  ·simp only at h1 hp;subst h1;obtain⟨e2,s2,t2⟩:=p;simp only [Prod.mk.injEq]at h2;obtain⟨rfl,rfl,rfl⟩:=h2;have he:=mM he;have q1:=nI (Q:=Q) ha k _ _ _ _ hr he.1;have q2:=nI (Q:=Q) ha k _ _ _ _ hp he.2;refine⟨fun hn m hm=> ?_,fun hn hq=> ?_⟩;·obtain⟨m1,h3⟩:=q2.1 hn m hm;exact q1.1 rfl m1 h3
   ·obtain⟨m1,h3⟩:=q2.2 hn hq;exact q1.1 rfl m1 h3
theorem IZ(hT:aK T P)(hcl:dg P call){id:Nat}{ops:Array Oper}{dr:Bool}:De C (.region id ops dr) (NN call T M mu N ops dr):=by
 intro s e s' t h he Q hQ;obtain⟨hok,h⟩:=ef h;obtain⟨r,hr,h⟩:=dm h;obtain⟨s1,ks,t1⟩:=r;obtain⟨hd,h⟩:=ef h;simp only [Option.some.injEq,Prod.mk.injEq]at h;obtain⟨rfl,rfl,rfl⟩:=h;have e0:ops=ops.toList.toArray:=by simp
 refine pJ (vO mu s ops.toList) ?_;cases dr with
 |false=>rw [e0];obtain⟨q1,q2⟩:=fX hT hcl (C:=C) (K:=fun tm' σ' _=>Q .normal ⟨tm',σ',(qj mu s ops.toList).nx+1⟩) (by simpa using hr) he;refine ov (s:=(qj mu s ops.toList).den) (by simpa using hok) (q2 ?_);have hk':Q .normal ⟨s1.tr.get,fN s1.sl,s1.nx+1⟩:=hQ;rw [q1]at hk';exact hk'
 |true=>rw [e0];obtain⟨q1,q2⟩:=fX hT hcl (C:=C) (K:=fun tm' σ' ks'=>jc ops.toList ks'=true/\Q .normal ⟨tm',σ',(qj mu s ops.toList).nx+1⟩) (by simpa using hr) he;refine mL (s:=(qj mu s ops.toList).den) (by simpa using hok) (q2 ⟨Cb hd,?_⟩);have hk':Q .normal ⟨s1.tr.get,fN s1.sl,s1.nx+1⟩:=hQ;rw [q1]at hk';exact hk'
theorem ny(hT:aK T P)(hcl:dg P call)(hrg:Bw C rng)(c:Code):De C c (xR call rng T M mu N c):=by
 induction c with
 |skip=>intro s e s' t h he Q hQ;injection h with h;simp only [Prod.mk.injEq]at h;obtain⟨rfl,rfl,rfl⟩:=h;exact aq hQ
 |region id ops dr=>exact IZ hT hcl
 |seq a b iha ihb=>exact I0 iha ihb
 |cond c a b iha ihb=>
  intro s e s' t h he Q hQ;obtain⟨tt,ht,h⟩:=dm h;have ht:=HR ht;cases tt with
  |true=>exact nk ht (fun _=>iha _ _ _ _ h he Q hQ) fun h=>by cases h
  |false=>exact nk ht (fun h=>by cases h) fun _=>ihb _ _ _ _ h he Q hQ
 |block id a iha=>
  intro s e s' t h he Q hQ;obtain⟨r,hr,h⟩:=dm h;obtain⟨e1,s1,t1⟩:=r;simp only [Option.some.injEq,Prod.mk.injEq]at h;obtain⟨rfl,rfl,rfl⟩:=h;refine az (iha _ _ _ _ hr he _ ?_);cases e1 with
  |exit id'=>
   simp only [ND]at hQ;split at hQ;·rename_i hb;have hb:=Nat.eq_of_beq_eq_true hb;subst hb;exact cg hQ
   ·rename_i hb;exact Lb (by simpa using Nat.ne_of_beq_eq_false hb) hQ
  |_=>exact hQ
 |loop a iha=>
  intro s e s' t h he Q hQ;obtain⟨r,hr,h⟩:=dm h;obtain⟨e1,s1,t1⟩:=r;cases hn:Ma e1 with
  |true=>simp only [hn]at h;cases h
  |false=>simp only [hn,Option.some.injEq,Prod.mk.injEq]at h;obtain⟨rfl,rfl,rfl⟩:=h;obtain⟨m,hm⟩:=(nI iha 30 _ _ _ _ hr he).2 (Gt hn) hQ;exact ow m hm
 |rangeFunc f ps as0 bd _ _=>intro s e s' t h he Q hQ;exact hrg _ _ _ _ _ _ _ _ h he Q hQ
 |exit id=>intro s e s' t h he Q hQ;injection h with h;simp only [Prod.mk.injEq]at h;obtain⟨rfl,rfl,rfl⟩:=h;exact bN hQ
 |scope a iha=>intro s e s' t h he Q hQ;obtain⟨r,hr,h⟩:=dm h;obtain⟨e1,s1,t1⟩:=r;obtain⟨hg,h⟩:=ef h;simp only [Option.some.injEq,Prod.mk.injEq]at h;obtain⟨rfl,rfl,rfl⟩:=h;refine xq (iha _ _ _ _ hr he _ ?_);cases e1 <;> first |exact hQ |cases hg
 |label l=>intro s e s' t h he Q hQ;injection h with h;simp only [Prod.mk.injEq]at h;obtain⟨rfl,rfl,rfl⟩:=h;exact xo hQ
 |goto l=>intro s e s' t h;cases h
 |ret=>intro s e s' t h he Q hQ;injection h with h;simp only [Prod.mk.injEq]at h;obtain⟨rfl,rfl,rfl⟩:=h;exact av hQ
 |refuse w=>intro s e s' t h;cases h
end
def L7:List (Nat×V)->List Nat
 | []=>[]
 |p::l=>p.2.ids++L7 l
def Gs(nl:List Nat)(i:Nat):Nat:=match jO nl i with
 |true=>x7 nl i
 |false=>i
def fP:Nat->List Nat->List (Nat×Nat)
 |_,[]=>[]
 |j,k::l=>(j,k)::fP (j+1) l
def js(g:Nat->Nat):List (Nat×V)->List (Nat×V)
 | []=>[]
 |p::l=>(p.1,p.2.bD g)::js g l
def vals:List (Nat×V)->List V
 | []=>[]
 |p::l=>p.2::vals l
theorem qx{α:Type}{p:α->Prop}:∀ {l:List α},(∀x∈l,p x)->m7 p l
 | [],_=> .nil
 |x::l,h=> .cons (h x (by simp)) (qx fun y hy=>h y (by simp [hy]))
theorem qM:∀ {os:List (Option Ob)}{k:Nat}{p:Nat×Ob},p∈j6 k os->∃i,p.1=k+i/\os[i]?=some (some p.2)
 | [],_,_,h=>by simp [j6]at h
 |none::os,k,p,h=>by obtain⟨i,h1,h2⟩:=qM (os:=os) h;exact⟨i+1,by omega,by simpa using h2⟩
 |some o::os,k,p,h=>by
  rcases List.mem_cons.1 h with rfl |h;·exact⟨0,rfl,rfl⟩
  ·obtain⟨i,h1,h2⟩:=qM (os:=os) h;exact⟨i+1,by omega,by simpa using h2⟩
theorem lR:∀ {nl:List Nat}{j i:Nat}{k:Nat},nl[i]?=some k->(fP j nl).find? (·.1 == j+i)=some (j+i,k)
 |a::nl,j,0,k,h=>by simp at h;subst h;simp [fP]
 |a::nl,j,i+1,k,h=>by
  have:=lR (j:=j+1) (i:=i) (nl:=nl) (by simpa using h);rw [fP,List.find?_cons];have e:((j,a).1 == j+(i+1))=false:=by simp
  rw [e,show j+(i+1)=j+1+i by omega];exact this
theorem uK:∀ {nl:List Nat}{j m:Nat},j+nl.length<=m->(fP j nl).find? (·.1 == m)=none
 | [],_,_,_=>rfl
 |a::nl,j,m,h=>by
  simp only [List.length_cons]at h;rw [fP,List.find?_cons];have e:((j,a).1 == m)=false:=by simp only [beq_eq_false_iff_ne];omega
  rw [e];exact uK oM
theorem sA{g gi:Nat->Nat}{tm:Nat->V}:∀ {tl:List (Nat×V)},(∀p∈tl,tm p.1=p.2)->vals tl=V.aS g (vals (js gi tl))->m7 (fun p=>tm p.1=p.2.bD g) (js gi tl)
 | [],_,_=> .nil
 |p::tl,h,e=>by simp only [vals,js,V.aS,List.cons.injEq]at e;exact .cons ((h p (by simp)).trans e.1) (sA (fun q hq=>h q (by simp [hq])) e.2)
end
end Go.Ab

namespace Go.Ab
open Go.RowKit Go.Dw Go.Shelf
structure Pu(P:Program)(es:List (List V)) where
  l:Nat
  J:Nat->Bool->(Nat->Prop)->World->Prop
  L0:Nat->Prop
  B:Nat
  hY:∀k x A W1,k< es.length->Pq es k x W1->(∀b,A b->B<=b/\b< W1.heap.size)->B<=W1.heap.size->J k true A W1->YieldAt Fence.wide 0 P l x W1 fun e W2=>∃b:Bool,e= .returned (.bool b)/\aZ (fun i=>¬A i/\¬L0 i) W1 W2/\(b=true->J (k+1) true A W2)/\(b=false->J k false A W2)
  hJ:∀k g A W1 W2,J k g A W1->(∀b,A b->B<=b/\b< W1.heap.size)->B<=W1.heap.size->aZ A W1 W2->J k g (fun b=>A b\/(W1.heap.size<=b/\b< W2.heap.size)) W2
  hL:∀b,L0 b->b< B
section
variable {P:Program}{N:Nat}{es:List (List V)}{Y:Pu P es}{Q:Exit->S->Nat->Bool->Prop}{s:S}{k:Nat}{g:Bool}
end
noncomputable section
section
variable {P:Program}(N:Nat){es:List (List V)}(Y:Pu P es) (Q:Exit->S->Nat->Bool->Prop)
end
structure JX where
  g:CC
  y:Option (List V)
  side:Option CC
  e:CT
def KO(tm:Nat->V)(ys:List Nat):Operand->Bool
 | .tmp t=>match jO ys t with
  |true=>true
  |false=>match tm t with
   | .c (.func (.yield _) _ _)=>true
   |_=>false
 |_=>false
def H9(tm:Nat->V):List Nat->List Oper->Option Nat
  |_,[]=>none
  |ys,o::os=>match o.op with
    | .call c=>match c.callee with
      | .value fo=>match KO tm ys fo with
        |true=>some 0
        |false=>match H9 tm ys os with
          |some n=>some (n+1)
          |none=>none
      |_=>match H9 tm ys os with
        |some n=>some (n+1)
        |none=>none
    | .move x=>match H9 tm (match KO tm ys x with
        |true=>o.dst.getD 0::ys
        |false=>ys) os with
      |some n=>some (n+1)
      |none=>none
    |_=>match H9 tm ys os with
      |some n=>some (n+1)
      |none=>none
def O2(tm:Nat->V)(o:Oper):Option (V×List V):=match o.op with
 | .call c=>match c.callee with
  | .value fo=>match V.bA (c.args.toList.map (fun x=>ug (ev tm x))) && ((fo::c.args.toList).all fun x=>Qf (ev tm x))with
   |true=>some (ug (ev tm fo),c.args.toList.map (fun x=>ug (ev tm x)))
   |false=>none
  |_=>none
 |_=>none
def QD(gOk:Bool)(ol:List Oper)(tm:Nat->V)(o:Oper):Bool:=match o.guard with
 |none=>(opsV tm o).all fun v=>match v with
  | .gd _ _=>false
  |_=>true
 |some _=>match gOk with
  |false=>false
  |true=>match eP (ol.map (·.dst)) tm o with
   |some (some g)=>g
   |_=>false
def Md(gOk:Bool)(call:fG)(T:List TI)(M:List Nat)(l:Nat)(ol:List Oper)(k:List Fr)(s:CS)(n:Nat):Option JX:=
 match ol[n]? with
  |some o=>match o.dst with
   |some d=>match decide (d< 1000)with
    |true=>match tV call T M ol (ol.take n) s []with
     |some (s1,_,e1)=>match QD gOk ol s1.tr.get o with
      |true=>match O2 s1.tr.get o with
       |some (fv,as0)=>match tV call T M ol (ol.drop (n+1)) ⟨TR.put 10 s1.tr d (.b true),s1.sl,s1.nx⟩ []with
        |some (s2,_,e2)=>match tV call T M ol (ol.drop (n+1)) ⟨TR.put 10 s1.tr d (.b false),s1.sl,s1.nx⟩ []with
         |some (s3,_,e3)=>some ⟨.done .normal k ⟨s2.tr,s2.sl,s2.nx+1⟩,some as0,some (.done .normal k ⟨s3.tr,s3.sl,s3.nx+1⟩),.nd (.lf [(.vs [fv],.vs [.c (.func (.yield l) #[] #[])])]) (.nd e1 (.nd e2 e3))⟩
         |none=>none
        |none=>none
       |none=>none
      |false=>none
     |none=>none
    |false=>none
   |none=>none
  |none=>none
def Jp(gOk:Bool)(call:fG)(T:List TI)(M mu:List Nat)(N l:Nat):CC->Option JX
 | .done e k s=>match k with
  | []=>none
  | .c y::k=>match e with
   | .normal=>some ⟨.code y k s,none,none,c0⟩
   |e=>some ⟨.done e k s,none,none,c0⟩
  | .b id::k=>match e with
   | .exit id'=>match Nat.beq id' id with
    |true=>some ⟨.done .normal k s,none,none,c0⟩
    |false=>some ⟨.done (.exit id') k s,none,none,c0⟩
   |e=>some ⟨.done e k s,none,none,c0⟩
  | .l y m::k=>match e with
   | .normal=>match m with
    |0=>none
    |m+1=>some ⟨.code y (.l y m::k) s,none,none,c0⟩
   |e=>some ⟨.done e k s,none,none,c0⟩
  | .s::_=>none
 | .code c k s=>match c with
  | .skip=>some ⟨.done .normal k s,none,none,c0⟩
  | .exit id=>some ⟨.done (.exit id) k s,none,none,c0⟩
  | .ret=>some ⟨.done .ret k s,none,none,c0⟩
  | .seq x y=>some ⟨.code x (.c y::k) s,none,none,c0⟩
  | .block id x=>some ⟨.code x (.b id::k) s,none,none,c0⟩
  | .loop x=>some ⟨.code x (.l x 1000000::k) s,none,none,c0⟩
  | .cond c x y=>match ev s.tr.get c with
   | .c (.bool t)=>match t with
    |true=>some ⟨.code x k s,none,none,c0⟩
    |false=>some ⟨.code y k s,none,none,c0⟩
   |_=>none
  | .region _ ops dr=>match gM N ops.toList with
   |true=>match tV call T M ops.toList ops.toList (qj mu s ops.toList) []with
    |some (s',ks,e)=>match dr with
     |false=>some ⟨.done .normal k ⟨s'.tr,s'.sl,s'.nx+1⟩,none,none,e⟩
     |true=>match JI ops.toList ks with
      |true=>some ⟨.done .normal k ⟨s'.tr,s'.sl,s'.nx+1⟩,none,none,e⟩
      |false=>none
    |none=>match H9 s.tr.get [] ops.toList with
     |some n=>match dr with
      |false=>Md gOk call T M l ops.toList k s n
      |true=>none
     |none=>none
   |false=>none
  |_=>none
 | .ops _ _ _ _ _ _=>none
section
variable {P:Program}{N:Nat}{es:List (List V)}{Y:Pu P es}{Q:Exit->S->Nat->Bool->Prop}{T:List TI}{M mu:List Nat}{call:fG}
theorem Bp:∀l:List V,A2 l l
 | []=>trivial
 |_::l=>⟨cw.refl _,Bp l⟩
end
def Pb(gOk:Bool)(call:fG)(T:List TI)(M mu:List Nat)(N l:Nat):Nat->CC->Option CT
 |0,_=>none
 |m+1,g=>match Jp gOk call T M mu N l g with
  |some x=>match x.y with
   |none=>match Pb gOk call T M mu N l m x.g with
    |some e=>some (.nd x.e e)
    |none=>none
   |some _=>none
  |none=>match g with
   | .done e [] _=>match e with
    | .ret=>some c0
    | .normal=>some c0
    |_=>none
   |_=>none
def Aq(gOk:Bool)(call:fG)(T:List TI)(M mu:List Nat)(N l:Nat):Nat->CC->Option (List (List V)×CT)
 |0,_=>none
 |m+1,g=>match Jp gOk call T M mu N l g with
  |some x=>match x.y with
   |none=>match Aq gOk call T M mu N l m x.g with
    |some (as0,e)=>some (as0,.nd x.e e)
    |none=>none
   |some a=>match x.side with
    |some sd=>match Pb gOk call T M mu N l 5000 sd with
     |some e0=>match Aq gOk call T M mu N l m x.g with
      |some (as0,e)=>some (a::as0,.nd x.e (.nd e0 e))
      |none=>none
     |none=>none
    |none=>none
  |none=>match g with
   | .done e [] _=>match e with
    | .ret=>some ([],c0)
    | .normal=>some ([],c0)
    |_=>none
   |_=>none
def CT.OV:CT->List (CE×CE)
 | .lf l=>l
 | .nd a b=>a.OV++b.OV
theorem CT.A8:∀ {t:CT},iH t.OV->kf t
 | .lf _,h=>h
 | .nd _ _,h=>⟨CT.A8 h.l,CT.A8 h.r⟩
def Me(r:Option (List (List V)×CT)):Option (List (List V)):=match r with
 |some (as0,_)=>some as0
 |none=>none
def Pc(r:Option (List (List V)×CT)):CT:=match r with
 |some (_,e)=>e
 |none=>c0
def TR.keys(f:Nat->Nat):TR->List Nat
 | .e=>[]
 | .n _ l r=>f 0::(TR.keys (fun i=>f (2*i+1)) l++TR.keys (fun i=>f (2*i+2)) r)
def wI(tr:TR):List Nat->List (Nat×V)
 | []=>[]
 |t::l=>(t,tr.get t)::wI tr l
theorem CA{tr:TR}:∀ {l:List Nat},∀p∈wI tr l,tr.get p.1=p.2
 | [],p,h=>by simp [wI]at h
 |t::l,p,h=>by
  rcases List.mem_cons.1 h with rfl |h;·rfl
  ·exact CA (l:=l) p h
def K5:List (Nat×V)->TR
 | []=> .e
 |p::l=>TR.put 10 (K5 l) p.1 p.2
theorem wJ:∀ {l:List (Nat×V)},(∀p∈l,p.1< 1000)->(K5 l).get=gF l
 | [],_=>by funext t;exact TR.jm t
 |p::l,h=>by rw [K5,TR.jU (h p (by simp)),wJ fun q hq=>h q (by simp [hq])];rfl
def setTR(tr:TR):List Nat->List V->TR
 |p::ps,v::vs=>setTR (TR.put 10 tr p v) ps vs
 |_,_=>tr
theorem uS:∀(ps:List Nat) (vs:List V) (tr:TR),(∀p∈ps,p< 1000)->(setTR tr ps vs).get=oY tr.get ps vs
 | [],vs,tr,_=>by cases vs <;> rfl
 |p::ps,[],tr,_=>rfl
 |p::ps,v::vs,tr,h=>by rw [setTR,oY,uS ps vs _ fun q hq=>h q (by simp [hq]),TR.jU (h p (by simp))]
def zn:List Nat->List Ob->List (Nat×Option Ob)
 |n::ns,o::l=>(n,some o)::zn ns l
 |_,_=>[]
theorem tA:∀(ns:List Nat) (l:List Ob),fN (zn ns l)=eL (ns.zip l)
 | [],l=>by cases l <;> (funext i;rfl)
 |n::ns,[]=>by funext i;rfl
 |n::ns,o::l=>by
  funext i;show fN ((n,some o)::zn ns l) i=bL (eL (ns.zip l)) n (some o) i;rw [<-tA ns l];simp only [fN];split;·rename_i h;rw [Nat.eq_of_beq_eq_true h,ak]
  ·rename_i h;rw [ah _ _ (Nat.ne_of_beq_eq_false h)]
def nQ(pn:List Nat):List Nat->List Nat
 | []=>[]
 |k::l=>match jO pn k with
  |true=>nQ pn l
  |false=>k::nQ pn l
def qp(np:Nat):List Nat:=(List.range np).map (500+ ·)
inductive RO where
  |nor (l:List Ob) (e:CT)
  |ext (c:Exit) (l:List Ob) (e:CT)
  |bad
@[irreducible] def QN:List Nat:=List.range 90
def On(l:List Ob)(t:CT):Exit->RO
 | .normal=> .nor l t
 | .ret=> .ext .ret l t
 | .exit id=> .ext (.exit id) l t
 |_=> .bad
def FV:Exit->Code
 | .exit id=> .exit id
 |_=> .ret
theorem wP{α β:Type}:∀ {l:List α}{m:List β}{p:α×β},p∈l.zip m->∃i:Nat,l[i]?=some p.1/\m[i]?=some p.2
 | [],_,p,h=>by simp at h
 |_::_,[],p,h=>by simp at h
 |a::l,b::m,p,h=>by
  rw [List.zip_cons_cons]at h;rcases List.mem_cons.1 h with rfl |h;·exact⟨0,rfl,rfl⟩
  ·obtain⟨i,h1,h2⟩:=wP h;exact⟨i+1,by simpa using h1,by simpa using h2⟩
theorem Ca:∀ {nl:List Nat}{j m:Nat},m< j->(fP j nl).find? (·.1 == m)=none
 | [],_,_,_=>rfl
 |a::nl,j,m,h=>by
  rw [fP,List.find?_cons];have e:((j,a).1 == m)=false:=by simp only [beq_eq_false_iff_ne];omega
  rw [e];exact Ca oM
section
variable {P:Program}{N:Nat}{T:List TI}{M mu:List Nat}{call:fG}{pn:List Nat}{tl:List (Nat×V)}{ps:List Nat}{as0 bd:Code}
end
def Kc(rd:List V->List Ob->RO):List (List V)->List Ob->Option (Exit×List Ob×CT)
 | [],l=>some (.normal,l,c0)
 |x::es,l=>match rd x l with
  | .nor l' e=>match Kc rd es l' with
   |some (c,lf,e')=>some (c,lf,.nd e e')
   |none=>none
  | .ext c lf e=>match c with
   | .ret=>some (.ret,lf,e)
   | .exit id=>some (.exit id,lf,e)
   |_=>none
  | .bad=>none
def mN(rd:List V->List Ob->RO)(es:List (List V))(l0:List Ob):Nat->Option (List Ob)
 |0=>some l0
 |k+1=>match mN rd es l0 k,es[k]? with
  |some l,some x=>match rd x l with
   | .nor l' _=>some l'
   |_=>none
  |_,_=>none
theorem HZ{rd:List V->List Ob->RO}{es:List (List V)}{l0:List Ob}{c:Exit}{lf:List Ob}{e:CT}(h:Kc rd es l0=some (c,lf,e))(he:kf e):∀k l,mN rd es l0 k=some l->k<=es.length/\∃t,Kc rd (es.drop k) l=some (c,lf,t)/\kf t
 |0,l,hl=>by simp only [mN,Option.some.injEq]at hl;subst hl;exact⟨Nat.zero_le _,e,h,he⟩
 |k+1,l,hl=>by
  simp only [mN]at hl;split at hl
  ·rename_i l1 x h1 hx;obtain⟨hk,t,h2,ht⟩:=HZ h he k l1 h1;have hlt:=(List.getElem?_eq_some_iff.1 hx).1;have hdr:es.drop k=x::es.drop (k+1):=by
    rw [List.drop_eq_getElem_cons hlt];congr 1
    exact(List.getElem?_eq_some_iff.1 hx).2
   rw [hdr]at h2;unfold Kc at h2;split at hl
   ·rename_i l' e' hr;injection hl with hl;subst hl;rw [hr]at h2;simp only at h2;split at h2;·rename_i c1 lf1 e1 hw;simp only [Option.some.injEq,Prod.mk.injEq]at h2;obtain⟨rfl,rfl,rfl⟩:=h2;exact⟨hlt,_,hw,ht.2⟩
    ·cases h2
   ·cases hl
  ·cases hl
def wT(np n:Nat):List Nat:=qp np++(List.range n).map (500+np+ ·)
def oJ(np:Nat)(nl:List Nat)(i:Nat):Nat:=match jO nl i with
 |true=>500+np+x7 nl i
 |false=>i
theorem yP{g:Nat->Nat}:∀ {l:List (Nat×V)}{p:Nat×V},p∈js g l->∃q∈l,q.1=p.1
 | [],p,h=>by simp [js]at h
 |q::l,p,h=>by
  rcases List.mem_cons.1 h with rfl |h;·exact⟨q,by simp,rfl⟩
  ·obtain⟨q',h1,h2⟩:=yP (l:=l) h;exact⟨q',by simp [h1],h2⟩
theorem Cz{tr:TR}:∀ {l:List Nat}{p:Nat×V},p∈wI tr l->p.1∈l
 | [],p,h=>by simp [wI]at h
 |t::l,p,h=>by
  rcases List.mem_cons.1 h with rfl |h;·simp
  ·exact List.mem_cons_of_mem _ (Cz h)
theorem yw:∀ {nl:List Nat}{j:Nat}{p:Nat×Nat},p∈fP j nl->j<=p.1/\p.1< j+nl.length
 | [],_,_,h=>by simp [fP]at h
 |a::nl,j,p,h=>by
  rcases List.mem_cons.1 h with rfl |h;·simp
  ·have:=yw h;simp only [List.length_cons];omega
end
end Go.Ab

namespace Go.Ab
open Go.RowKit Go.Dw Go.Shelf
noncomputable section
def wU{P:Program}(N:Nat){es:List (List V)}(Y:zI P es)(c:Code)(Q:Exit->S->Nat->Bool->Prop):Nat->S->Nat->Bool->Prop
 |0,_,_,_=>False
 |m+1,s,k,g=>gz N Y c (jD (wU N Y c Q m) Q) s k g
theorem xu{P:Program}{N:Nat}{es:List (List V)}{Y:zI P es}{Q:Exit->S->Nat->Bool->Prop}{c:Code}{s:S}{k:Nat}{g:Bool}(m:Nat)(h:wU N Y c Q m s k g):gz N Y (.loop c) Q s k g:=by
 intro C A F a w yc gm hj;refine wpIn_loop_rounds m ?_;have key:∀(m:Nat) (s:S) (k:Nat) (g:Bool) (C:Cx P N) (A F:Nat->Prop) (a:Act) (w:World),wU N Y c Q m s k g->zH C Y A F w->Gm C s a w->Y.J k g A F w->Code.roundsIn Fence.wide 0 P c (fun e a' w'=>∃(s':S) (k':Nat) (g':Bool) (C':Cx P N) (A' F':Nat->Prop),Q e s' k' g'/\zH C' Y A' F' w'/\Gm C' s' a' w'/\Y.J k' g' A' F' w') m a w:=by
  intro m;induction m with
  |zero=>intro s k g C A F a w h;exact h.elim
  |succ m ih=>
   intro s k g C A F a w h yc gm hj;refine wpIn_mono (h C A F a w yc gm hj) ?_;rintro e a' w' ⟨s',k',g',C',A',F',q,yc',gm',hj'⟩;cases e with
   |normal=>exact ih s' k' g' C' A' F' a' w' q yc' gm' hj'
   |_=>exact⟨s',k',g',C',A',F',q,yc',gm',hj'⟩
 exact key m s k g C A F a w h yc gm hj
section
variable {P:Program}(N:Nat){es:List (List V)}(Y:zI P es) (Q:Exit->S->Nat->Bool->Prop)
def tF:List Fr->Exit->S->Nat->Bool->Prop
 | []=>Q
 | .c y::k=>jD (fun s' n g=>gz N Y y (tF k) s' n g) (tF k)
 | .b id::k=>gP id (tF k)
 | .l y m::k=>jD (wU N Y y (tF k) m) (tF k)
 | .s::_=>fun _ _ _ _=>False
def Bt:CC->Nat->Bool->Prop
 | .code c k s,n,g=>gz N Y c (tF N Y Q k) s.den n g
 | .done e k s,n,g=>tF N Y Q k e s.den n g
 | .ops _ _ _ _ _ _,_,_=>False
end
section
variable {P:Program}{N:Nat}{es:List (List V)}{Y:zI P es}{Q:Exit->S->Nat->Bool->Prop}{T:List TI}{M mu:List Nat}{call:fG}
theorem M1{y:Code}{k:List Fr}{e:Exit}{s:S}{n:Nat}{g:Bool}(hne:e≠ .normal)(h:tF N Y Q k e s n g):tF N Y Q (.c y::k) e s n g:=by cases e <;> first |exact absurd rfl hne |exact h
theorem M3{y:Code}{m:Nat}{k:List Fr}{e:Exit}{s:S}{n:Nat}{g:Bool}(hne:e≠ .normal)(h:tF N Y Q k e s n g):tF N Y Q (.l y m::k) e s n g:=by cases e <;> first |exact absurd rfl hne |exact h
theorem M0{id:Nat}{k:List Fr}{e:Exit}{s:S}{n:Nat}{g:Bool}(hne:∀i,e≠ .exit i)(h:tF N Y Q k e s n g):tF N Y Q (.b id::k) e s n g:=by cases e <;> first |exact absurd rfl (hne _) |exact h
theorem vq{c:Code}{s:S}{k:Nat}{g:Bool}(u:Nat)(h:gz N Y c (jD (wU N Y c Q u) Q) s k g):gz N Y (.loop c) Q s k g:=xu (u+1) h
def zz{P:Program}{es:List (List V)}(N:Nat)(Y:zI P es)(Q:Exit->S->Nat->Bool->Prop)(g:CC)(x:JX):Prop:=
 (x.y=none->∀n b,Bt N Y Q x.g n b->Bt N Y Q g n b)/\
 ∀as0,x.y=some as0->∃sd,x.side=some sd/\∀n,es[n]?=some as0->Bt N Y Q x.g (n+1) true->Bt N Y Q sd n false->Bt N Y Q g n true
theorem dY{g g':CC}{e:CT}(h:∀n b,Bt N Y Q g' n b->Bt N Y Q g n b):zz N Y Q g ⟨g',none,none,e⟩:=⟨fun _=>h,fun as0 h=>by cases h⟩
theorem Gv(hT:aK T P)(hcl:dg P call){id n:Nat}{ops:Array Oper}{k:List Fr}{s:CS}{x:JX}(hok:gM N ops.toList=true)(h:Md true call T M Y.l ops.toList k s n=some x)(he:kf x.e):zz N Y Q (.code (.region id ops false) k s) x:=by
 have eo:ops=ops.toList.toArray:=by simp
 unfold Md at h;split at h
 ·rename_i o ho;split at h
  ·rename_i d hd;split at h
   ·rename_i hlt;have hlt:=of_decide_eq_true hlt;split at h
    ·rename_i s1 ks1 e1 h1;split at h
     ·rename_i hgd;split at h
      ·rename_i fv as0 hy;split at h
       ·rename_i s2 ks2 e2 h2;split at h
        ·rename_i s3 ks3 e3 h3;injection h with h;subst h;obtain⟨he0,he1,he2,he3⟩:=he;refine⟨fun h=>(by cases h),fun as1 has=> ?_⟩;injection has with has;subst has;refine⟨_,rfl,fun m hm hk1 hk2=> ?_⟩;obtain⟨d',op,ty,pos,af,gd⟩:=o;simp only at hd;subst hd;unfold O2 at hy;simp only at hy;split at hy
         ·rename_i c;obtain⟨callee,args,ats⟩:=c;simp only at hy;split at hy
          ·rename_i fo;split at hy
           ·rename_i hfl0;simp only [Bool.and_eq_true]at hfl0;simp only [Option.some.injEq,Prod.mk.injEq]at hy;obtain⟨rfl,rfl⟩:=hy;have hf:=iH.hd he0;injection hf with hf;simp only [List.cons.injEq,and_true]at hf;have ht:∀C:Cx P N,bF C ops.toList.toArray s.nx (ops.toList.drop (n+1)) (bL s1.tr.get d (.b true)) (fN s1.sl) [] (fun tm' σ' _=>tF N Y Q k .normal ⟨tm',σ',s.nx+1⟩ (m+1) true)/\bF C ops.toList.toArray s.nx (ops.toList.drop (n+1)) (bL s1.tr.get d (.b false)) (fN s1.sl) [] (fun tm' σ' _=>tF N Y Q k .normal ⟨tm',σ',s.nx+1⟩ m false):=fun C=>by
             have q1:=(fX hT hcl (C:=C) (K:=fun _ _ _=>True) h1 he1).1;constructor;·obtain⟨r1,r2⟩:=fX hT hcl (C:=C) (K:=fun tm' σ' _=>tF N Y Q k .normal ⟨tm',σ',s.nx+1⟩ (m+1) true) h2 he2;simp only at r1 r2;rw [TR.jU hlt,q1]at r2;exact r2 (by have:=hk1;unfold Bt CS.den at this;simp only at this;rw [r1,q1]at this;exact this)
             ·obtain⟨r1,r2⟩:=fX hT hcl (C:=C) (K:=fun tm' σ' _=>tF N Y Q k .normal ⟨tm',σ',s.nx+1⟩ m false) h3 he3;simp only at r1 r2;rw [TR.jU hlt,q1]at r2;exact r2 (by have:=hk2;unfold Bt CS.den at this;simp only at this;rw [r1,q1]at this;exact this)
            show gz N Y (.region id ops false) (tF N Y Q k) s.den m true;rw [eo];have hgw:dJ ops.toList.toArray s1.tr.get ⟨some d,.call {callee:= .value fo,args:=args,argTypes:=ats},ty,pos,af,gd⟩=some true:=by
             unfold QD at hgd;simp only at hgd;split at hgd;·rfl
             ·split at hgd;·rename_i g hg;subst hgd;exact gk (ops:=ops.toList.toArray) (r:=some true) (by simpa using hg)
              ·cases hgd
            refine ig n (by simpa using hok) ho fun C _ _=> ?_;obtain⟨q1,q2⟩:=fX hT hcl (C:=C) (K:=fun tm1 σ1 _=>Pv N Y ops.toList.toArray s.nx (ops.toList.drop (n+1)) fo args d ⟨some d,.call {callee:= .value fo,args:=args,argTypes:=ats},ty,pos,af,gd⟩ (tF N Y Q k) m tm1 σ1) h1 he1;exact q2 ⟨hgw,hfl0.2,hf,⟨_,hm,Bp _⟩,hfl0.1,fun C _ _=>(ht C).1,fun C _ _=>(ht C).2⟩
           ·cases hy
          ·cases hy
         ·cases hy
        ·cases h
       ·cases h
      ·cases h
     ·cases h
    ·cases h
   ·cases h
  ·cases h
 ·cases h
theorem rZ(hT:aK T P)(hcl:dg P call){g:CC}{x:JX}(h:Jp true call T M mu N Y.l g=some x)(he:kf x.e):zz N Y Q g x:=by
 unfold Jp at h;split at h
 ·rename_i e k s;split at h;·cases h
  ·split at h;·injection h with h;subst h;exact dY fun n b hk=>hk
   ·rename_i hne;injection h with h;subst h;exact dY fun n b hk=>M1 hne hk
  ·split at h
   ·split at h;·rename_i hb;injection h with h;subst h;have hb:=Nat.eq_of_beq_eq_true hb;subst hb;exact dY fun n b hk=>jz hk
    ·rename_i hb;injection h with h;subst h;exact dY fun n b hk=>M7 (by simpa using Nat.ne_of_beq_eq_false hb) hk
   ·rename_i hne;injection h with h;subst h;exact dY fun n b hk=>M0 hne hk
  ·split at h
   ·split at h;·cases h
    ·injection h with h;subst h;exact dY fun n b hk=>hk
   ·rename_i hne;injection h with h;subst h;exact dY fun n b hk=>M3 hne hk
  ·cases h
 ·rename_i c k s;split at h;·injection h with h;subst h;exact dY fun n b hk=>fJ hk
  ·injection h with h;subst h;exact dY fun n b hk=>ox hk
  ·injection h with h;subst h;exact dY fun n b hk=>nq hk
  ·injection h with h;subst h;exact dY fun n b hk=>cD hk
  ·injection h with h;subst h;exact dY fun n b hk=>cv hk
  ·injection h with h;subst h;exact dY fun n b hk=>vq 1000000 hk
  ·split at h
   ·rename_i t ht;split at h;·injection h with h;subst h;exact dY fun n b hk=>cA ht (fun _=>hk) fun h=>by cases h
    ·injection h with h;subst h;exact dY fun n b hk=>cA ht (fun h=>by cases h) fun _=>hk
   ·cases h
  ·rename_i id ops dr;split at h
   ·rename_i hok;split at h
    ·rename_i s' ks e hr;have e0:ops=ops.toList.toArray:=by simp
     split at h;·injection h with h;subst h;refine dY fun n b hk=>fU fun C _ _=> ?_;refine pJ (vO mu s ops.toList) ?_;rw [e0];obtain⟨q1,q2⟩:=fX hT hcl (C:=C) (K:=fun tm' σ' _=>tF N Y Q k .normal ⟨tm',σ',(qj mu s ops.toList).nx+1⟩ n b) (by simpa using hr) he;refine ov (s:=(qj mu s ops.toList).den) (by simpa using hok) (q2 ?_);have:=hk;unfold Bt CS.den at this;simp only at this;rw [q1]at this;exact this
     ·split at h;·rename_i hdr;injection h with h;subst h;refine dY fun n b hk=>fU fun C _ _=> ?_;refine pJ (vO mu s ops.toList) ?_;rw [e0];obtain⟨q1,q2⟩:=fX hT hcl (C:=C) (K:=fun tm' σ' ks'=>jc ops.toList ks'=true/\tF N Y Q k .normal ⟨tm',σ',(qj mu s ops.toList).nx+1⟩ n b) (by simpa using hr) he;refine mL (s:=(qj mu s ops.toList).den) (by simpa using hok) (q2 ⟨Cb hdr,?_⟩);have:=hk;unfold Bt CS.den at this;simp only at this;rw [q1]at this;exact this
      ·cases h
    ·split at h
     ·split at h;·exact Gv hT hcl hok h he
      ·cases h
     ·cases h
   ·cases h
  ·cases h
 ·cases h
end
theorem BZ{P:Program}{N:Nat}{es:List (List V)}{Y:zI P es}{T:List TI}{M mu:List Nat}{call:fG}(hT:aK T P)(hcl:dg P call){n:Nat}(hn:n< es.length):∀ {m:Nat}{g:CC}{e:CT},Pb true call T M mu N Y.l m g=some e->kf e->Bt N Y (uc es.length) g n false
 |0,_,_,h,_=>by cases h
 |m+1,g,e,h,he=>by
  unfold Pb at h;split at h
  ·rename_i x hx;split at h
   ·rename_i hy;split at h;·rename_i e1 h1;injection h with h;subst h;exact(rZ (Q:=uc es.length) hT hcl hx he.1).1 hy n false (BZ hT hcl hn h1 he.2)
    ·cases h
   ·cases h
  ·split at h
   ·rename_i e0 s;split at h;·exact⟨.inr rfl,(fun h=>nomatch h),fun _=>hn⟩
    ·exact⟨.inl rfl,(fun h=>nomatch h),fun _=>hn⟩
    ·cases h
   ·cases h
theorem rY{P:Program}{N:Nat}{es:List (List V)}{Y:zI P es}{T:List TI}{M mu:List Nat}{call:fG}(hT:aK T P)(hcl:dg P call):∀ {m:Nat}{g:CC}{as0:List (List V)}{e:CT}{n:Nat},Aq true call T M mu N Y.l m g=some (as0,e)->kf e->es.drop n=as0->n<=es.length->Bt N Y (uc es.length) g n true
 |0,_,_,_,_,h,_,_,_=>by cases h
 |m+1,g,as0,e,n,h,he,hd,hn=>by
  unfold Aq at h;split at h
  ·rename_i x hx;split at h
   ·rename_i hy;split at h;·rename_i as1 e1 h1;simp only [Option.some.injEq,Prod.mk.injEq]at h;obtain⟨rfl,rfl⟩:=h;exact(rZ (Q:=uc es.length) hT hcl hx he.1).1 hy n true (rY hT hcl h1 he.2 hd hn)
    ·cases h
   ·rename_i a hy;split at h
    ·rename_i sd hsd;split at h
     ·rename_i e0 h0;split at h
      ·rename_i as1 e1 h1;simp only [Option.some.injEq,Prod.mk.injEq]at h;obtain⟨rfl,rfl⟩:=h;have hlt:n< es.length:=by have:=congrArg List.length hd;simp only [List.length_drop,List.length_cons]at this;omega
       have hget:es[n]?=some a:=by have:=congrArg (·[0]?) hd;simpa using this
       have hdr:es.drop (n+1)=as1:=by have h2:=congrArg List.tail hd;simpa using h2
       obtain⟨sd',hs',hall⟩:=(rZ (Q:=uc es.length) hT hcl hx he.1).2 a hy;rw [hsd]at hs';injection hs' with hs';subst hs';exact hall n hget (rY hT hcl h1 he.2.2 hdr oM) (BZ hT hcl hlt h0 he.2.1)
      ·cases h
     ·cases h
    ·cases h
  ·split at h
   ·rename_i e0 s;have fin:as0=[]->n=es.length:=fun h0=>by rw [h0]at hd;have:=congrArg List.length hd;simp only [List.length_drop,List.length_nil]at this;omega
    split at h;·simp only [Option.some.injEq,Prod.mk.injEq]at h;exact⟨.inr rfl,fun _=>fin h.1.symm,(fun h=>nomatch h)⟩
    ·simp only [Option.some.injEq,Prod.mk.injEq]at h;exact⟨.inl rfl,fun _=>fin h.1.symm,(fun h=>nomatch h)⟩
    ·cases h
   ·cases h
theorem Is{P:Program}{N:Nat}{T:List TI}{M mu:List Nat}{call:fG}{f:FuncId}{fn:Func}{c:Code}{caps:List V}{ins:List Ob}{es:List (List V)}(hT:aK T P)(hmx:P.follows .mixedOrders=true)(hcl:dg P call)(hk:qQ P f fn c N)(hres:fn.results= #[])(hargs:caps.length+1<=N)(hins:ins.length<=400) (s0:Nat->CS) (h0:∀l,(s0 l).den=⟨fun t=>((V.c (.func (.yield l) #[] #[]))::caps).getD t .any,fm ins,1⟩) (hv:∀l,Me (Aq true call T M mu N l 20000 (.code c [] (s0 l)))=some es) (he:∀l,kf (Pc (Aq true call T M mu N l 20000 (.code c [] (s0 l))))):zw P f caps ins es:=by
 refine mH hT hmx hk hres hargs (fun Y=> ?_) hins;have h1:=hv Y.l;have h2:=he Y.l;unfold Me at h1;unfold Pc at h2;split at h1;·rename_i as0 e hr;rw [hr]at h2;injection h1 with h1;subst h1;have:=rY (Y:=Y) (n:=0) hT hcl hr h2 rfl (Nat.zero_le _);unfold Bt at this;simp only at this;rw [h0]at this;exact this
 ·cases h1
def PF(pn:List Nat):Ob->Bool
 | .box _ cs=>V.dF pn cs
 | .row _ _ n f=>((List.range n).map f).all (V.dF pn)
 | .mp _ _=>false
theorem FX{pn:List Nat}{o:Ob}(h:PF pn o=true):o.dh pn:=by
 cases o with
 |box t cs=>exact h
 |row e sz n f=>intro i hi;exact List.all_eq_true.1 h _ (List.mem_map.2 ⟨i,List.mem_range.2 hi,rfl⟩)
 |mp _ _=>cases h
def Ho(pn:List Nat)(s:CS):Option (List Ob×CT):=
 match x9 (fN s.sl) (fun i=>i) pn with
  |some l=>match decide (((pn.zip (l.map Prod.snd)).map fun p=>aO [] s.nx p.1).Nodup) && (l.map Prod.snd).all (PF pn)with
   |true=>some (l.map Prod.snd,.lf (eX (aO [] s.nx) l))
   |false=>none
  |none=>none
theorem Hp{pn:List Nat}{s:CS}{l':List Ob}{e:CT}(hpn:∀p∈pn,500<=p/\p< 1000)(h:Ho pn s=some (l',e))(he:kf e):Le s.den ⟨fun _=> .any,eL (pn.zip l'),1⟩/\l'.length=pn.length/\∀o∈l',o.dh pn:=by
 unfold Ho at h;split at h
 ·rename_i l hl;split at h
  ·rename_i hb;simp only [Option.some.injEq,Prod.mk.injEq]at h;obtain⟨rfl,rfl⟩:=h;simp only [Bool.and_eq_true]at hb;obtain⟨hb1,hb2⟩:=hb;obtain⟨hlen,hget⟩:=kW hl;have hE:iH _:=he;refine⟨?_,by simp [hlen],fun o ho=>FX (List.all_eq_true.1 hb2 o ho)⟩;show Le ⟨s.tr.get,fN s.sl,s.nx⟩ ⟨gF [],eL (pn.zip (l.map Prod.snd)),1⟩;refine aH (tm:=s.tr.get) (σ:=fN s.sl) (nx:=s.nx) [] (tl:=[]) .nil (qx fun p hp=> ?_) hb1 rfl;obtain⟨i,h1,h2⟩:=wP hp;simp only [List.getElem?_map,Option.map_eq_some_iff]at h2;obtain⟨q,hq,hq2⟩:=h2;obtain⟨k,hk,hσ,hno⟩:=hget i q hq;rw [hk]at h1;injection h1 with h1;have hg:aO [] s.nx p.1=k:=by have:=hpn k (List.mem_of_getElem? hk);unfold aO;rw [<-h1];exact if_pos this
   refine⟨q.1,by rw [hg];exact hσ,?_⟩;rw [<-hq2];exact oO hno (fK hE hq)
  ·cases h
 ·cases h
def sF(call:fG)(T:List TI)(M mu:List Nat)(N:Nat)(pn:List Nat)(tl:List (Nat×V))(ps:List Nat)(as0 bd:Code)(x:List V)(l:List Ob):RO:=
 match xR call MI T M mu N as0 ⟨setTR (K5 tl) ps x,zn pn l,1⟩with
  |some (.normal,s1,t1)=>match xR call MI T M mu N bd s1 with
   |some (e,s2,t2)=>match Ho pn s2 with
    |some (l',t3)=>On l' (zW t1 (zW t2 t3)) e
    |none=> .bad
   |none=> .bad
  |_=> .bad
def Lm(pn:List Nat)(ok:Nat->Prop)(sl:Nat->List Ob)(X:Nat->Code->List Ob->Prop)(k:Nat):RO->Prop
 | .nor l' e=>kf e/\(l'.length=pn.length->(∀o∈l',o.dh pn)->ok (k+1)/\sl (k+1)=l')
 | .ext c l' e=>kf e/\(l'.length=pn.length->(∀o∈l',o.dh pn)->X k (FV c) l')
 | .bad=>False
theorem yQ{pn:List Nat}{tl:List (Nat×V)}{ps:List Nat}{x:List V}{l:List Ob}(htl:∀p∈tl,p.1< 1000)(hps:∀p∈ps,p< 1000):(CS.mk (setTR (K5 tl) ps x) (zn pn l) 1).den=⟨oY (gF tl) ps x,eL (pn.zip l),1⟩:=by unfold CS.den;rw [uS _ _ _ hps,wJ htl,tA]
section
variable {P:Program}{N:Nat}{T:List TI}{M mu:List Nat}{call:fG}{pn:List Nat}{tl:List (Nat×V)}{ps:List Nat}{as0 bd:Code}
theorem Ec(hT:aK T P)(hcl:dg P call)(hpn:∀p∈pn,500<=p/\p< 1000)(htl:∀p∈tl,p.1< 1000)(hps:∀p∈ps,p< 1000){ok:Nat->Prop}{sl:Nat->List Ob}{X:Nat->Code->List Ob->Prop}{k:Nat}{x:List V}{l:List Ob} (h:Lm pn ok sl X k (sF call T M mu N pn tl ps as0 bd x l)) (C':Cx P N):AW C' as0 (dS (fun s'=>AW C' bd (pH pn ok sl X k) s') (fun _ _=>False)) ⟨oY (gF tl) ps x,eL (pn.zip l),1⟩:=by
 rw [<-yQ htl hps];unfold sF at h;split at h
 ·rename_i s1 t1 h1;split at h
  ·rename_i e s2 t2 h2;split at h
   ·rename_i l' t3 h3;have key:kf (zW t1 (zW t2 t3))->(Le s2.den ⟨fun _=> .any,eL (pn.zip l'),1⟩->l'.length=pn.length->(∀o∈l',o.dh pn)->pH pn ok sl X k e s2.den)->
     AW C' as0 (dS (fun s'=>AW C' bd (pH pn ok sl X k) s') (fun _ _=>False)) (CS.mk (setTR (K5 tl) ps x) (zn pn l) 1).den:=by
     intro hE hR
     have hE:=mM hE
     have hE2:=mM hE.2
     obtain⟨z1,z2,z3⟩:=Hp hpn h3 hE2.2
     have a2:=ny (C:=C') (mu:=mu) hT hcl Co bd _ _ _ _ h2 hE2.1 (pH pn ok sl X k) (hR z1 z2 z3)
     exact ny (C:=C') (mu:=mu) hT hcl Co as0 _ _ _ _ h1 hE.1 (dS (fun s'=>AW C' bd (pH pn ok sl X k) s') (fun _ _=>False)) a2
    unfold On at h;split at h;·obtain⟨q1,q2⟩:=h;exact key q1 fun hle a b=>⟨(q2 a b).1,by rw [(q2 a b).2];exact hle⟩
    ·obtain⟨q1,q2⟩:=h;exact key q1 fun hle a b=>⟨_,q2 a b,hle⟩
    ·obtain⟨q1,q2⟩:=h;exact key q1 fun hle a b=>⟨_,q2 a b,hle⟩
    ·exact h.elim
   ·exact h.elim
  ·exact h.elim
 ·exact h.elim
end
def I8(pn:List Nat)(l:List Ob):Bool:=Nat.beq l.length pn.length && l.all (PF pn)
theorem LR{pn:List Nat}{l:List Ob}(h:I8 pn l=true):l.length=pn.length/\∀o∈l,o.dh pn:=by simp only [I8,Bool.and_eq_true]at h;exact⟨Nat.eq_of_beq_eq_true h.1,fun o ho=>FX (List.all_eq_true.1 h.2 o ho)⟩
def MH(pn:List Nat):RO->RO
 | .nor l e=>match I8 pn l with
  |true=> .nor l e
  |false=> .bad
 | .ext c l e=>match I8 pn l with
  |true=> .ext c l e
  |false=> .bad
 | .bad=> .bad
theorem Cl{pn:List Nat}{r:RO}{l:List Ob}{e:CT}(h:MH pn r= .nor l e):r= .nor l e/\I8 pn l=true:=by
 unfold MH at h;split at h
 ·split at h;·rename_i hf;injection h with h1 h2;subst h1 h2;exact⟨rfl,hf⟩
  ·cases h
 ·split at h <;> cases h
 ·cases h
theorem JR{pn:List Nat}{r:RO}{c:Exit}{l:List Ob}{e:CT}(h:MH pn r= .ext c l e):r= .ext c l e/\I8 pn l=true:=by
 unfold MH at h;split at h;·split at h <;> cases h
 ·split at h;·rename_i hf;injection h with h1 h2 h3;subst h1 h2 h3;exact⟨rfl,hf⟩
  ·cases h
 ·cases h
theorem Ea{P:Program}{N:Nat}{C:Cx P N}{Q:Exit->S->Prop}{tm:Nat->V}{σ:Nat->Option Ob}{nx:Nat}{g:Operand}{ps:Array Tmp}{as0 bd:Code}{gf:FuncId}{caps:List V}{ins:List Ob}{es:List (List V)}(ns:List Nat)(hF:C.F=Fence.wide)(hd:C.dfs=rD)(pn:List Nat)(gl:List (Nat×Nat)) (it:zw P gf caps ins es) (hg:ev tm g= .fn (.func gf) [] (V.aS (zu ns) caps)) (hidf:V.cS ins.length caps=true) (hns:ns.length=ins.length) (hnd:ns.Nodup) (hins:∀(i k:Nat) (o:Ob),ns[i]?=some k->ins[i]?=some o->σ k=some o/\Gj o=true) (hlen:∀x∈es,x.length=ps.size) (hps:ps.toList.all (fun p=>decide (p< N))=true) (tl:List (Nat×V)) (rd:List V->List Ob->RO) (l0:List Ob) (hl0:I8 pn l0=true) (hrd:∀ok sl X k x l,Lm pn ok sl X k (rd x l)->∀C':Cx P N,AW C' as0 (dS (fun s'=>AW C' bd (pH pn ok sl X k) s') (fun _ _=>False)) ⟨oY (gF tl) ps.toList x,eL (pn.zip l),1⟩) (hpn:∀p∈pn,500<=p/\p< 1000) (htl:tl.all (fun p=>p.2.sk pn)=true) (hid:∀p∈gl,p.1< 1000) (htm:m7 (fun p=>tm p.1=p.2.bD (aO gl nx)) tl) (hσ:m7 (fun p=>∃ob,σ (aO gl nx p.1)=some ob/\fH ob (p.2.bD (aO gl nx))) (pn.zip l0)) (hinj:decide (((pn.zip l0).map fun p=>aO gl nx p.1).Nodup)=true) (hdis:∀p∈pn.zip l0,aO gl nx p.1∉ns){c:Exit}{lf:List Ob}{e:CT}(hw:Kc (fun x l=>MH pn (rd x l)) es l0=some (c,lf,e)) (he:kf e) (hQ:Q c ⟨gF tl,eL (pn.zip lf),1⟩):AW C (.rangeFunc g ps as0 bd) Q ⟨tm,σ,nx⟩:=by
 have hat:=HZ hw he;generalize hR:(fun x l=>MH pn (rd x l))=rr at hw hat;have hst0:∀k l,mN rr es l0 k=some l->I8 pn l=true:=by
  intro k;cases k with
  |zero=>intro l hl;simp only [mN,Option.some.injEq]at hl;subst hl;exact hl0
  |succ k=>
   intro l hl;simp only [mN]at hl;split at hl
   ·rename_i l1 x h1 hx;split at hl;·rename_i l' e' hr;injection hl with hl;subst hl;rw [<-hR]at hr;exact(Cl hr).2
    ·cases hl
   ·cases hl
 have W:= @s6 P N C Q tm σ nx g ps as0 bd gf caps ins es ns hF pn [] gl (fun _ _ h=>by rw [hd]at h;cases h) it hg hidf hns hnd hins hlen hps tl (fun k=>(mN rr es l0 k).isSome=true) (fun k=>(mN rr es l0 k).getD []) (fun k c sx=>∃l x c' e',mN rr es l0 k=some l/\es[k]?=some x/\rr x l= .ext c' sx e'/\FV c'=c);simp only [List.append_nil]at W;refine W (by simp [mN]) (List.all_eq_true.2 fun p hp=>by simpa using hpn p hp) (by simpa [mN]using (LR hl0).1) htl (List.all_eq_true.2 fun p hp=>decide_eq_true (hid p hp)) htm hσ hinj (by simpa [mN]using hdis) (fun C' _ k x hx hok=> ?_) (fun hok=> ?_) (fun k c sx hk hX=> ?_)
 ·obtain⟨l,hl⟩:=Option.isSome_iff_exists.1 hok;rw [hl,Option.getD_some];obtain⟨hk,t,ht,htE⟩:=hat k l hl;have hlt:=(List.getElem?_eq_some_iff.1 hx).1;have hdr:es.drop k=x::es.drop (k+1):=by
   rw [List.drop_eq_getElem_cons hlt];congr 1
   exact(List.getElem?_eq_some_iff.1 hx).2
  rw [hdr]at ht;refine hrd _ _ _ k x l ?_ C';unfold Kc at ht;split at ht
  ·rename_i l' e' hr;split at ht
   ·simp only [Option.some.injEq,Prod.mk.injEq]at ht;obtain⟨_,_,rfl⟩:=ht;have hst:mN rr es l0 (k+1)=some l':=by simp only [mN,hl,hx,hr]
    rw [<-hR]at hr;rw [(Cl hr).1];exact⟨htE.1,fun _ _=>⟨by simp only [hst,Option.isSome_some],by simp only [hst,Option.getD_some]⟩⟩
   ·cases ht
  ·rename_i c' l' e' hr;have hr':=hr;rw [<-hR]at hr';rw [(JR hr').1];split at ht;·simp only [Option.some.injEq,Prod.mk.injEq]at ht;obtain⟨_,_,rfl⟩:=ht;exact⟨htE,fun _ _=>⟨l,x,_,_,hl,hx,hr,rfl⟩⟩
   ·simp only [Option.some.injEq,Prod.mk.injEq]at ht;obtain⟨_,_,rfl⟩:=ht;exact⟨htE,fun _ _=>⟨l,x,_,_,hl,hx,hr,rfl⟩⟩
   ·cases ht
  ·cases ht
 ·obtain⟨l,hl⟩:=Option.isSome_iff_exists.1 hok;rw [hl,Option.getD_some];obtain⟨hk,t,ht,htE⟩:=hat _ l hl;rw [List.drop_length]at ht;simp only [Kc,Option.some.injEq,Prod.mk.injEq]at ht;obtain⟨rfl,rfl,_⟩:=ht;exact hQ
 ·obtain⟨l,x,c',e',hl,hx,hr,rfl⟩:=hX;obtain⟨hk',t,ht,htE⟩:=hat k l hl;have hdr:es.drop k=x::es.drop (k+1):=by
   rw [List.drop_eq_getElem_cons hk];congr 1
   exact(List.getElem?_eq_some_iff.1 hx).2
  rw [hdr]at ht;unfold Kc at ht;rw [hr]at ht;simp only at ht;split at ht;·simp only [Option.some.injEq,Prod.mk.injEq]at ht;obtain⟨rfl,rfl,_⟩:=ht;exact av hQ
  ·simp only [Option.some.injEq,Prod.mk.injEq]at ht;obtain⟨rfl,rfl,_⟩:=ht;exact bN hQ
  ·cases ht
abbrev m8:Type:=FuncId->List V->List Ob->Option (List (List V)×CT)
def oo(P:Program)(itr:m8):Prop:=∀f caps ins es e,itr f caps ins=some (es,e)->kf e->zw P f caps ins es
def Gr(σ:Nat->Option Ob):List Nat->Option (List Ob)
 | []=>some []
 |k::l=>match σ k with
  |some o=>match Gj o with
   |true=>match Gr σ l with
    |some r=>some (o::r)
    |none=>none
   |false=>none
  |none=>none
def Dl:List Nat->List Nat
 | []=>[]
 |k::l=>match jO (Dl l) k with
  |true=>Dl l
  |false=>k::Dl l
structure Io where
  caps:List V
  ns:List Nat
  ins:List Ob
  e:CT
def KA(caps caps':List V)(ns:List Nat)(ins:List Ob):Option Io:=match so ns && (V.cS ins.length caps' && Nat.ble ins.length 400)with
 |true=>some ⟨caps',ns,ins,.lf [(.vs caps,.vs (V.aS (zu ns) caps'))]⟩
 |false=>none
def Kz(σ:Nat->Option Ob)(caps:List V)(ns:List Nat):Option Io:=match Gr σ ns with
 |some ins=>KA caps (V.aS (fun i=>500+x7 ns i) caps) ns ins
 |none=>none
def LF(σ:Nat->Option Ob)(caps:List V):Option Io:=match V.bA caps with
 |true=>some ⟨caps,[],[],c0⟩
 |false=>Kz σ caps (Dl (V.oI caps))
theorem yb{σ:Nat->Option Ob}:∀ {ns:List Nat}{ins:List Ob},Gr σ ns=some ins->ns.length=ins.length/\∀(i k:Nat) (o:Ob),ns[i]?=some k->ins[i]?=some o->σ k=some o/\Gj o=true
 | [],ins,h=>by simp only [Gr,Option.some.injEq]at h;subst h;exact⟨rfl,fun i k o h=>by simp at h⟩
 |k::l,ins,h=>by
  simp only [Gr]at h;split at h
  ·rename_i o ho;split at h
   ·rename_i hb;split at h
    ·rename_i r hr;injection h with h;subst h;obtain⟨h1,h2⟩:=yb hr;refine⟨by simp [h1],fun i k' o' hk ho'=> ?_⟩;cases i with
     |zero=>simp at hk ho';subst hk ho';exact⟨ho,hb⟩
     |succ i=>exact h2 i k' o' (by simpa using hk) (by simpa using ho')
    ·cases h
   ·cases h
  ·cases h
theorem IV{σ:Nat->Option Ob}{caps:List V}{u:Io}(h:LF σ caps=some u)(he:kf u.e):caps=V.aS (zu u.ns) u.caps/\V.cS u.ins.length u.caps=true/\u.ns.length=u.ins.length/\u.ns.Nodup/\(∀(i k:Nat) (o:Ob),u.ns[i]?=some k->u.ins[i]?=some o->σ k=some o/\Gj o=true)/\u.ins.length<=400:=by
 unfold LF at h;split at h;·rename_i hi;injection h with h;subst h;exact⟨(V.ec _ _ hi).symm,iu 0 caps hi,rfl,.nil,(fun i k o h=>by simp at h),Nat.zero_le _⟩
 ·generalize Dl _=ns at h;unfold Kz at h;split at h
  ·rename_i ins hins;obtain⟨h1,h2⟩:=yb hins;unfold KA at h;split at h;·rename_i hb;injection h with h;subst h;simp only [Bool.and_eq_true]at hb;have hE:iH _:=he;have e1:=hE.hd;injection e1 with e1;exact⟨e1,hb.2.1,h1,oR hb.1,h2,Nat.le_of_ble_eq_true hb.2.2⟩
   ·cases h
  ·cases h
def DW(σ:Nat->Option Ob):List V->List Nat
 | []=>[]
 |v::l=>match v with
  | .ref i o=>match o with
   |0=>match σ i with
    |some (.box _ cs)=>match cs.all V.BW with
     |true=>i::DW σ l
     |false=>DW σ l
    |_=>DW σ l
   |_+1=>DW σ l
  |_=>DW σ l
def N8(mu:List Nat)(σ:Nat->Option Ob)(v:V):List Nat:=match v with
 | .fn (.func gf) _ caps=>match jO mu gf with
  |true=>DW σ caps
  |false=>[]
 |_=>[]
def Pf:List (Nat×Option Ob)->List Nat
 | []=>[]
 | (k,o)::l=>match o with
  |some (.box _ cs)=>match V.bA cs && !V.dF [] cs with
   |true=>k::Pf l
   |false=>Pf l
  |_=>Pf l
def sD(mu:List Nat)(s:CS)(g:Operand):CS:=F3 s (nQ (N8 mu (fN s.sl) (ev s.tr.get g)) (fQ (fN s.sl) 1000 (ev s.tr.get g).ids [])++Pf s.sl)
def NJ(l:List Nat):List Nat->Bool
 | []=>true
 |k::ns=>match jO l k with
  |true=>false
  |false=>NJ l ns
def GA(tr:TR)(ns:List Nat):List Nat->List Nat
 | []=>[]
 |t::l=>match NJ (tr.get t).ids ns with
  |true=>t::GA tr ns l
  |false=>GA tr ns l
def FB(v:V):List V:=match v with
 | .fn _ _ caps=>caps
 |_=>[]
def PT(v:V):List Nat:=match V.bA (FB v)with
 |true=>[]
 |false=>Dl (V.oI (FB v))
def KP(tr:TR)(ns:List Nat)(ks:List Nat):List Nat:=match ns with
 | []=>ks
 |k::l=>GA tr (k::l) ks
def K1(call:fG)(T:List TI)(M mu:List Nat)(N np:Nat)(ps:List Nat)(as0 bd:Code)(s:CS)(nl:List Nat)(ks ns:List Nat)(es:List (List V))(obs:List (Ob×Ob)):Option (Exit×CS×CT):=
 match (es.all fun x=>Nat.beq x.length ps.length) && (ps.all (fun p=>decide (p< N)) && (ps.all (fun p=>decide (p< 1000)) && (ks.all (fun p=>decide (p< 1000)) && (decide (500+np+nl.length<=1000) && (I8 (wT np nl.length) (obs.map Prod.snd) && (decide ((((wT np nl.length).zip (obs.map Prod.snd)).map fun p=>aO (fP (500+np) nl) s.nx p.1).Nodup) && ((((wT np nl.length).zip (obs.map Prod.snd)).all fun p=> !jO ns (aO (fP (500+np) nl) s.nx p.1)) && (js (oJ np nl) (wI s.tr ks)).all fun p=>p.2.sk (wT np nl.length))))))))with
  |true=>match Kc (fun x l=>MH (wT np nl.length) (sF call T M mu N (wT np nl.length) (js (oJ np nl) (wI s.tr ks)) ps as0 bd x l)) es (obs.map Prod.snd)with
   |some (c,lf,e)=>some (c,⟨K5 (js (oJ np nl) (wI s.tr ks)),zn (wT np nl.length) lf,1⟩,.nd (.lf ((.vs (vals (wI s.tr ks)),.vs (V.aS (aO (fP (500+np) nl) s.nx) (vals (js (oJ np nl) (wI s.tr ks)))))::eX (aO (fP (500+np) nl) s.nx) obs)) e)
   |none=>none
  |false=>none
def K0(call:fG)(itr:m8)(T:List TI)(M mu:List Nat)(N np:Nat)(g:Operand)(ps:List Nat)(as0 bd:Code)(s:CS)(ks nl:List Nat):Option (Exit×CS×CT):=
 match ev s.tr.get g with
  | .fn (.func gf) [] caps=>match LF (fN s.sl) caps with
   |some u=>match itr gf u.caps u.ins with
    |some (es,e0)=>match x9 (fN s.sl) (oJ np nl) (qp np++nl)with
     |some obs=>match K1 call T M mu N np ps as0 bd s nl ks u.ns es obs with
      |some (c,s',e)=>some (c,s',.nd u.e (.nd e0 e))
      |none=>none
     |none=>none
    |none=>none
   |none=>none
  |_=>none
def KZ(call:fG)(itr:m8)(T:List TI)(M mu:List Nat)(N np:Nat)(g:Operand)(ps:List Nat)(as0 bd:Code)(s:CS)(ks:List Nat):Option (Exit×CS×CT):= K0 call itr T M mu N np g ps as0 bd s ks (nQ (qp np) (fQ (fN s.sl) 1000 (L7 (wI s.tr ks)++qp np) []))
def Hu(call:fG)(itr:m8)(T:List TI)(M mu:List Nat)(N np:Nat):Nn:=fun g ps as0 bd s=> KZ call itr T M mu N np g ps.toList as0 bd (sD mu s g) (KP (sD mu s g).tr (PT (ev (sD mu s g).tr.get g)) (TR.keys id (sD mu s g).tr))
theorem Hv{P:Program}{N:Nat}{C:Cx P N}{T:List TI}{M mu:List Nat}{call:fG}{itr:m8}{np:Nat}(hT:aK T P)(hcl:dg P call)(hit:oo P itr)(hF:C.F=Fence.wide)(hd:C.dfs=rD):Bw C (Hu call itr T M mu N np):=by
 intro g ps as0 bd s e s' t h he Q hQ;have hle:∀ {P:Program}{N:Nat}(C:Cx P N) a w,Gm C s.den a w->Gm C (sD mu s g).den a w:=qB s _;refine pJ (s':=(sD mu s g).den) hle ?_;clear hle;unfold Hu at h;generalize sD mu s g=s0 at h ⊢;generalize KP _ _ _=ks at h;unfold KZ at h;generalize nQ _ _=nl at h;unfold K0 at h;split at h
 ·rename_i gf caps hg;split at h
  ·rename_i u hu;split at h
   ·rename_i es e0 hes;split at h
    ·rename_i obs hobs;split at h
     ·rename_i c s1 e1 h2;simp only [Option.some.injEq,Prod.mk.injEq]at h;obtain⟨rfl,rfl,rfl⟩:=h;obtain⟨heu,he0,he⟩:=he;obtain⟨u1,u2,u3,u4,u5,u6⟩:=IV hu heu;unfold K1 at h2;split at h2
      ·rename_i hb;split at h2
       ·rename_i c1 lf e2 hw;simp only [Option.some.injEq,Prod.mk.injEq]at h2;obtain⟨rfl,rfl,rfl⟩:=h2;simp only [Bool.and_eq_true,decide_eq_true_eq]at hb;obtain⟨hb1,hb2,hb3,hb4,hb5,hb6,hb7,hb8,hb9⟩:=hb;obtain⟨hE,hew⟩:=he;have hE':iH _:=hE;have e1:=hE'.hd;injection e1 with e1;have hB:=hE'.tl;obtain⟨hlen,hget⟩:=kW hobs;have hps:∀p∈ps.toList,p< 1000:=fun p hp=>of_decide_eq_true (List.all_eq_true.1 hb3 p hp);have htl:∀p∈js (oJ np nl) (wI s0.tr ks),p.1< 1000:=fun p hp=>by obtain⟨q,hq,hq2⟩:=yP hp;rw [<-hq2];exact of_decide_eq_true (List.all_eq_true.1 hb4 _ (Cz hq))
        have hpn:∀p∈wT np nl.length,500<=p/\p< 1000:=fun p hp=>by unfold wT qp at hp;simp only [List.mem_append,List.mem_map,List.mem_range]at hp;rcases hp with⟨a,ha,rfl⟩ | ⟨a,ha,rfl⟩ <;> omega
        have hs1:(CS.mk (K5 (js (oJ np nl) (wI s0.tr ks))) (zn (wT np nl.length) lf) 1).den=⟨gF (js (oJ np nl) (wI s0.tr ks)),eL ((wT np nl.length).zip lf),1⟩:=by unfold CS.den;rw [wJ htl,tA]
        rw [hs1]at hQ;have H1:∀ok sl X k x l,Lm (wT np nl.length) ok sl X k (sF call T M mu N (wT np nl.length) (js (oJ np nl) (wI s0.tr ks)) ps.toList as0 bd x l)->∀C':Cx P N,AW C' as0 (dS (fun s'=>AW C' bd (pH (wT np nl.length) ok sl X k) s') (fun _ _=>False)) ⟨oY (gF (js (oJ np nl) (wI s0.tr ks))) ps.toList x,eL ((wT np nl.length).zip l),1⟩:=fun ok sl X k x l hr C'=>Ec hT hcl hpn htl hps hr C';have H2:∀p∈fP (500+np) nl,p.1< 1000:=fun p hp=>by have:=yw hp;omega
        have H3:=sA (g:=aO (fP (500+np) nl) s0.nx) (gi:=oJ np nl) (tm:=s0.tr.get) (tl:=wI s0.tr ks) CA e1;generalize sF call T M mu N (wT np nl.length) (js (oJ np nl) (wI s0.tr ks)) ps.toList as0 bd=rd at hw H1;generalize js (oJ np nl) (wI s0.tr ks)=tl at*;refine Ea u.ns hF hd (wT np nl.length) (fP (500+np) nl) (hit _ _ _ _ _ hes he0) (by rw [<-u1];exact hg) u2 u3 u4 u5 (fun x hx=> ?_) hb2 tl rd (obs.map Prod.snd) hb6 H1 hpn hb9 H2 H3 (qx fun p hp=> ?_) (decide_eq_true hb7) (fun p hp=>by have:=List.all_eq_true.1 hb8 p hp;simp only [Bool.not_eq_true']at this;exact rW this) hw hew hQ;·have:=List.all_eq_true.1 hb1 x hx;have:=Nat.eq_of_beq_eq_true this;simpa using this
        ·obtain⟨i,h1,h2⟩:=wP hp;simp only [List.getElem?_map,Option.map_eq_some_iff]at h2;obtain⟨q,hq,hq2⟩:=h2;obtain⟨k,hk,hσ,hno⟩:=hget i q hq;have hil:=(List.getElem?_eq_some_iff.1 hq).1;rw [hlen]at hil;have hpl:(qp np).length=np:=by simp [qp]
         simp only [List.length_append,hpl]at hil;have hlk:aO (fP (500+np) nl) s0.nx p.1=k:=by
          unfold wT at h1;unfold aO;by_cases hi:i< np
          ·rw [List.getElem?_append_left oM]at h1 hk;rw [hk]at h1;injection h1 with h1;have hkk:k=500+i:=by unfold qp at hk;rw [List.getElem?_map,List.getElem?_range hi]at hk;simp at hk;omega
           rw [<-h1,Ca oM];exact if_pos oM
          ·rw [List.getElem?_append_right oM]at h1 hk;rw [hpl]at h1 hk;rw [List.getElem?_map,List.getElem?_range oM]at h1;simp only [Option.map_some,Option.some.injEq]at h1;rw [<-h1,lR hk]
         refine⟨q.1,by rw [hlk];exact hσ,?_⟩;rw [<-hq2];exact oO hno (fK hB hq)
       ·cases h2
      ·cases h2
     ·cases h
    ·cases h
   ·cases h
  ·cases h
 ·cases h
end
end Go.Ab

namespace Go.Ab
open Go.RowKit Go.Dw Go.Shelf
noncomputable section
def Fc:Nat->List V->TR->TR
 |_,[],tr=>tr
 |i,v::l,tr=>Fc (i+1) l (TR.put 10 tr i v)
theorem xj:∀(l:List V) (i:Nat) (tr:TR) (t:Nat),i+l.length<=1000->(Fc i l tr).get t=if i<=t/\t< i+l.length then l.getD (t- i) .any else tr.get t
 | [],i,tr,t,_=>by simp only [Fc,List.length_nil];rw [if_neg oM]
 |v::l,i,tr,t,h=>by
  simp only [List.length_cons]at h;simp only [Fc,List.length_cons];rw [xj l (i+1) _ t oM,TR.jU oM];by_cases h1:t=i;·subst h1;rw [if_neg oM,if_pos oM,ak,Nat.sub_self];rfl
  ·rw [ah _ _ h1];by_cases h2:i+1<=t/\t< i+1+l.length;·rw [if_pos h2,if_pos oM,show t- i=(t- (i+1))+1 by omega];rfl
   ·rw [if_neg h2,if_neg oM]
def Gq:Nat->List Ob->List (Nat×Option Ob)
 |_,[]=>[]
 |k,o::l=>(k,some o)::Gq (k+1) l
theorem ya:∀(l:List Ob) (k i:Nat),fN (Gq k l) i=if k<=i then l[i- k]? else none
 | [],k,i=>by simp [Gq,fN]
 |o::l,k,i=>by
  simp only [Gq,fN];split;·rename_i h;have h:=Nat.eq_of_beq_eq_true h;subst h;rw [if_pos (Nat.le_refl _),Nat.sub_self];rfl
  ·rename_i h;have h:=Nat.ne_of_beq_eq_false h;rw [ya l (k+1) i];by_cases h2:k<=i;·rw [if_pos h2,if_pos oM,show i- k=(i- (k+1))+1 by omega];rfl
   ·rw [if_neg h2,if_neg oM]
def oZ(args:List V)(ins:List Ob):CS:=⟨Fc 0 args .e,Gq 500 ins,1⟩
theorem mZ{args:List V}{ins:List Ob}(h:args.length<=1000):(oZ args ins).den=⟨fun t=>args.getD t .any,fm ins,1⟩:=by
 unfold CS.den oZ;congr 1
 ·funext t;simp only;rw [xj args 0 .e t oM,TR.jm];simp only [Nat.zero_le,true_and,Nat.zero_add,Nat.sub_zero];split;·rfl
  ·rename_i h1;rw [List.getD_eq_getElem?_getD,List.getElem?_eq_none oM];rfl
 ·funext i;exact ya ins 500 i
def AU(s:CS):List ResultVar->List (Nat×V)
 | []=>[]
 | .tmp t::l=>(t,s.tr.get t)::AU s l
 | .cell a _::l=>(a,s.tr.get a)::AU s l
def yF(σ:Nat->Option Ob)(g:Nat->Nat):Nat->Nat->List (Option (Ob×Ob))
 |_,0=>[]
 |k,n+1=>(match σ k with
  |some o=>match zq g o with
   |some o'=>some (o,o')
   |none=>none
  |none=>none)::yF σ g (k+1) n
def sS:List (Option (Ob×Ob))->List (Option Ob)
 | []=>[]
 |o::l=>o.map Prod.snd::sS l
def BG(g:Nat->Nat):List (Option (Ob×Ob))->List (CE×CE)
 | []=>[]
 |some p::l=>eX g [p]++BG g l
 |none::l=>BG g l
def HH(g:Nat->Nat):List Ob->List (CE×CE)
 | []=>[]
 |o::l=>uT g o++HH g l
def Cu(g:Nat->Nat):List (Option Ob)->List (CE×CE)
 | []=>[]
 |some o::l=>uT g o++Cu g l
 |none::l=>Cu g l
def Df:Nat->List (Ob×Ob)->List (Nat×Ob)
 |_,[]=>[]
 |k,p::l=>(k,p.2)::Df (k+1) l
theorem xA:∀ {l:List (Ob×Ob)}{k:Nat}{p:Nat×Ob},p∈Df k l->∃(i:Nat) (q:Ob×Ob),l[i]?=some q/\p.1=k+i/\p.2=q.2
 | [],_,_,h=>by simp [Df]at h
 |q::l,k,p,h=>by
  rcases List.mem_cons.1 h with rfl |h;·exact⟨0,q,rfl,rfl,rfl⟩
  ·obtain⟨i,q',h1,h2,h3⟩:=xA h;exact⟨i+1,q',by simpa using h1,by omega,h3⟩
def Ky(T:List TI)(fn:Func)(n:Nat)(s:CS)(nl:List Nat)(tl:List (Nat×V))(m:Nat)(all:List (Ob×Ob))(outs:List (Option (Ob×Ob))):Option CR:=
 match decide (((j6 0 (((all.take m).map Prod.snd).map some)++(j6 500 (sS outs)++Df m (all.drop m))).map fun p=>aO (fP 0 nl) s.nx p.1).Nodup) && ((fP 0 nl).all (fun p=>decide (p.1< 500)) && (decide (((all.take m).map Prod.snd).length<=90) && Nat.ble nl.length 400))with
  |true=>match qt T ⟨gF (js (Gs nl) tl),eL (j6 0 (((all.take m).map Prod.snd).map some)++(j6 500 (sS outs)++Df m (all.drop m))),1⟩ fn.results.toList with
   |some v=>some ⟨v,sS outs,(all.take m).map Prod.snd,.lf ((.vs (vals tl),.vs (V.aS (aO (fP 0 nl) s.nx) (vals (js (Gs nl) tl))))::
    (.vs [v],.vs [v.bD (aW ((all.take m).map Prod.snd).length n 1)])::(eX (aO (fP 0 nl) s.nx) all++(BG (aO (fP 0 nl) s.nx) outs++(HH (aW ((all.take m).map Prod.snd).length n 1) ((all.take m).map Prod.snd)++Cu (aW ((all.take m).map Prod.snd).length n 1) (sS outs)))))⟩
   |none=>none
  |false=>none
def Kx(T:List TI)(fn:Func)(n:Nat)(s:CS)(nl:List Nat)(tl:List (Nat×V))(m:Nat):Option CR:=
 match x9 (fN s.sl) (Gs nl) nl with
  |some all=>Ky T fn n s nl tl m all (yF (fN s.sl) (Gs nl) 500 n)
  |none=>none
def Kw(T:List TI)(fn:Func)(n:Nat)(s:CS)(nv:List Nat):Option CR:= Kx T fn n s (nv++nQ (qp n++nv) (fQ (fN s.sl) 1000 (L7 (AU s fn.results.toList)) [])) (AU s fn.results.toList) nv.length
def xB(T:List TI)(fn:Func)(n:Nat)(s:CS):Option CR:=match qt T s.den fn.results.toList with
 |some v0=>Kw T fn n s (nQ (qp n) (fQ (fN s.sl) 1000 (v0.ids++qp n) []))
 |none=>none
theorem sr{σ:Nat->Option Ob}{g:Nat->Nat}:∀ {n k i:Nat}{p:Ob×Ob},(yF σ g k n)[i]?=some (some p)->i< n/\σ (k+i)=some p.1/\zq g p.1=some p.2
 |0,_,_,_,h=>by simp [yF]at h
 |n+1,k,0,p,h=>by
  simp only [yF,List.getElem?_cons_zero,Option.some.injEq]at h;split at h
  ·rename_i o ho;split at h;·rename_i o' ho';simp only [Option.some.injEq]at h;subst h;exact⟨by omega,ho,ho'⟩
   ·cases h
  ·cases h
 |n+1,k,i+1,p,h=>by simp only [yF,List.getElem?_cons_succ]at h;obtain⟨h1,h2,h3⟩:=sr h;exact⟨by omega,by rw [<-h2];congr 1;omega,h3⟩
theorem yG{σ:Nat->Option Ob}{g:Nat->Nat}:∀ {n k:Nat},(yF σ g k n).length=n
 |0,_=>rfl
 |n+1,k=>by simp [yF,yG]
theorem sU:∀ {l:List (Option (Ob×Ob))}{i:Nat}{o:Option Ob},(sS l)[i]?=some o->∃q,l[i]?=some q/\o=q.map Prod.snd
 | [],_,_,h=>by simp [sS]at h
 |q::l,0,o,h=>by simp [sS]at h;exact⟨q,rfl,h.symm⟩
 |q::l,i+1,o,h=>by simpa using sU (l:=l) (by simpa [sS]using h)
theorem y5:∀ {l:List (Option (Ob×Ob))},(sS l).length=l.length
 | []=>rfl
 |_::l=>by simp [sS,y5]
theorem oy{g:Nat->Nat}:∀ {l:List (Option (Ob×Ob))},iH (BG g l)->∀ {i:Nat}{p:Ob×Ob},l[i]?=some (some p)->iH (eX g [p])
 |some q::l,h,0,p,hp=>by simp at hp;subst hp;exact h.l
 |none::l,h,0,p,hp=>by simp at hp
 |some q::l,h,i+1,p,hp=>oy h.r (by simpa using hp)
 |none::l,h,i+1,p,hp=>oy (l:=l) h (by simpa using hp)
theorem uU{g:Nat->Nat}:∀ {l:List Ob},iH (HH g l)->∀ {i:Nat}{o:Ob},l[i]?=some o->iH (uT g o)
 |q::l,h,0,p,hp=>by simp at hp;subst hp;exact h.l
 |q::l,h,i+1,p,hp=>uU h.r (by simpa using hp)
theorem o4{g:Nat->Nat}:∀ {l:List (Option Ob)},iH (Cu g l)->∀ {i:Nat}{o:Ob},l[i]?=some (some o)->iH (uT g o)
 |some q::l,h,0,p,hp=>by simp at hp;subst hp;exact h.l
 |none::l,h,0,p,hp=>by simp at hp
 |some q::l,h,i+1,p,hp=>o4 h.r (by simpa using hp)
 |none::l,h,i+1,p,hp=>o4 (l:=l) h (by simpa using hp)
theorem sB{s:CS}:∀ {rs:List ResultVar},∀p∈AU s rs,s.tr.get p.1=p.2
 | [],p,h=>by simp [AU]at h
 | .tmp t::l,p,h=>by
  rcases List.mem_cons.1 h with rfl |h;·rfl
  ·exact sB (rs:=l) p h
 | .cell a _::l,p,h=>by
  rcases List.mem_cons.1 h with rfl |h;·rfl
  ·exact sB (rs:=l) p h
theorem G3{g:Nat->Nat}{l:List (Option Ob)}(h:∀(i:Nat) (o:Ob),l[i]?=some (some o)->o.bD g=o):KV g l=l:=by
 unfold KV;refine List.ext_getElem? fun i=> ?_;rw [List.getElem?_map];cases hi:l[i]? with
 |none=>rfl
 |some o=>
  cases o with
  |none=>rfl
  |some o=>simp [h i o hi]
theorem K4{l:List (Ob×Ob)}{m i:Nat}{q:Ob×Ob}(h:(l.take m)[i]?=some q):l[i]?=some q:=by
 rw [List.getElem?_take]at h;split at h;·exact h
 ·cases h
theorem BM{T:List TI}{fn:Func}{n:Nat}{s:CS}{r:CR}{e:Exit}(hn:n<=400)(he:e= .normal\/e= .ret)(h:xB T fn n s=some r)(hE:kf r.e) :
    dR T fn n r.v r.outs r.obs e s.den/\r.outs.length=n/\r.obs.length<=90:=by
  unfold xB at h
  split at h
  · unfold Kw at h
    generalize nQ (qp n) _=nv at h
    generalize nv++nQ _ _=nl at h
    generalize nv.length=m at h
    unfold Kx at h
    split at h
    · rename_i obs hobs
      unfold Ky at h
      split at h
      · rename_i hb
        split at h
        · rename_i v hv
          injection h with h;subst h
          simp only [Bool.and_eq_true]at hb
          obtain⟨hb1,hb2,hb3,hb4⟩:=hb
          have hob:=of_decide_eq_true hb3
          obtain⟨hlen,hget⟩:=kW hobs
          have hnl:=Nat.le_of_ble_eq_true hb4
          have hE':iH _:=hE
          have e1:=hE'.hd
          injection e1 with e1
          have e2:=hE'.tl.hd
          injection e2 with e2
          have hB:=hE'.tl.tl.l
          have hO:=hE'.tl.tl.r.l
          have hS:=hE'.tl.tl.r.r.l
          have hSO:=hE'.tl.tl.r.r.r
          simp only [V.aS,List.cons.injEq,and_true]at e2
          refine⟨Cn (tm:=s.tr.get) (σ:=fN s.sl) (nx:=s.nx) (fP 0 nl) (js (Gs nl) (AU s fn.results.toList)) (Df m (obs.drop m)) he (sA sB e1) (qx fun p hp=> ?_) hb1 hb2 hb3 hv rfl e2.symm (G3 fun i o hi=> ?_),by rw [y5,yG],hob⟩
          · rcases List.mem_append.1 hp with hp |hp
            · obtain⟨i,h1,h2⟩:=qM hp
              simp only [List.getElem?_map,Option.map_eq_some_iff]at h2
              obtain⟨o',⟨q,hq,rfl⟩,h4⟩:=h2
              injection h4 with h4
              have hq:=K4 hq
              obtain⟨k,hk,hσ,hno⟩:=hget i q hq
              have hg:aO (fP 0 nl) s.nx p.1=k:=by
                unfold aO
                rw [h1,lR hk]
              refine⟨q.1,by rw [hg];exact hσ,?_⟩
              rw [<-h4]
              exact oO hno (fK hB hq)
            rcases List.mem_append.1 hp with hp |hp
            rotate_left
            · obtain⟨i,q,hq,h1,h2⟩:=xA hp
              rw [List.getElem?_drop]at hq
              obtain⟨k,hk,hσ,hno⟩:=hget (m+i) q hq
              have hg:aO (fP 0 nl) s.nx p.1=k:=by
                unfold aO
                rw [h1,show m+i=0+(m+i) by omega,lR hk]
              refine⟨q.1,by rw [hg];exact hσ,?_⟩
              rw [h2]
              exact oO hno (fK hB hq)
            · obtain⟨i,h1,h2⟩:=qM hp
              obtain⟨q,hq,hq2⟩:=sU h2
              cases q with
              |none=>cases hq2
              |some q=>
                simp only [Option.map_some,Option.some.injEq]at hq2
                obtain⟨hin,hσ,hno⟩:=sr hq
                have hg:aO (fP 0 nl) s.nx p.1=500+i:=by
                  unfold aO
                  rw [h1,uK oM]
                  exact if_pos oM
                refine⟨q.1,by rw [hg];exact hσ,?_⟩
                rw [hq2]
                exact oO hno (oy hO hq)
          · by_cases hlt:i< ((obs.take m).map Prod.snd).length
            · rw [List.getElem?_append_left (by simpa using hlt)]at hi
              simp only [List.getElem?_map,Option.map_eq_some_iff]at hi
              obtain⟨o',⟨q,hq,rfl⟩,h4⟩:=hi
              injection h4 with h4
              have hq0:=hq
              have hq:=K4 hq
              obtain⟨k,hk,hσ,hno⟩:=hget i q hq
              rw [<-h4]
              exact yp hno (uU hS (i:=i) (by rw [List.getElem?_map,hq0];rfl))
            · rw [List.getElem?_append_right (by simpa using Nat.le_of_not_lt hlt)]at hi
              obtain⟨q,hq,hq2⟩:=sU hi
              cases q with
              |none=>cases hq2
              |some q=>
                simp only [Option.map_some,Option.some.injEq]at hq2
                obtain⟨hin,hσ,hno⟩:=sr hq
                rw [hq2]
                rw [hq2]at hi
                exact yp hno (o4 hSO hi)
        · cases h
      · cases h
    · cases h
  · cases h
def PG:Ob->V
 | .row _ sz n f=> .sl sz n f
 | .box _ cs=> .ptr cs
 | .mp _ _=> .any
def Jc:Nat->List Ob->List V->List V
 |_,[],args=>args
 |k,o::l,args=>Jc (k+1) l (V.og k (PG o) args)
def x6:List Ob->Bool
 | []=>true
 | .row _ _ n f::l=>match ((List.range n).map f).all V.bA with
  |true=>x6 l
  |false=>false
 | .box _ cs::l=>match V.bA cs with
  |true=>x6 l
  |false=>false
 | .mp _ _::_=>false
theorem rV:∀ {l:List Ob},x6 l=true->∀ {i:Nat}{o:Ob},l[i]?=some o->match o with
    | .row _ _ n f=>∀i,i< n->V.bA (f i)=true
    | .box _ cs=>V.bA cs=true
    | .mp _ _=>False
  | [],_,i,o,hi=>by simp at hi
  | .row e sz n f::l,h,i,o,hi=>by
    simp only [x6]at h
    split at h
    · rename_i ha
      cases i with
      |zero=>
        simp at hi;subst hi
        intro j hj
        have:=ia ha j
        rwa [lT hj]at this
      |succ i=>exact rV h (by simpa using hi)
    · cases h
  | .box t cs::l,h,i,o,hi=>by
    simp only [x6]at h
    split at h
    · rename_i ha
      cases i with
      |zero=>simp at hi;subst hi;exact ha
      |succ i=>exact rV h (by simpa using hi)
    · cases h
  | .mp _ _::l,h,i,o,hi=>by simp [x6]at h
theorem Nv{w:World}{L:Nat->Prop}{ρ:Nat->Option Value}{id:Nat}{v0:V}(h0:∀y,ρ id=some y->R w L ρ v0 y){us:List V}{xs:List Value}(h:RV w L ρ us xs):RV w L ρ (V.og id v0 us) xs:=by
 refine⟨by rw [V.fB];exact h.1,fun i u x hu hx=> ?_⟩;rw [V.gR]at hu;cases hc:us[i]? with
 |none=>rw [hc]at hu;cases hu
 |some a=>rw [hc]at hu;simp only [Option.map_some,Option.some.injEq]at hu;subst hu;exact nc h0 _ _ (h.2 i a x hc hx)
theorem EJ{w:World}{L:Nat->Prop}{ρ:Nat->Option Value}{xs:List Value}:∀(l:List Ob) (k:Nat) (us:List V),(∀i o,l[i]?=some o->∀y,ρ (k+i)=some y->R w L ρ (PG o) y)->RV w L ρ us xs->RV w L ρ (Jc k l us) xs
 | [],_,_,_,h=>h
 |o::l,k,us,h0,h=>EJ l (k+1) _ (fun i o' hi y hy=>h0 (i+1) o' (by simpa using hi) y (by rw [<-hy];congr 1;omega)) (Nv (fun y hy=>h0 0 o rfl y hy) h)
theorem AM.keep{P:Program}{f:FuncId}{args:List V}{ins:List Ob}{v:V}(h:AM P f (Jc 500 ins args) [] v [] [])(hi:V.bA (Jc 500 ins args)=true)(hi2:x6 ins=true)(hv:v.rL=true):AM P f args ins v (ins.map some) []:=by
 refine⟨h.1,fun W LB L w ρ vs hwl hWL hG hρ hvs=> ?_⟩;have hins:∀i o,ins[i]?=some o->fm ins (500+i)=some o:=fun i o hi=>by unfold fm;rw [if_pos oM,Nat.add_sub_cancel_left];exact hi
 obtain⟨Lx,hLx⟩:∃Lx:Nat->Prop,∀b,Lx b<->L b\/∃i x,i< ins.length/\ρ (500+i)=some x/\blk x=some b:=⟨_,fun _=>Iff.rfl⟩;have hobj:∀i o,ins[i]?=some o->∃y,ρ (500+i)=some y/\(∀k,blk y=some k->k< w.heap.size/\W k/\¬L k)/\R w Lx ρ (PG o) y:=by
  intro i o hio;have hlt:=(List.getElem?_eq_some_iff.1 hio).1;have hr:=hG.ob _ _ (hins i o hio);have hc:=rV hi2 hio;have fin:∀u y,ρ (500+i)=some y->(∀k,blk y=some k->k< w.heap.size/\W k/\¬L k)->R w (fun b=>L b\/blk y=some b) ρ u y->∃y,ρ (500+i)=some y/\(∀k,blk y=some k->k< w.heap.size/\W k/\¬L k)/\R w Lx ρ u y:=fun u y h1 h2 h3=> ⟨y,h1,h2,h3.ext ⟨fun b hb=>⟨(hLx b).2 (hb.imp id fun h=>⟨i,y,hlt,h1,h⟩),rfl⟩,fun _ _ h=>h⟩⟩;cases o with
  |row e sz n row=>obtain⟨y,h1,h2,h3⟩:=hr.slice hc;exact fin _ y h1 h2 h3
  |box t cs=>obtain⟨y,h1,h2,h3⟩:=hr.ptr hc;exact fin _ y h1 h2 h3
  |mp _ _=>exact hc.elim
 have hLb:∀b,Lx b->b< w.heap.size:=fun b hb=>by
  rcases(hLx b).1 hb with hb | ⟨i,x,hil,hx,hbx⟩;·exact(hG.ll b hb).1
  ·obtain⟨y,h1,h2,_⟩:=hobj i _ (List.getElem?_eq_getElem hil);rw [h1]at hx;injection hx with hx;subst hx
   exact(h2 b hbx).1
 have ex:Ext w L ρ w Lx ρ:=⟨fun b hb=>⟨(hLx b).2 (.inl hb),rfl⟩,fun _ _ h=>h⟩;have hrv:RV w Lx ρ0 (Jc 500 ins args) vs.toList:=by refine RV.free (ρ:=ρ) ?_ hi;refine EJ ins 500 args (fun i o hio y hy=> ?_) ⟨hvs.1,fun i u x hu hx=>(hvs.2 i u x hu hx).ext ex⟩;obtain⟨y',h1,_,h3⟩:=hobj i o hio;rw [h1]at hy;injection hy with hy;subst hy;exact h3
 refine(h.2 (fun b=>w.heap.size<=b) (fun b=>Lx b\/w.heap.size<=b) Lx w ρ0 vs (fun b hb=> .inr hb) (fun b hb hL=>by have:=hLb b hL;omega) ⟨fun b hb=>⟨hLb b hb,.inl hb⟩,fun b hb=>⟨hb,.inr hb⟩,(fun id o ho=>by unfold fm at ho;split at ho <;> simp at ho),(fun i j x y k _ _ _ hx=>by cases hx),hG.tN ex⟩ (fun _ _=>rfl) hrv).mono ?_;rintro e w' ⟨x,rfl,ht,L',ρ',hG',hE',hx,hnn⟩;have hbel:Below w.heap.size w w':=ht.below (Nat.le_refl _) fun j hj hW=>by have hW':w.heap.size<=j:=hW;omega
 obtain⟨hG2,ex2⟩:=hG.quiet hbel (L':=L) (fun _ h=>h) (fun _ h=> .inl h);have eo:gy (ins.map some) []=fm ins:=by
  funext id;unfold gy fm;by_cases h5:500<=id;·rw [if_pos h5,if_pos h5,List.getElem?_map];cases ins[id- 500]? <;> rfl
  ·rw [if_neg h5,if_neg h5];simp
 refine⟨x,rfl,aZ.gw hbel fun k _ hk=>(hG.new k hk).1,L,ρ,?_,ex2,hx.rL hv,fun j _ hj=>hρ j hj⟩;rw [eo];exact hG2
theorem oq{T:List TI}{P:Program}(hT:aK T P)(hmx:P.follows .mixedOrders=true){f:FuncId}{fn:Func}{c:Code}{N:Nat}(hk:qQ P f fn c N){args:List V}{ins:List Ob}{v:V}{obs:List Ob}(hargs:args.length<=N)(hn4:ins.length<=400)(ho9:obs.length<=90)
    (h:∀C:Cx P N,C.F=Fence.wide->C.dfs=rD->AW C c (dR T fn 0 v [] obs) ⟨fun t=>args.getD t .any,fm ins,1⟩):AM P f args ins v (ins.map fun _=>none) obs:=by
  refine⟨hk.call,fun W LB L w ρ vs hwl hWL hG hρn hvs=> ?_⟩
  obtain⟨C,hW,hLB,hd,hFw⟩:∃C:Cx P N,C.W=W/\C.LB=LB/\C.dfs=rD/\C.F=Fence.wide:=⟨⟨W,LB,hwl,rD,hmx,Fence.wide,.inl rfl⟩,rfl,rfl,rfl,rfl⟩
  have hvl:vs.size=args.length:=by have:=hvs.1;simpa using this.symm
  refine callsIn_wide.1 (callsIn_of_wp_marks (n:=0) hk.hf hk.hb trivial ?_ rfl)
  have hw:=h C hFw hd
  unfold AW at hw
  rw [hFw]at hw
  refine wpIn_mono (hw _ w ⟨L,ρ,⟨?_,fun id hid=> ?_,fun t=> ?_,?_,?_,fun id x hp=> ?_⟩⟩) ?_
  · rw [hW,hLB];exact hG
  · have hid':1*100000<=id:=hid
    exact hρn id (.inr oM)
  · by_cases ht:t< args.length
    · have h1:args[t]?=some args[t]:=List.getElem?_eq_getElem ht
      obtain⟨x,hx,hr⟩:=hvs.get h1
      have e1:args.getD t .any=args[t]:=by simp [List.getD_eq_getElem?_getD,h1]
      have e2:(vs++Array.replicate (fn.ntmps- vs.size) undef).getD t undef=x:=by
        rw [Array.getD_eq_getD_getElem?,Array.getElem?_append_left oM]
        have:vs[t]?=some x:=by simpa using hx
        rw [this];rfl
      show R w L ρ (args.getD t .any) _
      rw [e1,e2];exact hr
    · have e1:args.getD t .any= .any:=by simp [List.getD_eq_getElem?_getD,List.getElem?_eq_none (Nat.le_of_not_lt ht)]
      show R w L ρ (args.getD t .any) _
      rw [e1];exact .any _ _
  · rw [<-hk.hn]at hargs ⊢
    simp;omega
  · exact⟨[],by rw [hd];rfl,by simp,by simp⟩
  · rw [hd]at hp;cases hp
  · rintro e a' w' ⟨s',⟨he,s'',hle,hres,hob,hout,hcv,hco,hcu⟩,g',t⟩
    obtain⟨L',ρ',g''⟩:=hle C a' w' g'
    rw [hW]at t
    obtain⟨Ds,d1,d2,d3⟩:=g''.defers
    rw [hd,show rD.tl=[]from rfl,List.append_nil]at d1
    refine jJ Ds he d1 d2 (fun D hD=>(d3 D hD).1) fun w2 ht2=> ?_
    obtain⟨g2,e2⟩:=g''.g.marks ht2 d3
    obtain⟨x,hx,hr⟩:=nX hT g2 (fun t=>(g''.tm t).ext e2) fn hres
    have hWD:∀D∈Ds,W D:=fun D hD=>by have:=(d3 D hD).2.1;rw [hW]at this;exact this
    have tt:aZ W w w2:=t.trans (ht2.mono fun k _ hkD=>hWD k hkD)
    refine⟨x,hx,x,rfl,tt,?_⟩
    have hr2:R w2 L' (fun i=>ρ' (aW obs.length 0 s''.nx i)) v x:=kC _ _ _ (by rw [hcv];exact hr)
    have hlt:∀i,i< obs.length->aW obs.length 0 s''.nx i=i:=fun i hi=>by unfold aW;rw [if_pos (.inl hi)]
    have hoF:∀id o,gy (ins.map fun _=>none) obs id=some o->s''.σ id=some o/\aW obs.length 0 s''.nx id=id/\o.bD (aW obs.length 0 s''.nx)=o:=by
      intro id o ho
      unfold gy at ho
      split at ho
      · rename_i h5
        rw [List.getElem?_map]at ho
        cases hq:ins[id- 500]? with
        |none=>rw [hq]at ho;cases ho
        |some q=>rw [hq]at ho;cases ho
      · exact⟨hob id o ho,hlt id (List.getElem?_eq_some_iff.1 ho).1,hco o (List.mem_of_getElem? ho)⟩
    have hfr:∀i,obs.length<=i->ρ' (aW obs.length 0 s''.nx i)=none:=fun i hi=>by
      have e3:aW obs.length 0 s''.nx i=s''.nx*100000+i:=if_neg oM
      rw [e3]
      exact g''.fr _ (by unfold bV;omega)
    obtain⟨ρ2,hρ2⟩:∃ρ2:Nat->Option Value,∀i,ρ2 i=if 500<=i/\i< 500+ins.length then ρ i else ρ' (aW obs.length 0 s''.nx i):=⟨_,fun _=>rfl⟩
    have hρlt:∀i,i< 500->ρ2 i=ρ' (aW obs.length 0 s''.nx i):=fun i hi=>by rw [hρ2,if_neg oM]
    have hE2:Ext w2 L' (fun i=>ρ' (aW obs.length 0 s''.nx i)) w2 (fun b=>L' b\/L b) ρ2:=⟨fun b hb=>⟨.inl hb,rfl⟩,fun id v hv=>by
      by_cases hi:id< obs.length
      · rw [hρlt id oM];exact hv
      · have hv:ρ' (aW obs.length 0 s''.nx id)=some v:=hv
        rw [hfr id oM]at hv;cases hv⟩
    refine⟨fun b=>L' b\/L b,ρ2,⟨fun b hb=> ?_,fun b hb=> ?_,fun id o ho=> ?_,fun i j x y k hij hi hj=> ?_,g2.Pa hE2.l⟩,⟨fun b hb=>⟨.inr hb,tt.block b (hG.ll b hb).1 fun hc=>hWL b hc hb⟩,fun id x hx=> ?_⟩,hr2.ext hE2,fun j hj hj5=> ?_⟩
    · rcases hb with hb |hb
      · have:=g2.ll b hb
        rw [hLB]at this
        exact⟨this.1,this.2⟩
      · exact⟨Nat.lt_of_lt_of_le (hG.ll b hb).1 tt.size,(hG.ll b hb).2⟩
    · exact hG.new b (Nat.le_trans tt.size hb)
    · obtain⟨q1,q2,q3⟩:=hoF id o ho
      have hr0:=g2.ob id o q1
      rw [hW]at hr0
      have hr:Real W w2 L' (fun i=>ρ' (aW obs.length 0 s''.nx i)) id o:=Real.bD (by rw [q2,q3];exact hr0)
      obtain⟨y,hy,hy2⟩:=hr.lt
      refine hr.keep hE2 fun x k hx hk=> ?_
      rw [hx]at hy;injection hy with hy;subst hy
      refine⟨rfl,?_⟩
      rintro(h1 |h1)
      · exact(hy2 k hk).2.2 h1
      · exact hWL k (hy2 k hk).2.1 h1
    · have key:∀i,gy (ins.map fun _=>none) obs i≠none->s''.σ i≠none/\aW obs.length 0 s''.nx i=i/\i< 500:=fun i hi=>by
        cases ho:gy (ins.map fun _=>none) obs i with
        |none=>exact absurd ho hi
        |some o=>
          obtain⟨q1,q2,_⟩:=hoF i o ho
          refine⟨by rw [q1];simp,q2,?_⟩
          unfold gy at ho
          split at ho
          · rw [List.getElem?_map]at ho
            cases hq:ins[i- 500]? with
            |none=>rw [hq]at ho;cases ho
            |some q=>rw [hq]at ho;cases ho
          · omega
      rw [hρlt i (key i hi).2.2,hρlt j (key j hj).2.2,(key i hi).2.1,(key j hj).2.1]
      exact g2.sep i j x y k hij (key i hi).1 (key j hj).1
    · by_cases h5:500<=id/\id< 500+ins.length
      · rw [hρ2,if_pos h5];exact hx
      · rw [hρn id oM]at hx;cases hx
    · rw [hρ2,if_neg oM]
      exact hfr j hj
abbrev ML:Type:=List (FuncId×List Nat)
def Nq:ML->FuncId->List Nat
 | [],_=>[]
 | (k,m)::l,f=>match Nat.beq f k with
  |true=>m
  |false=>Nq l f
def I2(mu:List Nat)(f:FuncId)(args:List V)(ins:List Ob):CS:=match jO mu f with
 |true=>oZ args ins
 |false=>F3 (oZ args ins) ((List.range ins.length).map (500+ ·))
theorem BO(mu:List Nat)(f:FuncId)(args:List V)(ins:List Ob):Le (oZ args ins).den (I2 mu f args ins).den:=by
 unfold I2;split;·exact Le.refl _
 ·exact qB _ _
def JS(call:fG)(itrI:m8)(T:List TI)(M mu:List Nat)(N np:Nat):Nn:=fun g ps as0 bd s=>match np with
 |0=>Hu call itrI T M mu N 0 g ps as0 bd s
 |_+1=>none
theorem Cp{P:Program}{N:Nat}{C:Cx P N}{T:List TI}{M mu:List Nat}{call:fG}{itrI:m8}{np:Nat}(hT:aK T P)(hcl:dg P call)(hitI:oo P itrI)(hF:C.F=Fence.wide)(hpin:∀id x,C.dfs.pin id=some x->500<=id/\id< 500+np)(htl:C.dfs.tl=[]):Bw C (JS call itrI T M mu N np):=by
 intro g ps as0 bd s e s' t h he Q hQ;unfold JS at h;split at h
 ·have hd:C.dfs=rD:=by
   have hp:C.dfs.pin=fun _=>none:=by
    funext id;cases hx:C.dfs.pin id with
    |none=>rfl
    |some x=>have:=hpin id x hx;omega
   generalize C.dfs=D at hp htl;cases D;simp only at hp htl;subst hp htl;rfl
  exact Hv hT hcl hitI hF hd _ _ _ _ _ _ _ _ h he Q hQ
 ·cases h
def NG(T:List TI)(fn:Func)(n:Nat)(r:Exit×CS×CT):Option CR:=match r.1 with
 | .ret=>oE (xB T fn n r.2.1) none fun q=>some ⟨q.v,q.outs,q.obs,zW r.2.2 q.e⟩
 | .normal=>oE (xB T fn n r.2.1) none fun q=>some ⟨q.v,q.outs,q.obs,zW r.2.2 q.e⟩
 |_=>none
def Dg(call:fG)(itrI:m8)(T:List TI)(M mu:List Nat)(f:FuncId)(fn:Func)(c:Code)(args:List V)(ins:List Ob):Option CR:= oE (xR call (JS call itrI T M mu fn.ntmps ins.length) T M mu fn.ntmps c (I2 mu f args ins)) none (NG T fn ins.length)
def Kv(o:Option CR)(ins:List Ob)(els:Option CR):Option CR:=match o with
 |some r=>match r.outs with
  | []=>match r.obs with
   | []=>match r.v.rL with
    |true=>some ⟨r.v,ins.map some,[],r.e⟩
    |false=>els
   |_::_=>els
  |_::_=>els
 |none=>none
def Kt(T:List TI)(fn:Func)(ins:List Ob)(r:Exit×CS×CT):Option CR:=match r.1 with
 | .ret=>oE (xB T fn 0 r.2.1) none fun q=>some ⟨q.v,ins.map fun _=>none,q.obs,zW r.2.2 q.e⟩
 | .normal=>oE (xB T fn 0 r.2.1) none fun q=>some ⟨q.v,ins.map fun _=>none,q.obs,zW r.2.2 q.e⟩
 |_=>none
def Ku(call:fG)(itrI:m8)(T:List TI)(M mu:List Nat)(f:FuncId)(fn:Func)(c:Code)(args:List V)(ins:List Ob):Option CR:= oE (xR call (JS call itrI T M mu fn.ntmps 0) T M mu fn.ntmps c (I2 mu f args ins)) none (Kt T fn ins)
def Fp(call:fG)(itrI:m8)(T:List TI)(M mu:List Nat)(f:FuncId)(fn:Func)(c:Code)(args:List V)(ins:List Ob):Option CR:=match ins with
 | []=>Dg call itrI T M mu f fn c args []
 |o::l=>match jO mu f with
  |true=>Dg call itrI T M mu f fn c args (o::l)
  |false=>match x6 (o::l) && V.bA (Jc 500 (o::l) args)with
   |true=>Kv (Dg call itrI T M mu f fn c (Jc 500 (o::l) args) []) (o::l) (Dg call itrI T M mu f fn c args (o::l))
   |false=>match Dg call itrI T M mu f fn c args (o::l)with
    |some r=>some r
    |none=>Ku call itrI T M mu f fn c args (o::l)
def Gu(caps:List V)(ins:List Ob)(l:Nat):CS:=oZ (V.c (.func (.yield l) #[] #[])::caps) ins
theorem DJ{caps:List V}{ins:List Ob}{l:Nat}(h:caps.length+1<=1000):(Gu caps ins l).den=⟨fun t=>((V.c (.func (.yield l) #[] #[]))::caps).getD t .any,fm ins,1⟩:= mZ (args:=V.c (.func (.yield l) #[] #[])::caps) (ins:=ins) (by simpa using h)
def BX(call:fG)(T:List TI)(M mu:List Nat)(N:Nat)(c:Code)(caps:List V)(ins:List Ob)(l:Nat):Option (List (List V)×CT):=Aq true call T M mu N l 20000 (.code c [] (Gu caps ins l))
def Ft(P:Program)(T:List TI)(M:ML)(mu:List Nat)(call:fG):m8:=fun f caps ins=>match P.funcs[f]? with
 |some fn=>match fn.body with
  |some c=>match fn.name == "runtime.NumGoroutine" with
   |false=>match fn.results with
    | ⟨[]⟩=>match Nat.ble (caps.length+1) 1000 && (Nat.ble (caps.length+1) fn.ntmps && Nat.ble ins.length 400)with
     |true=>match BX call T (Nq M f) mu fn.ntmps c caps ins 0 with
      |some (es,_)=>some (es,.lf [(.ys fun l=>Me (BX call T (Nq M f) mu fn.ntmps c caps ins l),.ys fun _=>some es),(.n fun l=>(Pc (BX call T (Nq M f) mu fn.ntmps c caps ins l)).OV.map Prod.fst,.n fun l=>(Pc (BX call T (Nq M f) mu fn.ntmps c caps ins l)).OV.map Prod.snd)])
      |none=>none
     |false=>none
    |_=>none
   |true=>none
  |none=>none
 |none=>none
theorem Fu{P:Program}{T:List TI}(hT:aK T P)(hmx:P.follows .mixedOrders=true){M:ML}{mu:List Nat}{call:fG}(hcl:dg P call):oo P (Ft P T M mu call):=by
 intro f caps ins es e h hE;unfold Ft at h;split at h
 ·rename_i fn hf;split at h
  ·rename_i c hc;split at h
   ·rename_i hname;split at h
    ·rename_i hres;split at h
     ·rename_i hb;simp only [Bool.and_eq_true]at hb;split at h;·rename_i es0 e0 hr;simp only [Option.some.injEq,Prod.mk.injEq]at h;obtain⟨rfl,rfl⟩:=h;have hE':iH _:=hE;have h1:=hE'.hd;have h2:=hE'.tl.hd;injection h1 with h1;injection h2 with h2;exact Is hT hmx hcl ⟨hf,hc,rfl,hname⟩ hres (Nat.le_of_ble_eq_true hb.2.1) (Nat.le_of_ble_eq_true hb.2.2) (Gu caps ins) (fun l=>DJ (Nat.le_of_ble_eq_true hb.1)) (fun l=>congrFun h1 l) fun l=>CT.A8 (vL (congrFun h2 l))
      ·cases h
     ·cases h
    ·cases h
   ·cases h
  ·cases h
 ·cases h
def PY(mu:List Nat)(call:fG):fG:=fun f args ins=>match args with
 | []=>match ins with
  | []=>match jO mu (1000000+f)with
   |true=>some ⟨.b true,[],[],c0⟩
   |false=>call f [] []
  |o::l=>call f [] (o::l)
 |a::l=>call f (a::l) ins
def EH(P:Program)(mu:List Nat):Prop:=∀f,jO mu (1000000+f)=true->AM P f [] [] (.b true) [] []
theorem Mx{P:Program}{mu:List Nat}{call:fG}(hK:EH P mu)(hcl:dg P call):dg P (PY mu call):=by
 refine⟨fun f args ins r hm h hE=> ?_,fun name t r n h hv=>hcl.2 name t r n h hv⟩;unfold PY at h;split at h
 ·split at h
  ·split at h;·rename_i hk;injection h with h;subst h;exact hK f hk
   ·exact hcl.1 _ _ _ _ hm h hE
  ·exact hcl.1 _ _ _ _ hm h hE
 ·exact hcl.1 _ _ _ _ hm h hE
theorem G8{P:Program}:∀ {mu:List Nat},(mu.all fun f=>Nat.ble f 999999)=true->EH P mu
 | [],_,f,h=>by cases h
 |k::l,hm,f,h=>by
  simp only [List.all_cons,Bool.and_eq_true]at hm;simp only [jO]at h;split at h;·rename_i hb;have:=Nat.eq_of_beq_eq_true hb;have:=Nat.le_of_ble_eq_true hm.1;omega
  ·exact G8 hm.2 f h
def Pd:List (FuncId×List V×V)->FuncId->Option (List V×V)
 | [],_=>none
 |k::l,f=>match Nat.beq f k.1 with
  |true=>some k.2
  |false=>Pd l f
def G7(K:List (FuncId×List V×V))(call:fG):fG:=fun f args ins=>match Nat.beq f G1 with
 |true=>call G1 args ins
 |false=>match ins with
  | []=>match Pd K f with
   |some k=>some ⟨k.2,[],[],.lf [(.vs args,.vs k.1)]⟩
   |none=>call f args []
  |o::l=>call f args (o::l)
def mE(P:Program)(K:List (FuncId×List V×V)):Prop:=∀f k,Pd K f=some k->AM P f k.1 [] k.2 [] []
theorem wk{P:Program}{K:List (FuncId×List V×V)}{call:fG}(hK:mE P K)(hcl:dg P call):dg P (G7 K call):=by
 refine⟨fun f args ins r hm h hE=> ?_,fun name t r n h hv=>hcl.2 name t r n h hv⟩;unfold G7 at h;rw [hm]at h;simp only at h;split at h
 ·split at h;·rename_i k hk;injection h with h;subst h;have hE':iH _:=hE;have e1:=hE'.hd;injection e1 with e1;rw [e1];exact hK f k hk
  ·exact hcl.1 _ _ _ _ hm h hE
 ·exact hcl.1 _ _ _ _ hm h hE
def LD(P:Program)(args:List V):Option CR:=match args with
 | [.fn (.method name) [] [],.c (.int .i64 n)]=>match GU P name n.toNat with
  |some f=>some ⟨.i (f:Int),[],[],c0⟩
  |none=>none
 |_=>none
def kJ(O:fG->fG)(P:Program)(T:List TI)(M:ML)(mu:List Nat):Nat->fG
 |0=>fun _ _ _=>none
 |d+1=>fun f args ins=>match Nat.beq f G1 with
  |true=>LD P args
  |false=>match P.funcs[f]? with
   |some fn=>match fn.body with
    |some c=>match fn.name == "runtime.NumGoroutine" with
     |false=>match Nat.ble args.length 1000 && (Nat.ble args.length fn.ntmps && Nat.ble ins.length 400)with
      |true=>Fp (O (kJ O P T M mu d)) (Ft P T M mu (O (kJ O P T M mu d))) T (Nq M f) mu f fn c args ins
      |false=>none
     |true=>none
    |none=>none
   |none=>none
def ur(P:Program)(T:List TI)(M:ML)(mu:List Nat):Nat->fG:=kJ (PY mu) P T M mu
theorem jE{P:Program}{T:List TI}{call:fG}{itrI:m8}(hT:aK T P)(hmx:P.follows .mixedOrders=true)(hcl:dg P call)(hitI:oo P itrI){M mu:List Nat}{f:FuncId}{fn:Func}{c:Code}{args:List V}{ins:List Ob}{r:CR}(hk:qQ P f fn c fn.ntmps)(ha:args.length<=1000)(ha2:args.length<=fn.ntmps)(hi:ins.length<=400) (h:Dg call itrI T M mu f fn c args ins=some r) (hE:kf r.e):AM P f args ins r.v r.outs r.obs:=by
 obtain⟨q,hq,h⟩:=dm h;obtain⟨e,s,t⟩:=q;have key:(e= .normal\/e= .ret)->oE (xB T fn ins.length s) none (fun q=>some ⟨q.v,q.outs,q.obs,zW t q.e⟩)=some r->AM P f args ins r.v r.outs r.obs:=by intro he h;obtain⟨r',hr',h⟩:=dm h;injection h with h;subst h;have hE:=mM hE;obtain⟨q1,q2,q3⟩:=BM hi he hr' hE.2;refine uf hT hmx hk ha2 q2 hi q3 fun C hF hpin htl=> ?_;have:=ny (C:=C) (mu:=mu) hT hcl (Cp hT hcl hitI hF hpin htl) c _ _ _ _ hq hE.1 (dR T fn ins.length r'.v r'.outs r'.obs) q1;rw [<-mZ ha];exact pJ (BO mu f args ins) this
 unfold NG at h;split at h;·rename_i h0;exact key (.inr h0) h
 ·rename_i h0;exact key (.inl h0) h
 ·cases h
theorem Fs{P:Program}{T:List TI}{call:fG}{itrI:m8}(hT:aK T P)(hmx:P.follows .mixedOrders=true)(hcl:dg P call)(hitI:oo P itrI){M mu:List Nat}{f:FuncId}{fn:Func}{c:Code}{args:List V}{ins:List Ob}{r:CR}(hk:qQ P f fn c fn.ntmps)(ha:args.length<=1000)(ha2:args.length<=fn.ntmps)(hi:ins.length<=400) (h:Ku call itrI T M mu f fn c args ins=some r) (hE:kf r.e):AM P f args ins r.v r.outs r.obs:=by
 obtain⟨q,hq,h⟩:=dm h;obtain⟨e,s,t⟩:=q;have key:(e= .normal\/e= .ret)->oE (xB T fn 0 s) none (fun q=>some ⟨q.v,ins.map fun _=>none,q.obs,zW t q.e⟩)=some r->AM P f args ins r.v r.outs r.obs:=by intro he h;obtain⟨r',hr',h⟩:=dm h;injection h with h;subst h;have hE:=mM hE;obtain⟨q1,q2,q3⟩:=BM (Nat.zero_le _) he hr' hE.2;have e0:r'.outs=[]:=List.eq_nil_of_length_eq_zero q2;rw [e0]at q1;refine oq hT hmx hk ha2 hi q3 fun C hF hd=> ?_;have:=ny (C:=C) (mu:=mu) hT hcl (Cp hT hcl hitI hF (fun id x hx=>by rw [hd]at hx;cases hx) (by rw [hd];rfl)) c _ _ _ _ hq hE.1 (dR T fn 0 r'.v [] r'.obs) q1;rw [<-mZ ha];exact pJ (BO mu f args ins) this
 unfold Kt at h;split at h;·rename_i h0;exact key (.inr h0) h
 ·rename_i h0;exact key (.inl h0) h
 ·cases h
theorem vQ:∀(l:List Ob) (k:Nat) (args:List V),(Jc k l args).length=args.length
 | [],_,_=>rfl
 |o::l,k,args=>by rw [Jc,vQ l,V.fB]
theorem Fq{P:Program}{T:List TI}{call:fG}{itrI:m8}(hT:aK T P)(hmx:P.follows .mixedOrders=true)(hcl:dg P call)(hitI:oo P itrI){M mu:List Nat}{f:FuncId}{fn:Func}{c:Code}{args:List V}{ins:List Ob}{r:CR}(hk:qQ P f fn c fn.ntmps)(ha:args.length<=1000)(ha2:args.length<=fn.ntmps)(hi:ins.length<=400) (h:Fp call itrI T M mu f fn c args ins=some r) (hE:kf r.e):AM P f args ins r.v r.outs r.obs:=by
 unfold Fp at h;split at h;·exact jE hT hmx hcl hitI hk ha ha2 hi h hE
 ·split at h;·exact jE hT hmx hcl hitI hk ha ha2 hi h hE
  ·split at h
   ·rename_i hb;simp only [Bool.and_eq_true]at hb;unfold Kv at h;split at h
    ·rename_i q hq;split at h
     ·rename_i ho;split at h
      ·rename_i hob;split at h;·rename_i hf;injection h with h;subst h;have:=jE hT hmx hcl hitI hk (by rw [vQ];exact ha) (by rw [vQ];exact ha2) (Nat.zero_le _) hq hE;rw [ho,hob]at this;exact this.keep hb.2 hb.1 hf
       ·exact jE hT hmx hcl hitI hk ha ha2 hi h hE
      ·exact jE hT hmx hcl hitI hk ha ha2 hi h hE
     ·exact jE hT hmx hcl hitI hk ha ha2 hi h hE
    ·cases h
   ·split at h;·rename_i r' hr';injection h with h;subst h;exact jE hT hmx hcl hitI hk ha ha2 hi hr' hE
    ·exact Fs hT hmx hcl hitI hk ha ha2 hi h hE
theorem oz{O:fG->fG}{P:Program}{T:List TI}(hT:aK T P)(hmx:P.follows .mixedOrders=true){M:ML}{mu:List Nat}(hO:∀c,dg P c->dg P (O c)):∀d,dg P (kJ O P T M mu d)
  |0=>⟨fun f args ins r _ h _=>by(cases h),fun name t r n h _=>by(cases h)⟩
  |d+1=>by
    refine⟨fun f args ins r hm h hE=> ?_,fun name t r n h hv=> ?_⟩
    · unfold kJ at h
      rw [hm]at h
      simp only at h
      split at h
      · rename_i fn hf
        split at h
        · rename_i c hc
          split at h
          · rename_i hname
            split at h
            · rename_i hb
              simp only [Bool.and_eq_true]at hb
              exact Fq hT hmx (hO _ (oz hT hmx hO d)) (Fu hT hmx (hO _ (oz hT hmx hO d))) ⟨hf,hc,rfl,hname⟩ (Nat.le_of_ble_eq_true hb.1) (Nat.le_of_ble_eq_true hb.2.1) (Nat.le_of_ble_eq_true hb.2.2) h hE
            · cases h
          · cases h
        · cases h
      · cases h
    · have h:LD P [.fn (.method name) [] [],.i (t:Int)]=some r:=h
      unfold LD at h
      simp only at h
      split at h
      · rename_i f hf
        injection h with h;subst h
        simp only [V.c.injEq,Value.int.injEq,true_and]at hv
        have:=GV hf
        simp only [Int.toNat_natCast]at this
        rw [<-hv]
        simpa using this
      · cases h
def cV(o:Option CR):Option (V×List (Option Ob)×List Ob):=match o with
 |some r=>some (r.v,r.outs,r.obs)
 |none=>none
def cT(o:Option CR):CT:=match o with
 |some r=>r.e
 |none=>c0
theorem IQ{O:fG->fG}{P:Program}{T:List TI}(hT:aK T P)(hmx:P.follows .mixedOrders=true)(M:ML)(mu:List Nat)(hO:∀c,dg P c->dg P (O c)){f:FuncId}{args:List V}{ins:List Ob}{v:V}{outs:List (Option Ob)}{obs:List Ob}(h:cV (kJ O P T M mu 40 f args ins)=some (v,outs,obs))(hE:(cT (kJ O P T M mu 40 f args ins)).l=(cT (kJ O P T M mu 40 f args ins)).r)(hf9:Nat.beq f G1=false:=by rfl):AM P f args ins v outs obs:=by
 unfold cV at h;unfold cT at hE;split at h
 ·rename_i r hr;simp only [hr]at hE;injection h with h;injection h with h1 h2;injection h2 with h2 h3;subst h1 h2 h3;cases hm:Nat.beq f G1 with
  |false=>exact(oz hT hmx hO 40).1 f args ins r hm hr (Ag hE)
  |true=>rw [hm]at hf9;cases hf9
 ·cases h
theorem PA{P:Program}{T:List TI}(hT:aK T P)(hmx:P.follows .mixedOrders=true)(M:ML)(mu:List Nat)(hK:EH P mu){f:FuncId}{args:List V}{ins:List Ob}{v:V}{outs:List (Option Ob)}{obs:List Ob}(h:cV (ur P T M mu 40 f args ins)=some (v,outs,obs))(hE:(cT (ur P T M mu 40 f args ins)).l=(cT (ur P T M mu 40 f args ins)).r)(hf9:Nat.beq f G1=false:=by rfl):AM P f args ins v outs obs:=
 IQ hT hmx M mu (fun _=>Mx hK) h hE hf9
theorem Dd{P:Program}{T:List TI}(hT:aK T P)(hmx:P.follows .mixedOrders=true)(M:ML)(mu:List Nat){f:FuncId}{args:List V}{ins:List Ob}{v:V}{outs:List (Option Ob)}{obs:List Ob}(h:cV (ur P T M mu 40 f args ins)=some (v,outs,obs))(hE:(cT (ur P T M mu 40 f args ins)).l=(cT (ur P T M mu 40 f args ins)).r)(hm:(mu.all fun f=>Nat.ble f 999999)=true:=by decide)(hf9:Nat.beq f G1=false:=by rfl):AM P f args ins v outs obs:=PA hT hmx M mu (G8 hm) h hE hf9
theorem AM.ac{P:Program}{f:FuncId}{args:List V}{v:V}{obs:List Ob}(h:AM P f args [] v [] obs)(ho:obs.length<=400):AC P f args v obs:=by
 refine⟨h.1,fun L w vs hL hgl hv=> ?_⟩;refine(h.2 (fun b=>w.heap.size<=b) (fun b=>L b\/w.heap.size<=b) L w ρ0 vs (fun b hb=> .inr hb) (fun b hb hl=>by have:=hL b hl;omega) ⟨fun b hb=>⟨hL b hb,.inl hb⟩,fun b hb=>⟨hb,.inr hb⟩,(fun id o ho=>by unfold fm at ho;split at ho <;> simp at ho),(fun i j x y k _ _ _ hx=>by cases hx),hgl⟩ (fun _ _=>rfl) hv).mono ?_;rintro e w' ⟨x,rfl,ht,L',ρ',hG',hE',hx,hnn⟩;have eo:gy [] obs=mV obs:=by
  funext id;unfold gy mV;by_cases h5:500<=id;·rw [if_pos h5,show obs[id]?=none from List.getElem?_eq_none oM];simp
  ·rw [if_neg h5]
 rw [eo]at hG';exact⟨x,rfl,ht.below (Nat.le_refl _) fun j hj hW=>by have hW':w.heap.size<=j:=hW;omega,L',ρ',hG',fun b hb=>(hE'.l b hb).1,hx,fun j hj=>hnn j hj (by simp only [List.length_nil,Nat.add_zero];omega)⟩
theorem AC.am{P:Program}{f:FuncId}{args:List V}{v:V}(h:AC P f args v [])(ha:V.bA args=true)(hv:v.ck=true):AM P f args [] v [] []:=by
 refine⟨h.1,fun W LB L w ρ vs hwl hWL hG hρ hvs=> ?_⟩;refine(h.2 L w vs (fun b hb=>(hG.ll b hb).1) hG.gl (hvs.free ha)).mono ?_;rintro e w' ⟨x,rfl,hbel,L',ρ',hG',hL',hx,_⟩;obtain⟨Lx,hLx⟩:∃Lx:Nat->Prop,∀b,Lx b<->L b\/(L' b/\w.heap.size<=b):=⟨_,fun _=>Iff.rfl⟩;obtain⟨hG2,ex2⟩:=hG.quiet hbel (L':=Lx) (fun b hb=>(hLx b).2 (.inl hb)) (fun b hb=>by
  rcases(hLx b).1 hb with hb |hb;·exact .inl hb
  ·exact .inr ⟨hb.2,(hG'.ll b hb.1).1⟩)
 have eo:gy [] []=fm []:=by funext id;unfold gy fm;split <;> simp
 refine⟨x,rfl,aZ.gw hbel fun k _ hk=>(hG.new k hk).1,Lx,ρ,?_,ex2,?_,fun j _ hj=>hρ j hj⟩;·rw [eo];exact hG2
 ·have:=hx.free hv ρ;refine this.mono (fun b hb=>⟨(hLx b).2 ?_,rfl⟩) fun _ _ h=>h;rcases(hG'.ll b hb).2 with h |h;·exact .inl h
  ·exact .inr ⟨hb,h⟩
theorem sq{P:Program}:mE P []:=fun f k h=>by cases h
theorem eN{P:Program}{K:List (FuncId×List V×V)}{f0:FuncId}{a0:List V}{v0:V}(h0:AC P f0 a0 v0 [])(ha:V.bA a0=true)(hv:v0.ck=true)(h:mE P K):mE P ((f0,a0,v0)::K):=by
 intro f k hk;simp only [Pd]at hk;split at hk;·rename_i hb;injection hk with hk;subst hk;have:=Nat.eq_of_beq_eq_true hb;rw [this];exact h0.am ha hv
 ·exact h f k hk
end
end Go.Ab
