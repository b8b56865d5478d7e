/-
  Several texts in one: The step of an operation, kind by kind: the same function, cheaper to run. No condition. .. A region that draws its order, in a round of a range over a function: all its operations but the last few only read. The head is walked once, in the order of the text. No condition.
-/
import Derived.Test.YtjmbpjlojjgggaaGreatDoorX00
import Derived.Test.YtjmbpjlojjgggaaGreatDoorX01
import Derived.Test.YtjmbpjlojjgggaaGreatDoorX02
import Derived.Test.YtjmbpjlojjgggaaGreatDoorX03
import Derived.Test.YtjmbpjlojjgggaaGreatDoorMA
namespace Go.Ab
open Go.RowKit Go.Dw
def kS(v:V)(i:Nat):Option SR:=match v with
 | .tup cs=>match cs[i]? with
  |some v=>some (aG True v)
  |none=>none
 |_=>none
def JV(T:List TI)(wr:Bool)(op:BinOp)(t:Nat)(u v:V):Option SR:=match Dq wr op u v with
 |some (c,v)=>some (aG c v)
 |none=>Jr T op t u v
def RF(wr:Bool)(op:UnOp)(v:V):Option SR:=match op with
 | .not=>match v with
  | .c (.bool b)=>some (aG True (.b (!b)))
  |_=>none
 | .neg=>match v with
  | .c (.int k a)=>if wr then some (aG True (.c (.int k (k.wrap (0- a)))))else some (aG (yY k (-a)) (.c (.int k (-a))))
  |_=>none
 |_=>none
def OQ(T:List TI)(wr:Bool)(s t:Nat)(v:V):Option SR:=match v with
 | .c (.int _ a)=>match (T.getD t bA).kind with
  |some k=>if(T.getD s bA).some'=true then(if wr then some (aG True (.c (.int k (k.wrap a))))else some (aG (yY k a) (.c (.int k a))))else none
  |none=>none
 |_=>none
def GK(T:List TI)(s f:Nat)(v:V):Option SR:=match ((T.getD s bA).iV[f]?).join with
 |some off=>match v with
  | .ptr cs=>some (aG True (.ptr (cs.drop off)))
  | .ref id o=>some (aG True (.ref id (o+off)))
  | .oel id sz i o=>some (aG True (.oel id sz i (o+off)))
  |_=>none
 |none=>none
def GL(T:List TI)(t:Nat)(σ:Nat->Option Ob)(u v:V):Option SR:=match v with
 | .c (.int _ i)=>nq T t σ u i
 |_=>none
def M0(T:List TI)(M:List Nat)(nx:Nat)(d:Option Tmp)(e:Operand->V)(σ:Nat->Option Ob)(t:Nat)(x:Operand)(lo hi mx:Option Operand):Option SR:=match mx with
 |none=>qC T M nx d e σ t x lo hi
 |some _=>none
def MW(T:List TI)(nx:Nat)(d:Option Tmp)(t:Nat):Option SR:=match (T.getD t bA).zero with
 |some zs=>some ⟨True,.ref (nx*100000+d.getD 0) 0,[],[nx*100000+d.getD 0],[(nx*100000+d.getD 0,some (.box t zs))]⟩
 |none=>none
def QI(M:List Nat)(nx:Nat)(d:Option Tmp)(t:Nat)(v:V):Option SR:=match bY v with
 |some us=>if M.contains (d.getD 0)then some ⟨True,.ref (nx*100000+d.getD 0) 0,[],[nx*100000+d.getD 0],[(nx*100000+d.getD 0,some (.box t us))]⟩
  else if V.bq us=true then some (aG True (.ptr us))else none
 |none=>none
def MX(T:List TI)(t:Nat)(parts:List (Nat×V)):Option SR:=match (T.getD t bA).zero,(T.getD t bA).pl with
 |some zs,some pl=>match ij (pl[·]?) zs parts with
  |some us=>some (aG True (.agg us))
  |none=>none
 |_,_=>none
def JW(T:List TI)(M:List Nat)(nx:Nat)(d:Option Tmp)(t n:Nat)(parts:List (Nat×V)):Option SR:=match (T.getD t bA).elem with
 |some el=>match (T.getD el bA).zero,(T.getD el bA).size with
  |some zs,some sz=>match ij (fun i=>some (i*sz,sz)) (mO n zs) parts with
   |some cs=>if zs.length=sz/\0< sz/\n*sz<=4096/\cs.length=n*sz then(if M.contains (d.getD 0)then
    some ⟨True,.own (nx*100000+d.getD 0),[],[nx*100000+d.getD 0],[(nx*100000+d.getD 0,some (.row el sz n fun i=>(cs.drop (i*sz)).take sz))]⟩
    else if V.bq cs=true then some (aG True (.sl sz n fun i=>(cs.drop (i*sz)).take sz))else none)else none
   |none=>none
  |_,_=>none
 |none=>none
def OR(T:List TI)(nx:Nat)(d:Option Tmp)(t:Nat)(u v:V):Option SR:=match u,v with
 | .c (.int _ l),.c (.int _ c)=>match (T.getD t bA).elem with
  |some el=>match (T.getD el bA).zero,(T.getD el bA).size with
   |some zs,some sz=>if mK T el sz zs then some ⟨0<=l/\l<=c/\c<=1099511627776,.own (nx*100000+d.getD 0),[],[nx*100000+d.getD 0],[(nx*100000+d.getD 0,some (.row el sz l.toNat fun _=>zs))]⟩else none
   |_,_=>none
  |none=>none
 |_,_=>none
def QJ(T:List TI)(σ:Nat->Option Ob)(e:Operand->V)(c:Call):Option SR:=match c.args,c.argTypes with
 | ⟨[x]⟩,⟨[t]⟩=>B4 T t σ (e x)
 |_,_=>none
def QH(T:List TI)(nx:Nat)(d:Option Tmp)(ty:Nat)(σ:Nat->Option Ob)(e:Operand->V)(c:Call):Option SR:=match c.args,c.argTypes with
 | ⟨[s,x]⟩,⟨[t,t']⟩=>match mY T t (nx*100000+d.getD 0) σ (e s) (e x)with
  |some r=>if t'=t/\ty=t then some r else none
  |none=>none
 |_,_=>none
def QK(e:Operand->V)(c:Call):Option SR:=match c.args with
 | ⟨[x,y]⟩=>match e x,e y with
  | .c (.int k a),.c (.int k' b)=>if k=k' then some (aG True (.c (.int k (max a b))))else none
  |_,_=>none
 | ⟨[x,y,z]⟩=>match e x,e y,e z with
  | .c (.int k a),.c (.int k' b),.c (.int k'' q)=>if k=k'/\k=k'' then some (aG True (.c (.int k (max (max a b) q))))else none
  |_,_,_=>none
 | ⟨[x,y,z,u]⟩=>match e x,e y,e z,e u with
  | .c (.int k a),.c (.int k' b),.c (.int k'' q),.c (.int k3 p)=>if k=k'/\k=k''/\k=k3 then some (aG True (.c (.int k (max (max (max a b) q) p))))else none
  |_,_,_,_=>none
 |_=>none
def QL(e:Operand->V)(c:Call):Option SR:=match c.args with
 | ⟨[x,y]⟩=>match e x,e y with
  | .c (.int k a),.c (.int k' b)=>if k=k' then some (aG True (.c (.int k (min a b))))else none
  |_,_=>none
 |_=>none
def OP(T:List TI)(nx:Nat)(d:Option Tmp)(ty:Nat)(σ:Nat->Option Ob)(e:Operand->V)(c:Call):Option SR:=match c.callee with
 | .builtin .len=>QJ T σ e c
 | .builtin .append=>QH T nx d ty σ e c
 | .builtin .max=>QK e c
 | .builtin .min=>QL e c
 |_=>none
def z8(T:List TI)(wr:Bool)(M:List Nat)(nx:Nat)(o:Oper)(e:Operand->V)(σ:Nat->Option Ob):Option SR:=
 match o.op with
  | .move x=>some (aG True (e x))
  | .assign x=>some (aG True (e x))
  | .extract x i=>kS (e x) i
  | .binOp op t x y _=>JV T wr op t (e x) (e y)
  | .unOp op _ x=>RF wr op (e x)
  | .convert s t x=>OQ T wr s t (e x)
  | .fieldAddr s x f=>GK T s f (e x)
  | .indexAddr t x ix=>GL T t σ (e x) (e ix)
  | .load t x=>kT T t σ (e x)
  | .store t x y=>iS T t σ (e x) (e y)
  | .slice t x lo hi mx=>M0 T M nx o.dst e σ t x lo hi mx
  | .alloc t=>MW T nx o.dst t
  | .box t y=>QI M nx o.dst t (e y)
  | .build t parts=>MX T t (parts.toList.map fun p=>(p.1,e p.2))
  | .buildSlice t n parts=>JW T M nx o.dst t n (parts.toList.map fun p=>(p.1,e p.2))
  | .makeSlice t x y=>OR T nx o.dst t (e x) (e y)
  | .makeFunc f first caps=>some (aG True (.fn f (first.toList.map e) (caps.toList.map e)))
  | .call c=>OP T nx o.dst o.type σ e c
  |_=>none
theorem DY(T:List TI)(wr:Bool)(M:List Nat)(nx:Nat)(o:Oper)(e:Operand->V)(σ:Nat->Option Ob):z8 T wr M nx o e σ=Bw T wr M nx o e σ:=by
 obtain⟨d,op,ty,pos,af,gd⟩:=o;cases op <;> try rfl
 case unOp op t x=>cases op <;> rfl
def OO(T:List TI)(t:Nat)(u v:V):Option SR:=match u,v with
 | .agg cs,.c (.int _ i)=>match (T.getD t bA).arr with
  |some (n,el)=>match (T.getD el bA).size with
   |some sz=>match iN T el (cs.drop (i.toNat*sz))with
    |some v=>some (aG (0<=i/\i< n) v)
    |none=>none
   |none=>none
  |none=>none
 |_,_=>none
def JS(T:List TI)(t:Nat)(parts:List (Nat×V)):Option SR:=match (T.getD t bA).zero,(T.getD t bA).arr with
 |some zs,some (_,el)=>match (T.getD el bA).size with
  |some sz=>match ij (fun i=>some (i*sz,sz)) zs parts with
   |some us=>some (aG True (.agg us))
   |none=>none
  |none=>none
 |_,_=>none
def JU(T:List TI)(t:Nat)(v:V)(lo hi mx:Option Operand):Option SR:=match lo,hi,mx with
 |none,none,none=>match v,(T.getD t bA).arr with
  | .ptr cs,some (n,el)=>match (T.getD el bA).size with
   |some sz=>if cs.length=n*sz then some (aG True (.sl sz n fun i=>(cs.drop (i*sz)).take sz))else none
   |none=>none
  |_,_=>none
 |_,_,_=>none
def MV(T:List TI)(σ:Nat->Option Ob)(e:Operand->V)(c:Call):Option SR:=match c.args,c.argTypes with
 | ⟨[x,y]⟩,⟨[t,_]⟩=>match (T.getD t bA).elem with
  |some el=>if(T.getD el bA).size=some 1 then(match e x,e y with
   | .own id,.sl sz m row'=>match σ id with
    |some (.row e' sz' n row)=>if sz=1/\sz'=1 then some ⟨0< n/\0< m,.i ((min m n:Nat):Int),[(id,.row e' sz' n row)],[],[(id,some (.row e' sz' n fun j=>if j< min m n then row' j else row j))]⟩else none
    |_=>none
   |_,_=>none)else none
  |none=>none
 |_,_=>none
def QF(T:List TI)(t:Nat)(u v:V):Option SR:=match u,v with
 | .c (.bool a),.c (.bool b)=>if(T.getD t bA).sS=some 1000000 then some (aG True (.b (a == b)))else none
 | .c (.string a),.c (.string b)=>some (aG True (.b (a.toList == b.toList)))
 |u,.c (.pointer none)=>match oJ u with
  |some b=>if(T.getD t bA).sS=some 1000002 then some (aG True (.b b))else none
  |none=>none
 |_,_=>match (T.getD t bA).elem with
  |some _=>match Ea u v with
   |some (c,b)=>some (aG c (.b (b)))
   |none=>none
  |none=>none
def QG(T:List TI)(t:Nat)(u v:V):Option SR:=match u,v with
 | .c (.bool a),.c (.bool b)=>if(T.getD t bA).sS=some 1000000 then some (aG True (.b (!(a == b))))else none
 | .c (.string a),.c (.string b)=>some (aG True (.b (!(a.toList == b.toList))))
 |u,.c (.pointer none)=>match oJ u with
  |some b=>if(T.getD t bA).sS=some 1000002 then some (aG True (.b (!b)))else none
  |none=>none
 |_,_=>match (T.getD t bA).elem with
  |some _=>match Ea u v with
   |some (c,b)=>some (aG c (.b (!b)))
   |none=>none
  |none=>none
def ON(T:List TI)(op:BinOp)(t:Nat)(u v:V):Option SR:=match op with
 | .eql=>QF T t u v
 | .neq=>QG T t u v
 |_=>none
def MU(T:List TI)(σ:Nat->Option Ob)(e:Operand->V)(c:Call):Option SR:=match c.callee with
 | .builtin .copy=>MV T σ e c
 |_=>none
def pH(v:V):Option SR:=match v.t9 with
 |true=>some (aG True v)
 |false=>none
def vw(T:List TI)(o:Oper)(e:Operand->V)(σ:Nat->Option Ob):Option SR:=
 match o.op with
  | .index t x ix=>OO T t (e x) (e ix)
  | .build t parts=>JS T t (parts.toList.map fun p=>(p.1,e p.2))
  | .slice t x lo hi mx=>JU T t (e x) lo hi mx
  | .call c=>MU T σ e c
  | .nilCheck x=>pH (e x)
  | .binOp op t x y _=>ON T op t (e x) (e y)
  |_=>none
theorem DZ(T:List TI)(o:Oper)(e:Operand->V)(σ:Nat->Option Ob):vw T o e σ=uP T o e σ:=by
 obtain⟨d,op,ty,pos,af,gd⟩:=o;cases op <;> try rfl
 case binOp op t x y t'=>cases op <;> rfl
 case slice t x lo hi mx=>cases lo <;> cases hi <;> cases mx <;> rfl
 case nilCheck x=>
  show pH (e x)=if(e x).t9=true then some (aG True (e x))else none
  unfold pH
  cases (e x).t9 <;> rfl
def pI(T:List TI)(wr:Bool)(M:List Nat)(nx:Nat)(o:Oper)(e:Operand->V)(σ:Nat->Option Ob):Option SR:=
 match z8 T wr M nx o e σ with
  |some r=>some r
  |none=>match vw T o e σ with
   |some r=>some r
   |none=>match uR T nx o e σ with
    |some r=>some r
    |none=>uT T o e
theorem GP(T:List TI)(wr:Bool)(M:List Nat)(nx:Nat)(o:Oper)(e:Operand->V)(σ:Nat->Option Ob):pI T wr M nx o e σ=kF T wr M nx o e σ:=by unfold pI kF;rw [DY,DZ];rfl
def RI(wr:Bool)(op:BinOp)(k:IntKind)(a b:Int):PQ:=match op with
 | .add=>match wr with |true=> .tt |false=>vt k (a+b)
 | .sub=>match wr with |true=> .tt |false=>vt k (a- b)
 | .mul=>match wr with |true=> .tt |false=>vt k (a*b)
 | .quo=>match wr with |true=> .ne b 0 |false=> .and (.lt 0 b) (vt k a)
 | .rem=> .ne b 0
 | .shl=>match wr with |true=> .le 0 b |false=> .and (.le 0 b) (.and (.le b k.bits) (vt k (a*2 ^ b.toNat)))
 | .shr=> .le 0 b
 |_=> .tt
def QY(wr:Bool)(op:BinOp)(u v:V):PQ:=match u,v with
 | .c (.int k a),.c (.int _ b)=>RI wr op k a b
 | .sl _ n _,.nil=> .nlt 0 n
 | .nil,.sl _ n _=> .nlt 0 n
 |_,_=> .tt
def Q0(wr:Bool)(v:V):PQ:=match v with
 | .c (.int k a)=>match wr with |true=> .tt |false=>vt k (-a)
 |_=> .tt
def O8(T:List TI)(wr:Bool)(t:Nat)(v:V):PQ:=match v with
 | .c (.int _ a)=>match (T.getD t bA).kind with
  |some k=>match wr with |true=> .tt |false=>vt k a
  |none=> .tt
 |_=> .tt
def Ei(T:List TI)(t:Nat)(i:Int):PQ:=match (T.getD t bA).arr with
 |some (n,_)=>JP i n
 |none=> .tt
def Km(T:List TI)(t:Nat)(σ:Nat->Option Ob)(u v:V):PQ:=match v with
 | .c (.int _ i)=>match u with
  | .sl _ n _=>JP i n
  | .own id=>match σ id with
   |some (.row _ _ n _)=>JP i n
   |_=> .tt
  |_=>Ei T t i
 |_=> .tt
def QZ(T:List TI)(t:Nat)(u v:V):PQ:=match v with
 | .c (.int _ i)=>match u with
  | .c (.string b)=>JP i b.size
  |_=>Ei T t i
 |_=> .tt
def Cn(σ:Nat->Option Ob)(v:V):PQ:=match v with
 | .ref id o=>match σ id with
  |some (.box _ cs)=> .nle o cs.length
  |_=> .tt
 | .oel id _ i o=>match σ id with
  |some (.row _ _ n row)=> .and (.nlt i n) (.nle o (row i).length)
  |_=> .tt
 |_=> .tt
def vH(σ:Nat->Option Ob)(u v:V):PQ:=match bY v with
 |some us=>match u with
  | .ref id o=>match σ id with
   |some (.box _ cs)=> .nle (o+us.length) cs.length
   |_=> .tt
  | .oel id _ i o=>match σ id with
   |some (.row _ _ n row)=> .and (.nlt i n) (.nle (o+us.length) (row i).length)
   |_=> .tt
  |_=> .tt
 |none=> .tt
def Nj(σ:Nat->Option Ob)(e:Operand->V)(v:V)(lo hi:Option Operand):PQ:=match v with
 | .sl _ n _=>N7 e lo hi n false
 | .own id=>match σ id with
  |some (.row _ _ n _)=>N7 e lo hi n true
  |_=> .tt
 | .c (.string b)=>N7 e lo hi b.size false
 |_=> .tt
def Pb(u v:V):PQ:=match u,v with
 | .c (.int _ l),.c (.int _ c)=> .and (.le 0 l) (.and (.le l c) (.le c 1099511627776))
 |_,_=> .tt
def QX(σ:Nat->Option Ob)(e:Operand->V)(c:Call):PQ:=match c.args with
 | ⟨[s,x]⟩=>match e x with
  | .sl _ m _=>match e s with
   | .nil=> .nle m 1099511627776
   | .own id=>match σ id with
    |some (.row _ _ n _)=> .nle (n+m) 1099511627776
    |_=> .tt
   |_=> .tt
  | .own id1=>match σ id1 with
   |some (.row _ _ m _)=>match e s with
    | .nil=> .nle m 1099511627776
    | .own id=>match σ id with
     |some (.row _ _ n _)=> .nle (n+m) 1099511627776
     |_=> .tt
    |_=> .tt
   |_=> .tt
  |_=> .tt
 |_=> .tt
def O9(σ:Nat->Option Ob)(e:Operand->V)(c:Call):PQ:=match c.args with
 | ⟨[x,y]⟩=>match e x,e y with
  | .own id,.sl _ m _=>match σ id with
   |some (.row _ _ n _)=> .and (.nlt 0 n) (.nlt 0 m)
   |_=> .tt
  |_,_=> .tt
 |_=> .tt
def O7(σ:Nat->Option Ob)(e:Operand->V)(c:Call):PQ:=match c.callee with
 | .builtin .append=>QX σ e c
 | .builtin .copy=>O9 σ e c
 |_=> .tt
def Pa(T:List TI)(t:Nat)(σ:Nat->Option Ob)(u v:V):PQ:=match pJ T t,u,D7 v with
 |some (_,et),.own id,some key=>match σ id with
  |some (.mp _ f)=>match Ir T et with
   |some vz=>match (T.getD et bA).kind with
    |some _=> .re (nE f key vz)
    |none=> .tt
   |none=> .tt
  |_=> .tt
 |_,_,_=> .tt
def Co(T:List TI)(wr:Bool)(o:Oper)(e:Operand->V)(σ:Nat->Option Ob):PQ:=
 match o.op with
  | .binOp op _ x y _=>QY wr op (e x) (e y)
  | .unOp .neg _ x=>Q0 wr (e x)
  | .convert _ t x=>O8 T wr t (e x)
  | .indexAddr t x ix=>Km T t σ (e x) (e ix)
  | .index t x ix=>QZ T t (e x) (e ix)
  | .load _ x=>Cn σ (e x)
  | .store _ x y=>vH σ (e x) (e y)
  | .slice _ x lo hi none=>Nj σ e (e x) lo hi
  | .makeSlice _ x y=>Pb (e x) (e y)
  | .lookup t m k _=>Pa T t σ (e m) (e k)
  | .call c=>O7 σ e c
  |_=> .tt
def P4(id:Nat)(v0:V):Ob->Ob->Prop
 | .box t cs,.box t' cs'=>t=t'/\(cs'=V.ng id v0 cs\/cs'=cs)
 | .row e sz n f,.row e' sz' n' f'=>e=e'/\sz=sz'/\n=n'/\∀i,i< n->f' i=V.ng id v0 (f i)\/f' i=f i
 | .mp s f,.mp s' f'=>s=s'/\(f'=f.map (V.fz id v0)\/f'=f)
 |_,_=>False
theorem K1{w:World}{L:Nat->Prop}{ρ:Nat->Option Value}{id:Nat}{v0:V}(h0:∀y,ρ id=some y->R w L ρ v0 y){us:List V}{xs:List Value}(h:RL w L ρ us xs):RL w L ρ (V.ng id v0 us) xs:=by
 refine⟨by rw [<-h.1,V.eR],fun i u x hu hx=> ?_⟩;rw [V.fY]at hu;cases hc:us[i]? with
 |none=>rw [hc]at hu;cases hu
 |some u'=>rw [hc]at hu;injection hu with hu;subst hu;obtain⟨q1,q2⟩:=h.2 i u' x hc hx;exact⟨mz h0 _ _ q1,q2⟩
theorem Real.z{W L:Nat->Prop}{w:World}{ρ:Nat->Option Value}{id j:Nat}{v0:V}{o o':Ob}(h0:∀y,ρ id=some y->R w L ρ v0 y)(h:Real W w L ρ j o)(hz:P4 id v0 o o'):Real W w L ρ j o':=by
 cases o with
 |box t cs=>
  cases o' with
  |box t' cs'=>
   obtain⟨rfl,rfl |rfl⟩:=hz;·obtain⟨b,xs,h1,h2,h3,h4,h5⟩:=h;exact⟨b,xs,h1,h2,h3,h4,K1 h0 h5⟩
   ·exact h
  |row _ _ _ _=>exact hz.elim
  |mp _ _=>exact hz.elim
 |row e sz n f=>
  cases o' with
  |row e' sz' n' f'=>
   obtain⟨rfl,rfl,rfl,hf⟩:=hz;obtain⟨v,xs,h1,h2,h3,h4,h5⟩:=h;have hlen:∀i,i< n->(f' i).length=(f i).length:=fun i hi=>by
    rcases hf i hi with e |e <;> rw [e]
    exact V.eR _ _ _
   refine⟨v,xs,h1,h2,fun i hi=>(hlen i hi).trans (h3 i hi),?_,h5⟩;have key:∀(m:Nat),m<=n->∀xs,RL w L ρ (aE m f).flatten xs->RL w L ρ (aE m f').flatten xs:=by
    intro m;induction m with
    |zero=>intro _ xs h;exact h
    |succ m ih=>
     intro hm xs h;have e1:∀g:Nat->List V,(aE (m+1) g).flatten=(aE m g).flatten++g m:=fun g=>by simp [aE,List.range_succ]
     rw [e1]at h ⊢;have hl:=h.1;rw [List.length_append]at hl;have ex:xs=xs.take (aE m f).flatten.length++xs.drop (aE m f).flatten.length:=by simp
     have ha:RL w L ρ (aE m f).flatten (xs.take (aE m f).flatten.length):=by have:=h.sub 0 (aE m f).flatten.length;simpa using this
     have hb:RL w L ρ (f m) (xs.drop (aE m f).flatten.length):=by have:=h.sub (aE m f).flatten.length (f m).length;rw [List.drop_left,List.take_length,List.take_of_length_le (by rw [List.length_drop];omega)]at this;exact this
     rw [ex];refine(ih oM _ ha).append ?_;rcases hf m oM with e |e <;> rw [e]
     ·exact K1 h0 hb
     ·exact hb
   exact key n (Nat.le_refl _) xs h4
  |box _ _=>exact hz.elim
  |mp _ _=>exact hz.elim
 |mp s f=>
  cases o' with
  |mp s' f'=>
   obtain⟨rfl,rfl |rfl⟩:=hz;·obtain⟨B,es,cl,hv',hBW,hBL,hh,hl⟩:=h;exact⟨B,es,cl,hv',hBW,hBL,hh,hl.OV (fun v=>by rw [V.fz]) fun i u x _ hr=>mz h0 _ _ hr⟩
   ·exact h
  |box _ _=>exact hz.elim
  |row _ _ _ _=>exact hz.elim
theorem Le.RE{s:S}(id:Nat){ob:Ob}(hσ:s.σ id=some ob)(v0:V){σ':Nat->Option Ob}(hs:∀i o',σ' i=some o'->i≠id/\∃o,s.σ i=some o/\P4 id v0 o o') (h0:∀(W:Nat->Prop) (w:World) (L:Nat->Prop) (ρ:Nat->Option Value),Real W w L ρ id ob->∀y,ρ id=some y->R w (fun b=>L b\/blk y=some b) ρ v0 y):Le s ⟨fun t=>V.fz id v0 (s.tm t),σ',s.nx⟩:=by
 intro P N C a w ⟨L,ρ,h⟩;have hr:=h.g.ob id _ hσ;obtain⟨v,hv,hlt⟩:=hr.lt;have ex:Ext w L ρ w (fun b=>L b\/blk v=some b) ρ:=⟨fun b hb=>⟨.inl hb,rfl⟩,fun _ _ h=>h⟩;have h0':∀y,ρ id=some y->R w (fun b=>L b\/blk v=some b) ρ v0 y:=fun y hy=>by
  have hy':=hy;rw [hv]at hy';injection hy' with hy';subst hy'
  exact h0 _ _ _ _ hr _ hy
 refine⟨fun b=>L b\/blk v=some b,ρ,⟨⟨fun b hbl=> ?_,h.g.new,fun id' o' (ho:σ' id'=some o')=> ?_,fun i j x y k hij (hi:σ' i≠none) (hj:σ' j≠none)=> ?_,h.g.rH ex⟩,h.fr,fun t=>mz h0' _ _ ((h.tm t).ext ex),h.size,?_,h.pin⟩⟩
 ·rcases hbl with hbl |hbl;·exact h.g.ll b hbl
  ·exact⟨(hlt b hbl).1,C.wl b (hlt b hbl).2.1⟩
 ·obtain⟨hne,o,ho',hz⟩:=hs id' o' ho;have k:=(h.g.ob id' o ho').keep ex fun x k hx hk=>⟨rfl,by
   rintro(hL |hL)
   ·obtain⟨y,hy,hy2⟩:=(h.g.ob id' o ho').lt;rw [hx]at hy;injection hy with hy;subst hy
    exact(hy2 k hk).2.2 hL
   ·exact h.g.sep id' id x v k hne (by rw [ho'];simp) (by rw [hσ];simp) hx hv hk hL⟩
  exact k.z h0' hz
 ·obtain⟨o1,ho1⟩:=Option.ne_none_iff_exists'.1 hi;obtain⟨o2,ho2⟩:=Option.ne_none_iff_exists'.1 hj;obtain⟨_,p1,hp1,_⟩:=hs i o1 ho1;obtain⟨_,p2,hp2,_⟩:=hs j o2 ho2;exact h.g.sep i j x y k hij (by rw [hp1];simp) (by rw [hp2];simp)
 ·obtain⟨Ds,h4,h5,h6⟩:=h.defers;refine⟨Ds,h4,h5,fun D hD=> ?_⟩;obtain⟨h7,h8,h9⟩:=h6 D hD;refine⟨h7,h8,?_⟩;rintro(hL |hL);·exact h9 hL
  ·exact hr.gE hv hL h7
theorem Fs{P:Program}{W LB:Nat->Prop}{d:Option Tmp}{ty:TypeId}{pos:String}{af:Array Edge}{gd:Option (Nat×Bool)}{ev:Operand->V}(t t':TypeId)(x y:Operand){e0 sz n id el:Nat}{row:Nat->List V}(he:c9 P t=some el)(hx:ev x= .own id)(hy:ev y= .nil)(hn:0< n) : aS P W LB ⟨d,.binOp .eql t x y t',ty,pos,af,gd⟩ ev (.b false) [(id,.row e0 sz n row)] [] []/\aS P W LB ⟨d,.binOp .neq t x y t',ty,pos,af,gd⟩ ev (.b true) [(id,.row e0 sz n row)] [] []:=by
 have hu:=bF he;have run:∀w A c',(Op.equalIn Op.maxDepth t (.slice (some A) n c') (.slice none 0 0)).run P w= .ok false w:=by intro w A c';show(Op.equalIn (_+1) t _ _).run P w=_;unfold Op.equalIn;simp [az hu]
 have key:∀ {σ:Nat->Option Ob}{w:World}{L:Nat->Prop}{ρ:Nat->Option Value}{g:Operand->Value},G W LB σ w L ρ->R w L ρ (ev x) (g x)->R w L ρ (ev y) (g y)->σ id=some (.row e0 sz n row)->∃A c',g x= .slice (some A) n c'/\g y= .slice none 0 0:=by
  intro σ w L ρ g hG h1 h2 hσ;rw [hx]at h1;rw [hy]at h2;have hρ:=h1.cS;obtain⟨v,xs,hv,hown,_⟩:=hG.ob id _ hσ;rw [hρ]at hv;injection hv with hv
  rcases hown.2 with⟨_,h0⟩ | ⟨g',cap,cur,h3,_⟩;·omega
  ·refine⟨_,_,hv.trans h3,?_⟩;generalize g y=Y at h2;cases h2;rfl
 constructor;·intro σ w L ρ g hG hr hpre _;obtain⟨A,c',e1,e2⟩:=key hG (hr x (by simp [Op.operands])) (hr y (by simp [Op.operands])) (hpre _ (List.mem_cons_self ..));exact aW.value (v:= .bool false) (w':=w) rfl (by simp [execOp,e1,e2,eqGuard,binOp,Op.equal,run w A c']) ⟨L,ρ,hG,.c _ _,aZ.refl _ _,Ext.refl _ _ _,fun _ _=>rfl,dA.refl _ _⟩
 ·intro σ w L ρ g hG hr hpre _;obtain⟨A,c',e1,e2⟩:=key hG (hr x (by simp [Op.operands])) (hr y (by simp [Op.operands])) (hpre _ (List.mem_cons_self ..));exact aW.value (v:= .bool true) (w':=w) rfl (by simp [execOp,e1,e2,eqGuard,binOp,Op.equal,run w A c']) ⟨L,ρ,hG,.c _ _,aZ.refl _ _,Ext.refl _ _ _,fun _ _=>rfl,dA.refl _ _⟩
theorem Fj{P:Program}{d:Option Tmp}{ty:TypeId}{pos:String}{af:Array Edge}{gd:Option (Nat×Bool)}{ev:Operand->V}(t:Nat)(x:Operand)(h:lu P t=some true):aD P ⟨d,.makeInterface t x,ty,pos,af,gd⟩ ev (.ifc t (ev x)):= aD.same rfl fun w L ρ g hr=>by
 have h1:=hr x (by simp [Op.operands]);refine⟨.iface t (g x),?_,.ifc _ _ _ _ h1⟩;unfold lu at h;cases hu:P.underlying t with
 |none=>rw [hu]at h;cases h
 |some u=>
  rw [hu]at h;have hr':=fun w=>az (w:=w) hu;cases u <;> first
   | (simp at h;done)
   |simp [execOp,Instr.makeInterface,hr']
theorem Db{P:Program}{d:Option Tmp}{ty:TypeId}{pos:String}{af:Array Edge}{gd:Option (Nat×Bool)}{ev:Operand->V}(x:Operand){t:Nat}{v:V}(hx:ev x= .ifc t v):aD P ⟨d,.nilCheck x,ty,pos,af,gd⟩ ev (.ifc t v):= aD.same rfl fun w L ρ g hr=>by
 have h1:=hr x (by simp [Op.operands]);rw [hx]at h1;have h2:∃y,g x= .iface t y:=by generalize g x=y at h1;cases h1;exact⟨_,rfl⟩
 refine⟨g x,?_,h1⟩;obtain⟨y,hy⟩:=h2;simp [execOp,hy]
def wo(P:Program)(name:String)(t:Nat)(f:FuncId):Prop:=∀(v:Value) (w:World),(method (P.types.size+Made.depth) t v name).run P w= .ok (f,v) w
def G9(P:Program)(name:String)(t:Nat):Option FuncId:=match P.info? t with
 |some i=>match i.methods.find? (·.name == name)with
  |some m=>match m.path.toList with
   | []=>match m.func with
    |some (f,false)=>match lu P t with
     |some true=>some f
     |_=>none
    |_=>none
   |_::_=>none
  |none=>none
 |none=>none
theorem Hf{P:Program}{name:String}{t:Nat}{f:FuncId}(h:G9 P name t=some f):wo P name t f:=by
 intro v w;unfold G9 at h;split at h
 ·rename_i i hi;split at h
  ·rename_i m hm;split at h
   ·rename_i hp;split at h
    ·rename_i f' hf;split at h
     ·rename_i ha;injection h with h;subst h;have hti:(typeInfo t).run P w= .ok i w:=by simp [typeInfo,go_sem,hi]
      unfold lu at ha;cases hu:P.underlying t with
      |none=>rw [hu]at ha;cases ha
      |some u=>
       rw [hu]at ha;have hr':=fun w=>az (w:=w) hu;show(method ((P.types.size+99)+1) t v name).run P w=_;unfold method;cases u <;> first
        | (simp at ha;done)
        |simp [hti,hm,hp,hf,follow,receiverAt,hr',Place.get]
     ·cases h
    ·cases h
   ·cases h
  ·cases h
 ·cases h
noncomputable section
inductive TR where
  |e
  |n (v:V) (l r:TR)
def TR.get:TR->Nat->V:=TR.rec (motive:=fun _=>Nat->V) (fun _=> .any) (fun v _ _ gl gr t=>Nat.rec (motive:=fun _=>V) v (fun t' _=>Bool.rec (motive:=fun _=>V) (gr (Nat.div t' 2)) (gl (Nat.div t' 2)) (Nat.beq (Nat.mod t' 2) 0)) t)
def TR.put:Nat->TR->Nat->V->TR:=Nat.rec (motive:=fun _=>TR->Nat->V->TR) (fun tr _ _=>tr) (fun _ ih tr t v=>TR.rec (motive:=fun _=>TR)
 (Nat.rec (motive:=fun _=>TR) (.n v .e .e) (fun t' _=>Bool.rec (motive:=fun _=>TR) (.n .any .e (ih .e (Nat.div t' 2) v)) (.n .any (ih .e (Nat.div t' 2) v) .e) (Nat.beq (Nat.mod t' 2) 0)) t)
 (fun u l r _ _=>Nat.rec (motive:=fun _=>TR) (.n v l r) (fun t' _=>Bool.rec (motive:=fun _=>TR) (.n u l (ih r (Nat.div t' 2) v)) (.n u (ih l (Nat.div t' 2) v) r) (Nat.beq (Nat.mod t' 2) 0)) t) tr)
theorem TR.jj(t:Nat):TR.get .e t= .any:=rfl
theorem TR.mb(v:V)(l r:TR):TR.get (.n v l r) 0=v:=rfl
theorem uW(t:Nat):Nat.beq (Nat.mod t 2) 0=decide (t% 2=0):=by show Nat.beq (t% 2) 0=_;rcases Nat.mod_two_eq_zero_or_one t with h |h <;> rw [h] <;> rfl
theorem TR.kO(v:V)(l r:TR)(t:Nat):TR.get (.n v l r) (t+1)=if t% 2=0 then l.get (t / 2)else r.get (t / 2):=by
 show Bool.rec (motive:=fun _=>V) (r.get (Nat.div t 2)) (l.get (Nat.div t 2)) (Nat.beq (Nat.mod t 2) 0)=_;rw [uW];by_cases h:t% 2=0;·rw [if_pos h,decide_eq_true h];rfl
 ·rw [if_neg h,decide_eq_false h];rfl
theorem TR.Nd(d:Nat)(v:V):TR.put (d+1) .e 0 v= .n v .e .e:=rfl
theorem TR.Ng(d:Nat)(u:V)(l r:TR)(v:V):TR.put (d+1) (.n u l r) 0 v= .n v l r:=rfl
theorem TR.Nf(d:Nat)(t:Nat)(v:V):TR.put (d+1) .e (t+1) v=if t% 2=0 then .n .any (TR.put d .e (t / 2) v) .e else .n .any .e (TR.put d .e (t / 2) v):=by
 show Bool.rec (motive:=fun _=>TR) _ _ (Nat.beq (Nat.mod t 2) 0)=_;rw [uW];by_cases h:t% 2=0;·rw [if_pos h,decide_eq_true h];rfl
 ·rw [if_neg h,decide_eq_false h];rfl
theorem TR.Nh(d:Nat)(u:V)(l r:TR)(t:Nat)(v:V):TR.put (d+1) (.n u l r) (t+1) v=if t% 2=0 then .n u (TR.put d l (t / 2) v) r else .n u l (TR.put d r (t / 2) v):=by
 show Bool.rec (motive:=fun _=>TR) _ _ (Nat.beq (Nat.mod t 2) 0)=_;rw [uW];by_cases h:t% 2=0;·rw [if_pos h,decide_eq_true h];rfl
 ·rw [if_neg h,decide_eq_false h];rfl
theorem TR.nM:∀(d:Nat) (tr:TR) (t t':Nat) (v:V),t+1< 2 ^ d->(TR.put d tr t v).get t'=if t'=t then v else tr.get t'
  |0,_,t,_,_,h=>by simp at h
  |d+1,.e,0,t',v,h=>by
    rw [TR.Nd]
    cases t' with
    |zero=>rw [TR.mb,if_pos rfl]
    |succ t'=>rw [TR.kO,TR.jj,TR.jj,if_neg (by omega:¬t'+1=0)];split <;> rfl
  |d+1,.n u l r,0,t',v,h=>by
    rw [TR.Ng]
    cases t' with
    |zero=>rw [TR.mb,if_pos rfl]
    |succ t'=>rw [TR.kO,TR.kO,if_neg (by omega:¬t'+1=0)]
  |d+1,.e,t+1,t',v,h=>by
    have hd:t / 2+1< 2 ^ d:=by rw [Nat.pow_succ]at h;omega
    rw [TR.Nf]
    by_cases hm:t% 2=0
    · rw [if_pos hm]
      cases t' with
      |zero=>rw [TR.mb,if_neg oM,TR.jj]
      |succ t'=>
        rw [TR.kO,TR.jj,TR.jj,TR.nM d .e _ _ _ hd,TR.jj]
        by_cases he:t'=t
        · subst he;rw [if_pos hm,if_pos rfl,if_pos rfl]
        · rw [if_neg (by omega:¬t'+1=t+1)]
          split
          · rw [if_neg oM]
          · rfl
    · rw [if_neg hm]
      cases t' with
      |zero=>rw [TR.mb,if_neg oM,TR.jj]
      |succ t'=>
        rw [TR.kO,TR.jj,TR.jj,TR.nM d .e _ _ _ hd,TR.jj]
        by_cases he:t'=t
        · subst he;rw [if_neg hm,if_pos rfl,if_pos rfl]
        · rw [if_neg (by omega:¬t'+1=t+1)]
          split
          · rfl
          · rw [if_neg oM]
  |d+1,.n u l r,t+1,t',v,h=>by
    have hd:t / 2+1< 2 ^ d:=by rw [Nat.pow_succ]at h;omega
    rw [TR.Nh]
    by_cases hm:t% 2=0
    · rw [if_pos hm]
      cases t' with
      |zero=>rw [TR.mb,TR.mb,if_neg oM]
      |succ t'=>
        rw [TR.kO,TR.kO,TR.nM d l _ _ _ hd]
        by_cases he:t'=t
        · subst he;rw [if_pos hm,if_pos rfl,if_pos rfl]
        · rw [if_neg (by omega:¬t'+1=t+1)]
          split
          · rw [if_neg oM]
          · rfl
    · rw [if_neg hm]
      cases t' with
      |zero=>rw [TR.mb,TR.mb,if_neg oM]
      |succ t'=>
        rw [TR.kO,TR.kO,TR.nM d r _ _ _ hd]
        by_cases he:t'=t
        · subst he;rw [if_neg hm,if_pos rfl,if_pos rfl]
        · rw [if_neg (by omega:¬t'+1=t+1)]
          split
          · rfl
          · rw [if_neg oM]
theorem TR.jO{tr:TR}{t:Nat}{v:V}(h:t< 1000):(TR.put 10 tr t v).get=bL tr.get t v:=by funext t';rw [TR.nM 10 tr t t' v oM];rfl
def fQ:List (Nat×Option Ob)->Nat->Option Ob
 | [],_=>none
 | (k,o)::l,i=>match Nat.beq i k with
  |true=>o
  |false=>fQ l i
def DF:List (Nat×Option Ob)->Nat->List (Nat×Option Ob)
 | [],_=>[]
 | (k',o')::l,k=>match Nat.beq k k' with
  |true=>DF l k
  |false=>(k',o')::DF l k
def H7:List (Nat×Option Ob)->Nat->Option Ob->List (Nat×Option Ob)
 | [],k,o=>[(k,o)]
 | (k',o')::l,k,o=>match Nat.beq k k' with
  |true=>(k,o)::l
  |false=>(k',o')::H7 l k o
def Nc(l:List (Nat×Option Ob))(k:Nat)(o:Option Ob):List (Nat×Option Ob):=match o with
 |none=>DF l k
 |some o=>H7 l k (some o)
theorem Ac:∀(l:List (Nat×Option Ob)) (k i:Nat),fQ (DF l k) i=if i=k then none else fQ l i
 | [],k,i=>by simp only [DF,fQ];split <;> rfl
 | (k',o')::l,k,i=>by
  simp only [DF];split
  ·rename_i h;have h:=Nat.eq_of_beq_eq_true h;subst h;rw [Ac l k i];simp only [fQ];split;·rfl
   ·rename_i h2;split;·rename_i h3;exact absurd (Nat.eq_of_beq_eq_true h3) h2
    ·rfl
  ·rename_i h;have h:=Nat.ne_of_beq_eq_false h;simp only [fQ];split;·rename_i h2;have h2:=Nat.eq_of_beq_eq_true h2;rw [if_neg oM]
   ·exact Ac l k i
theorem GX:∀(l:List (Nat×Option Ob)) (k:Nat) (o:Option Ob) (i:Nat),fQ (H7 l k o) i=if i=k then o else fQ l i
 | [],k,o,i=>by
  simp only [H7,fQ];split;·rename_i h;rw [if_pos (Nat.eq_of_beq_eq_true h)]
  ·rename_i h;rw [if_neg (Nat.ne_of_beq_eq_false h)]
 | (k',o')::l,k,o,i=>by
  simp only [H7];split
  ·rename_i h;have h:=Nat.eq_of_beq_eq_true h;subst h;simp only [fQ];split;·rename_i h;rw [if_pos (Nat.eq_of_beq_eq_true h)]
   ·rename_i h;rw [if_neg (Nat.ne_of_beq_eq_false h)]
  ·rename_i h;have h:=Nat.ne_of_beq_eq_false h;simp only [fQ];split;·rename_i h2;have h2:=Nat.eq_of_beq_eq_true h2;rw [if_neg oM]
   ·exact GX l k o i
theorem M4(l:List (Nat×Option Ob))(k:Nat)(o:Option Ob)(i:Nat):fQ (Nc l k o) i=if i=k then o else fQ l i:=by
 cases o with
 |none=>exact Ac l k i
 |some o=>exact GX l k (some o) i
theorem J4(l:List (Nat×Option Ob))(k:Nat)(o:Option Ob):fQ (Nc l k o)=bL (fQ l) k o:=by funext i;exact M4 l k o i
def Cm:List (Nat×Option Ob)->List (Nat×Option Ob)->List (Nat×Option Ob)
 |l,[]=>l
 |l,(k,o)::δ=>Cm (Nc l k o) δ
theorem xQ:∀(δ l:List (Nat×Option Ob)),fQ (Cm l δ)=bz (fQ l) δ
 | [],l=>rfl
 | (k,o)::δ,l=>by rw [Cm,xQ,J4,bz]
structure CS where
  tr:TR
  sl:List (Nat×Option Ob)
  nx:Nat
def CS.den(s:CS):S:=⟨s.tr.get,fQ s.sl,s.nx⟩
def O6(tr:TR)(d:Option Tmp)(v:V):TR:=match d with
 |some t=>TR.put 10 tr t v
 |none=>tr
theorem HK{tr:TR}{d:Option Tmp}{v:V}(h:∀t,d=some t->t< 1000):(O6 tr d v).get=eO tr.get d v:=by
 cases d with
 |none=>rfl
 |some t=>exact TR.jO (h t rfl)
inductive CT where
  |lf (l:List (CE×CE))
  |nd (a b:CT)
inductive CU where
  |lf (l:List CE)
  |nd (a b:CU)
def CT.l:CT->CU
 | .lf l=> .lf (l.map Prod.fst)
 | .nd a b=> .nd a.l b.l
def CT.r:CT->CU
 | .lf l=> .lf (l.map Prod.snd)
 | .nd a b=> .nd a.r b.r
def j8:CT->Prop
 | .lf l=>iI l
 | .nd a b=>j8 a/\j8 b
theorem zS:∀ {t:CT},t.l=t.r->j8 t
 | .lf l,h=>by simp only [CT.l,CT.r,CU.lf.injEq]at h;exact vj h
 | .nd a b,h=>by simp only [CT.l,CT.r,CU.nd.injEq]at h;exact⟨zS h.1,zS h.2⟩
mutual
def V.ids:V->List Nat
 | .agg cs=>V.ot cs
 | .tup cs=>V.ot cs
 | .fn _ a b=>V.ot a++V.ot b
 | .ifc _ v=>v.ids
 | .gd _ v=>v.ids
 | .alt _ v u=>v.ids++u.ids
 | .own i=>[i]
 | .ref i _=>[i]
 | .oel i _ _ _=>[i]
 | .osl i _ _ _=>[i]
 |_=>[]
def V.ot:List V->List Nat
 | []=>[]
 |v::l=>v.ids++V.ot l
end
def jJ:List Nat->Nat->Bool
 | [],_=>false
 |k::l,i=>match Nat.beq i k with
  |true=>true
  |false=>jJ l i
def MN:List (List V)->List Nat->List Nat
 | [],t=>t
 |r::l,t=>match V.bq r with
  |true=>MN l t
  |false=>V.ot r++MN l t
def fT(σ:Nat->Option Ob):Nat->List Nat->List Nat->List Nat
 |0,_,seen=>seen
 |_+1,[],seen=>seen
 |k+1,i::todo,seen=>match jJ seen i with
  |true=>fT σ k todo seen
  |false=>match σ i with
   |some (.box _ cs)=>fT σ k (V.ot cs++todo) (seen++[i])
   |some (.row _ _ n f)=>fT σ k (MN ((List.range n).map f) todo) (seen++[i])
   |_=>fT σ k todo (seen++[i])
def xJ:List Nat->Nat->Nat
 | [],_=>0
 |k::l,i=>match Nat.beq i k with
  |true=>0
  |false=>xJ l i+1
def rowOf(l:List (List V))(i:Nat):List V:=l.getD i []
def y4(g:Nat->Nat):Ob->Option Ob
 | .box t cs=>some (.box t (V.aV g cs))
 | .row e sz n f=>match ((List.range n).map f).all V.bq with
  |true=>some (.row e sz n (rowOf ((List.range n).map f)))
  |false=>some (.row e sz n (rowOf (((List.range n).map f).map (V.aV g))))
 | .mp s f=>match f.l.all fun p=>p.2.b5 with
  |true=>some (.mp s f)
  |false=>none
def xL(σ:Nat->Option Ob)(g:Nat->Nat):List Nat->Option (List (Ob×Ob))
 | []=>some []
 |k::ns=>match σ k with
  |some o=>match y4 g o with
   |some o'=>match xL σ g ns with
    |some l=>some ((o,o')::l)
    |none=>none
   |none=>none
  |none=>none
def P8(g:Nat->Nat)(n:Nat)(f f':Nat->List V):List (CE×CE):=match ((List.range n).map f).all V.bq with
 |true=>[]
 |false=>(List.range n).map fun i=>(.vs (f i),.vs (V.aV g (f' i)))
def zz(g:Nat->Nat):Ob×Ob->List (CE×CE)
 | (.box _ cs,.box _ cs')=>[(.vs cs,.vs (V.aV g cs'))]
 | (.row _ _ n f,.row _ _ _ f')=>P8 g n f f'
 |_=>[]
def eV(g:Nat->Nat):List (Ob×Ob)->List (CE×CE)
 | []=>[]
 |p::l=>zz g p++eV g l
def MO(k:Nat):Ob×Ob->Bool
 | (_,.box _ cs)=>V.cR k cs
 | (.row _ _ n f,.row _ _ _ f')=>match ((List.range n).map f).all V.bq with
  |true=>true
  |false=>((List.range n).map f').all (V.cR k)
 |_=>true
def ta(n:Nat):List (Ob×Ob)->Bool
 | []=>true
 |p::l=>MO n p && ta n l
theorem dZ{g:Nat->Nat}{l:List V}(h:V.bq l=true):V.aV g l=l:=V.dZ g l h
theorem ic{l:List (List V)}(h:l.all V.bq=true)(i:Nat):V.bq (rowOf l i)=true:=by
 unfold rowOf;rw [List.getD_eq_getElem?_getD];cases hi:l[i]? with
 |none=>rfl
 |some x=>exact List.all_eq_true.1 h x (List.mem_of_getElem? hi)
theorem lQ{f:Nat->List V}{n i:Nat}(h:i< n):rowOf ((List.range n).map f) i=f i:=by unfold rowOf;rw [List.getD_eq_getElem?_getD,List.getElem?_map,List.getElem?_range h];rfl
theorem Hg{f:MF}(h:(f.l.all fun p=>p.2.b5)=true)(g:Nat->Nat):f.map (V.bx g)=f:=by
 obtain⟨l,rest⟩:=f;show MF.mk (l.map fun p=>(p.1,V.bx g p.2)) rest=⟨l,rest⟩;congr 1
 have h':∀p∈l,p.2.b5=true:=fun p hp=>List.all_eq_true.1 h p hp;clear h;induction l with
 |nil=>rfl
 |cons p l ih=>rw [List.map_cons,ih fun q hq=>h' q (by simp [hq]),V.eS g _ (h' p (by simp))]
theorem J6{f:MF}(h:(f.l.all fun p=>p.2.b5)=true){k:MK}{u:V}(hu:f.look k=some u):u.b5=true:=by
 obtain⟨l,rest⟩:=f;have h':∀p∈l,p.2.b5=true:=fun p hp=>List.all_eq_true.1 h p hp;have hu':iw rest k l=some u:=hu;clear h hu;induction l with
 |nil=>simp only [iw,Option.map_eq_some_iff]at hu';obtain⟨v,_,rfl⟩:=hu';rfl
 |cons p l ih=>
  simp only [iw]at hu';split at hu';·injection hu' with hu';subst hu';exact h' p (by simp)
  ·exact ih (fun q hq=>h' q (by simp [hq])) hu'
theorem oz{g gi:Nat->Nat}{o o':Ob}(h:y4 gi o=some o')(he:iI (eV g [(o,o')])):eF o (o'.bx g):=by
 have he:iI (zz g (o,o')):=fun p hp=>he p (by simp only [eV,List.append_nil];exact hp);cases o with
 |box t cs=>simp only [y4,Option.some.injEq]at h;subst h;have h1:=he.hd;injection h1 with h1;exact⟨rfl,h1⟩
 |row e sz n f=>
  simp only [y4]at h;split at h;·rename_i hi;injection h with h;subst h;refine⟨rfl,rfl,rfl,fun i hi'=> ?_⟩;show f i=V.aV g (rowOf ((List.range n).map f) i);rw [dZ (ic hi i),lQ hi']
  ·rename_i hi;injection h with h;subst h;refine⟨rfl,rfl,rfl,fun i hi'=> ?_⟩;simp only [zz,P8,hi]at he;have h1:=he (.vs (f i),.vs (V.aV g (rowOf (((List.range n).map f).map (V.aV gi)) i))) (List.mem_map.2 ⟨i,List.mem_range.2 hi',rfl⟩);injection h1 with h1
 |mp str f=>
  simp only [y4]at h;split at h;·rename_i hi;injection h with h;subst h;refine⟨rfl,fun k=> ?_⟩;show f.look k=(f.map (V.bx g)).look k;rw [Hg hi g]
  ·cases h
theorem M5{n:Nat}{gi:Nat->Nat}{o o':Ob}(h:y4 gi o=some o')(he:ta n [(o,o')]=true):o'.jZ n:=by
 have he:MO n (o,o')=true:=by simpa only [ta,Bool.and_true]using he
 cases o with
 |box t cs=>simp only [y4,Option.some.injEq]at h;subst h;exact he
 |row e sz m f=>
  simp only [y4]at h;split at h;·rename_i hi;injection h with h;subst h;exact fun i _=>iq n _ (ic hi i)
  ·rename_i hi;injection h with h;subst h;intro i hi';simp only [MO,hi]at he;exact List.all_eq_true.1 he _ (List.mem_map.2 ⟨i,List.mem_range.2 hi',rfl⟩)
 |mp str f=>
  simp only [y4]at h;split at h;·rename_i hi;injection h with h;subst h;exact fun k u hu=>lM n u (J6 hi hu)
  ·cases h
def uA(g:Nat->Nat):Ob->List (CE×CE)
 | .box _ cs=>[(.vs cs,.vs (V.aV g cs))]
 | .row _ _ n f=>P8 g n f f
 |_=>[]
theorem Ep{l:List (List V)}{i:Nat}(h:l.length<=i):rowOf l i=[]:=by unfold rowOf;rw [List.getD_eq_getElem?_getD,List.getElem?_eq_none h];rfl
theorem xU{g gi:Nat->Nat}{o o':Ob}(h:y4 gi o=some o')(he:iI (uA g o')):o'.bx g=o':=by
 cases o with
 |box t cs=>simp only [y4,Option.some.injEq]at h;subst h;have h1:=he.hd;injection h1 with h1;rw [Ob.bx,<-h1]
 |row e sz m f=>
  simp only [y4]at h;split at h
  ·rename_i hi;injection h with h;subst h;rw [Ob.bx];congr 1
   funext i;exact dZ (ic hi i)
  ·injection h with h;subst h;rw [Ob.bx];congr 1
   funext i;by_cases hlt:i< m
   ·generalize ((List.range m).map f).map (V.aV gi)=l at he;simp only [uA,P8]at he;split at he;·rename_i ha;exact dZ (by have:=List.all_eq_true.1 ha _ (List.mem_map.2 ⟨i,List.mem_range.2 hlt,rfl⟩);exact this)
    ·have h1:=he (.vs (rowOf l i),.vs (V.aV g (rowOf l i))) (List.mem_map.2 ⟨i,List.mem_range.2 hlt,rfl⟩);injection h1 with h1;exact h1.symm
   ·rw [Ep (by simp;omega)];rfl
 |mp str f=>
  simp only [y4]at h;split at h;·rename_i hi;injection h with h;subst h;show Ob.mp str (f.map (V.bx g))= .mp str f;rw [Hg hi g]
  ·cases h
theorem o7{g:Nat->Nat}{p:Ob×Ob}{l:List (Ob×Ob)}(h:iI (eV g (p::l))):iI (eV g [p])/\iI (eV g l):= ⟨fun q hq=>h q (List.mem_append.2 (.inl (by simpa only [eV,List.append_nil]using hq))),fun q hq=>h q (List.mem_append.2 (.inr hq))⟩
theorem t8{n:Nat}{p:Ob×Ob}{l:List (Ob×Ob)}(h:ta n (p::l)=true):ta n [p]=true/\ta n l=true:=by simp only [ta,Bool.and_eq_true,Bool.and_true]at h ⊢;exact h
theorem kQ{σ:Nat->Option Ob}{gi:Nat->Nat}:∀ {ns:List Nat}{l:List (Ob×Ob)},xL σ gi ns=some l->l.length=ns.length/\∀(i:Nat) (p:Ob×Ob),l[i]?=some p->∃k,ns[i]?=some k/\σ k=some p.1/\y4 gi p.1=some p.2
 | [],l,h=>by simp only [xL,Option.some.injEq]at h;subst h;exact⟨rfl,fun i p h=>by simp at h⟩
 |k::ns,l,h=>by
  simp only [xL]at h;split at h
  ·rename_i o ho;split at h
   ·rename_i o' ho';split at h
    ·rename_i l' hl;injection h with h;subst h;obtain⟨h1,h2⟩:=kQ hl;refine⟨by simp [h1],fun i p hp=> ?_⟩;cases i with
     |zero=>simp at hp;subst hp;exact⟨k,rfl,ho,ho'⟩
     |succ i=>simpa using h2 i p (by simpa using hp)
    ·cases h
   ·cases h
  ·cases h
theorem fN{g:Nat->Nat}:∀ {l:List (Ob×Ob)},iI (eV g l)->∀ {i:Nat}{p:Ob×Ob},l[i]?=some p->iI (eV g [p])
 |q::l,h,0,p,hp=>by simp at hp;subst hp;exact(o7 h).1
 |q::l,h,i+1,p,hp=>fN (o7 h).2 (by simpa using hp)
theorem xK{n:Nat}:∀ {l:List (Ob×Ob)},ta n l=true->∀ {i:Nat}{p:Ob×Ob},l[i]?=some p->ta n [p]=true
 |q::l,h,0,p,hp=>by simp at hp;subst hp;exact(t8 h).1
 |q::l,h,i+1,p,hp=>xK (t8 h).2 (by simpa using hp)
structure CR where
  v:V
  outs:List (Option Ob)
  obs:List Ob
  e:CT
abbrev fG:Type:=FuncId->List V->List Ob->Option CR
def Hj:Nat:=999999999
def cZ(P:Program)(call:fG):Prop:=(∀f args ins r,Nat.beq f Hj=false->call f args ins=some r->j8 r.e->AM P f args ins r.v r.outs r.obs)/\ ∀(name:String) (t:Nat) (r:CR) (n:Int),call Hj [.fn (.method name) [] [],.i (t:Int)] []=some r->r.v= .i n->wo P name t n.toNat
structure SX where
  v:V
  pre:List (Nat×Ob)
  δ:List (Nat×Option Ob)
  e:CT
def rW:List Nat->Bool
 | []=>true
 |k::l=>match jJ l k with
  |true=>false
  |false=>rW l
def FB(call:fG)(nx:Nat)(d:Nat)(f:FuncId)(as0:List V)(ns:List Nat)(l:List (Ob×Ob)):Option SX:=
 match decide (d< 1000) && (rW ns && (V.cR l.length (V.aV (fun i=>500+xJ ns i) as0) && (ta l.length l && !Nat.beq f Hj)))with
  |true=>match call f (V.aV (fun i=>500+xJ ns i) as0) (l.map Prod.snd)with
   |some r=>match Nat.ble r.obs.length 90 && Nat.beq r.outs.length l.length with
    |true=>some ⟨r.v.bx (aI nx (some d) ns),jb ns (l.map Prod.fst),gK (aI nx (some d) ns) ns r.outs++b6 (aI nx (some d) ns) 0 r.obs,
     .nd (.lf ((.vs as0,.vs (V.aV (aI nx (some d) ns) (V.aV (fun i=>500+xJ ns i) as0)))::eV (aI nx (some d) ns) l)) r.e⟩
    |false=>none
   |none=>none
  |false=>none
def wX(call:fG)(nx:Nat)(σ:Nat->Option Ob)(o:Oper)(f:FuncId)(as0:List V):Option SX:=
 match o.dst with
  |some d=>match xL σ (fun i=>500+xJ (fT σ 1000 (V.ot as0) []) i) (fT σ 1000 (V.ot as0) [])with
   |some l=>FB call nx d f as0 (fT σ 1000 (V.ot as0) []) l
   |none=>none
  |none=>none
def Rr(M:List Nat)(tm:Nat->V)(o:Oper):List Nat:=match o.op with
 | .box _ y=>match bY (ug (ev tm y))with
  |some us=>match V.bq us with
   |true=>M
   |false=>[o.dst.getD 0]
  |none=>M
 | .buildSlice _ n parts=>match n with
  |0=>[o.dst.getD 0]
  |_+1=>match V.bq (parts.toList.map fun p=>ug (ev tm p.2))with
   |true=>M
   |false=>[o.dst.getD 0]
 |_=>M
def tV(o:Oper):Bool:=match o.dst with
 |some t=>Nat.ble t 999
 |none=>match o.op with
  | .store _ _ _=>true
  | .insert _ _ _ _=>true
  | .mapUpdate _ _ _ _=>true
  |_=>false
theorem FD{o:Oper}(h:tV o=true):jX o=true:=by
 unfold tV at h;unfold jX;split at h;·rename_i t ht;have:=Nat.le_of_ble_eq_true h;simp only [ht];exact decide_eq_true (Nat.lt_succ_of_le this)
 ·rename_i ht;simp only [ht];exact h
def Qw(T:List TI)(M:List Nat)(nx:Nat)(tm:Nat->V)(σ:Nat->Option Ob)(o:Oper):Option SX:=
 match o.op with
  | .pick x a b=>match ev tm x with
   | .c (.bool t)=>match mN t (ug (ev tm a)) (ug (ev tm b))with
    |some v=>match iO o with
     |true=>some ⟨v,[],[],.lf (HJ (Gp (t == true) (ev tm a)++Gp (t == false) (ev tm b)))⟩
     |false=>none
    |none=>none
   |_=>none
  |_=>match tV o && rV (opsV tm o)with
   |true=>match (Co T false o (fun x=>ug (ev tm x)) σ).dec with
    |true=>match pI T false (Rr M tm o) nx o (fun x=>ug (ev tm x)) σ with
     |some r=>some ⟨r.v,r.pre,r.δ,.lf [(.p r.c,.p (Co T false o (fun x=>ug (ev tm x)) σ).den)]⟩
     |none=>none
    |false=>match (Co T true o (fun x=>ug (ev tm x)) σ).dec with
     |true=>match pI T true (Rr M tm o) nx o (fun x=>ug (ev tm x)) σ with
      |some r=>some ⟨r.v,r.pre,r.δ,.lf [(.p r.c,.p (Co T true o (fun x=>ug (ev tm x)) σ).den)]⟩
      |none=>none
     |false=>none
   |false=>none
def Ap(T:List TI)(tm:Nat->V)(σ:Nat->Option Ob)(o:Oper):Option SX:=match o.op with
 | .binOp op t x y _=>match ev tm x with
  | .own id=>match ev tm y with
   | .nil=>match (T.getD t bA).elem with
    |some _=>match σ id with
     |some (.row e sz n row)=>match n with
      |0=>none
      |k+1=>match iO o with
       |true=>match op with
        | .eql=>some ⟨.b false,[(id,.row e sz (k+1) row)],[],.lf []⟩
        | .neq=>some ⟨.b true,[(id,.row e sz (k+1) row)],[],.lf []⟩
        |_=>none
       |false=>none
     |_=>none
    |none=>none
   |_=>none
  |_=>none
 |_=>none
theorem rL:∀ {l:List Nat}{i:Nat},jJ l i=false->i∉l
 | [],_,_=>by simp
 |k::l,i,h=>by
  simp only [jJ]at h;split at h;·cases h
  ·rename_i hb;have hb:=Nat.ne_of_beq_eq_false hb;simp only [List.mem_cons,not_or];exact⟨hb,rL h⟩
theorem oB:∀ {l:List Nat},rW l=true->l.Nodup
 | [],_=> .nil
 |k::l,h=>by
  simp only [rW]at h;split at h;·cases h
  ·rename_i hb;exact List.nodup_cons.2 ⟨rL hb,oB h⟩
section
variable {P:Program}{W LB:Nat->Prop}{T:List TI}{M:List Nat}{nx:Nat}{tm:Nat->V}{σ:Nat->Option Ob}{o:Oper}{x:SX}{call:fG}
def II(P:Program)(W LB:Nat->Prop)(nx:Nat)(tm:Nat->V)(σ:Nat->Option Ob)(o:Oper)(x:SX):Prop:= ∃nw,aS P W LB o (ev tm) x.v x.pre nw x.δ/\(∀p∈x.pre,σ p.1=some p.2)/\kg nx o.dst nw/\∀t,o.dst=some t->t< 1000
theorem kH(hT:aJ T P){wr:Bool}{r:SR}(hd:(tV o && rV (opsV tm o))=true)(h:pI T wr M nx o (fun x=>ug (ev tm x)) σ=some r)(hc:r.c){e:CT}:II P W LB nx tm σ o ⟨r.v,r.pre,r.δ,e⟩:=by simp only [Bool.and_eq_true]at hd;have hd:jX o=true/\rV (opsV tm o)=true:=⟨FD hd.1,hd.2⟩;rw [GP]at h;obtain⟨h1,h2,h3⟩:=gR (W:=W) (LB:=LB) hT o h hc (jF hd.1);exact⟨r.nw,h1.weaken fun x hx _ _ _ _ hy=>hy.ug (oA hd.2 _ (kY hx)),h2,Lu hd.1 h3,fun t ht=>xk hd.1 ht⟩
theorem Cj{c:Prop}{q:PQ}(h:CE.p c=CE.p q.den)(hq:q.dec=true):c:=by injection h with h;rw [h];exact PQ.ok hq
theorem FL(hT:aJ T P)(h:Qw T M nx tm σ o=some x)(he:j8 x.e):II P W LB nx tm σ o x:=by
 unfold Qw at h;split at h
 ·rename_i xx a b hop;split at h
  ·rename_i t hx;split at h
   ·rename_i v hv;split at h;·rename_i hd;injection h with h;subst h;have hp:=iI.ps he;obtain⟨d,op,ty,pos,af,gd⟩:=o;simp only at hop;subst hop;refine⟨[],(wI xx a b hx (nh hp.l) (nh hp.r) (k8 hv)).step,by simp,by simp [kg],fun t ht=> ?_⟩;simp only at ht;subst ht;simpa [iO]using hd
    ·cases h
   ·cases h
  ·cases h
 ·split at h
  ·rename_i hd;split at h
   ·rename_i hq;split at h;·rename_i r hr;injection h with h;subst h;exact kH hT hd hr (Cj he.hd hq)
    ·cases h
   ·split at h
    ·rename_i hq;split at h;·rename_i r hr;injection h with h;subst h;exact kH hT hd hr (Cj he.hd hq)
     ·cases h
    ·cases h
  ·cases h
theorem tU(hcl:cZ P call)(hwl:∀b,W b->LB b){f:FuncId}{as0:List V}(hpl:jM o.op=true)(hex:Rk P o (ev tm) f as0)(h:wX call nx σ o f as0=some x)(he:j8 x.e):II P W LB nx tm σ o x:=by
  unfold wX at h
  split at h
  · rename_i d hd
    split at h
    · rename_i l hl
      generalize fT σ 1000 (V.ot as0) []=ns at h hl
      unfold FB at h
      split at h
      · rename_i hb
        split at h
        · rename_i r hr
          split at h
          · rename_i hb2
            injection h with h;subst h
            simp only [Bool.and_eq_true,decide_eq_true_eq]at hb hb2
            obtain⟨hb0,hb1,hb3,hb4,hbm⟩:=hb
            obtain⟨hbo,hbl⟩:=hb2
            have hbl:=Nat.eq_of_beq_eq_true hbl
            have hbo:=Nat.le_of_ble_eq_true hbo
            obtain⟨hlen,hget⟩:=kQ hl
            have hE:=he.1
            have h1:=hE.hd
            injection h1 with h1
            have hB:=hE.tl
            have am:=hcl.1 _ _ _ _ (by simpa using hbm) hr he.2
            refine⟨(List.range r.obs.length).map (ay nx (some d)),tP (W:=W) (LB:=LB) (d:=some d) (ins':=l.map Prod.fst) am hwl ns hpl hex nx h1 (by simpa using hb3) (by simpa using hb0) hbo (oB hb1) (by simp [hlen]) (by simpa using hbl) (by simp) (fun i o o' h2 h3=> ?_),fun p hp=> ?_,?_,?_⟩
            · simp only [List.getElem?_map,Option.map_eq_some_iff]at h2 h3
              obtain⟨p,hp,rfl⟩:=h2
              obtain⟨q,hq,rfl⟩:=h3
              rw [hp]at hq
              injection hq with hq
              subst hq
              obtain⟨k,_,_,hn⟩:=hget i p hp
              exact⟨oz hn (fN hB hp),by simpa using M5 hn (xK hb4 hp)⟩
            · have key:∀(ns:List Nat) (l:List (Ob×Ob)),(∀(i:Nat) (p:Ob×Ob),l[i]?=some p->∃k,ns[i]?=some k/\σ k=some p.1)->∀p∈jb ns (l.map Prod.fst),σ p.1=some p.2:=by
                intro ns
                induction ns with
                |nil=>intro l _ p hp;simp [jb]at hp
                |cons k ns ih=>
                  intro l hl p hp
                  cases l with
                  |nil=>simp [jb]at hp
                  |cons q l=>
                    simp only [List.map_cons,jb,List.mem_cons]at hp
                    rcases hp with rfl |hp
                    · obtain⟨k',h1,h2⟩:=hl 0 q rfl
                      simp at h1;subst h1
                      exact h2
                    · exact ih l (fun i p hp=>by simpa using hl (i+1) p (by simpa using hp)) p hp
              exact key ns l (fun i p hp=>(hget i p hp).imp fun k h=>⟨h.1,h.2.1⟩) p hp
            · intro id hid
              obtain⟨j,hj,rfl⟩:=List.mem_map.1 hid
              have hj':j< r.obs.length:=by simpa using hj
              refine⟨d,hd,?_,?_,?_⟩ <;> simp only [ay,Option.getD_some] <;> omega
            · intro t ht
              rw [hd]at ht
              simp only [Option.some.injEq]at ht
              subst ht
              exact hb0
          · cases h
        · cases h
      · cases h
    · cases h
  · cases h
theorem xH{ar:Array Operand}{w:World}{L:Nat->Prop}{ρ:Nat->Option Value}{g:Operand->Value}{e:Operand->V}(hr:∀x∈ar,R w L ρ (e x) (g x)):RV w L ρ (ar.toList.map e) (ar.map g).toList:=by refine⟨by simp,fun i u x hu hx=> ?_⟩;simp only [List.getElem?_map,Option.map_eq_some_iff,Array.toList_map]at hu hx;obtain⟨p,hp,rfl⟩:=hu;obtain⟨q,hq,rfl⟩:=hx;rw [hp]at hq;injection hq with hq;subst hq;exact hr p (by simpa using List.mem_of_getElem? hp)
theorem FC(hcl:cZ P call)(hwl:∀b,W b->LB b){f:FuncId}{as0:List V}(hq:qV (ev tm) o=some (f,as0))(h:wX call nx σ o f as0=some x)(he:j8 x.e):II P W LB nx tm σ o x:=by
 obtain⟨d',fo,ar,ats,ty,pos,af,gd,first,caps,rfl,hf,ha⟩:=jC hq;refine tU hcl hwl rfl (fun w L ρ g hr=> ?_) h he;have h1:=hr fo (by simp [Op.operands,Call.operands]);rw [hf]at h1;obtain⟨xs,ys,e1,hx,hy⟩:=h1.kM;have hz:RV w L ρ (ar.toList.map (ev tm)) (ar.map g).toList:=xH fun p hp=>hr p (by simp [Op.operands,Call.operands,hp]);refine⟨xs++ar.map g++ys,fun hcf=> ?_,?_⟩;·simp [execOp,resolve,Deferred.ofValue,invoke,e1,hcf]
 ·rw [<-ha];have:=(hx.append hz).append hy;simpa using this
def G8(e:Operand->V)(o:Oper):Option (String×Nat×List V):=match o.op with
 | .call c=>match c.callee with
  | .value fo=>match e fo with
   | .fn (.method name) [.ifc t v] []=>some (name,t,v::c.args.toList.map e)
   |_=>none
  |_=>none
 |_=>none
def FJ(call:fG)(nx:Nat)(σ:Nat->Option Ob)(o:Oper)(q:String×Nat×List V):Option SX:=match call Hj [.fn (.method q.1) [] [],.i (q.2.1:Int)] []with
 |some r=>match r.v with
  | .c (.int .i64 n)=>wX call nx σ o n.toNat q.2.2
  |_=>none
 |none=>none
theorem FK(hcl:cZ P call)(hwl:∀b,W b->LB b){q:String×Nat×List V}(hq:G8 (ev tm) o=some q)(h:FJ call nx σ o q=some x)(he:j8 x.e):II P W LB nx tm σ o x:=by
 obtain⟨d,op,ty,pos,af,gd⟩:=o;unfold G8 at hq;simp only at hq;split at hq
 ·rename_i c;obtain⟨callee,ar,ats⟩:=c;simp only at hq;split at hq
  ·rename_i fo;split at hq
   ·rename_i name t v hf;injection hq with hq;subst hq;unfold FJ at h;split at h
    ·rename_i r hr;split at h
     ·rename_i n hn;have hm:=hcl.2 name t r n hr hn;refine tU hcl hwl rfl (fun w L ρ g hrr=> ?_) h he;have h1:=hrr fo (by simp [Op.operands,Call.operands]);rw [hf]at h1;obtain⟨xs,ys,e1,hx,hy⟩:=h1.kM;have hy0:ys= #[]:=by have:=hy.1;simpa using this.symm
      subst hy0;obtain⟨x0,hx0,hr0⟩:=hx.get (i:=0) (u:= .ifc t v) rfl;have hl1:xs.size=1:=by have:=hx.1;simpa using this.symm
      obtain⟨y,e2,hy2⟩:∃y,x0= .iface t y/\R w L ρ v y:=by cases hr0;exact⟨_,rfl,by assumption⟩
      have e3:xs= #[.iface t y]:=by
       rw [e2]at hx0;apply Array.ext';have:xs.toList.length=1:=by simpa using hl1
       match hxl:xs.toList,this with
       | [a],_=>rw [hxl]at hx0;simp at hx0;rw [hx0]
      have hz:RV w L ρ (ar.toList.map (ev tm)) (ar.map g).toList:=xH fun p hp=>hrr p (by simp [Op.operands,Call.operands,hp]);refine⟨#[y]++ar.map g,fun hcf=> ?_,?_⟩
      ·obtain⟨A,hA⟩:∃A,A= #[Value.iface t y]++ar.map g:=⟨_,rfl⟩;have hA0:A[0]?=some (.iface t y):=by rw [hA,Array.getElem?_append_left (by simp)];rfl
       have hA1:A.extract 1 A.size=ar.map g:=by rw [hA];apply Array.ext';simp [List.take_of_length_le]
       have e5:(method (P.types.size+100) t y name).run P w= .ok (n.toNat,y) w:=hm y w;have e6:(execOp g ⟨d,.call {callee:= .value fo,args:=ar,argTypes:=ats},ty,pos,af,gd⟩).run P w=(invoke (.fn (.method name) #[]) A).run P w:=by rw [hA];simp [execOp,resolve,Deferred.ofValue,e1,e3]
       rw [e6];simp only [invoke,hA0,hA1,callMethod];simp [go_sem,e5,hcf]
      ·have:=(RV.nil (w:=w) (L:=L) (ρ:=ρ)).cons hy2;have:=this.append hz;simpa using this
     ·cases h
    ·cases h
   ·cases hq
  ·cases hq
 ·cases hq
def Jj(T:List TI)(tm:Nat->V)(o:Oper):Option SX:=match o.op with
 | .makeInterface t x=>match (T.getD t bA).agg with
  |some true=>match iO o with
   |true=>some ⟨.ifc t (ev tm x),[],[],.lf []⟩
   |false=>none
  |_=>none
 | .nilCheck x=>match ev tm x with
  | .ifc t v=>match iO o with
   |true=>some ⟨.ifc t v,[],[],.lf []⟩
   |false=>none
  |_=>none
 |_=>none
theorem BE(hT:aJ T P)(h:Jj T tm o=some x):II P W LB nx tm σ o x:=by
 obtain⟨d,op,ty,pos,af,gd⟩:=o;unfold Jj at h;split at h
 ·rename_i t xx hop;simp only at hop;subst hop;split at h
  ·rename_i ha;split at h;·rename_i hd;injection h with h;subst h;exact⟨[],(Fj t xx (hT.agg ha)).step,by simp,by simp [kg],fun t ht=>by simp only at ht;subst ht;simpa [iO]using hd⟩
   ·cases h
  ·cases h
 ·rename_i xx hop;simp only at hop;subst hop;split at h
  ·rename_i t v hx;split at h;·rename_i hd;injection h with h;subst h;exact⟨[],(Db xx hx).step,by simp,by simp [kg],fun t ht=>by simp only at ht;subst ht;simpa [iO]using hd⟩
   ·cases h
  ·cases h
 ·cases h
theorem Ed(hT:aJ T P)(h:Ap T tm σ o=some x):II P W LB nx tm σ o x:=by
  obtain⟨d,op,ty,pos,af,gd⟩:=o
  unfold Ap at h
  split at h
  · rename_i bo t xx y t' hop
    simp only at hop
    subst hop
    split at h
    · rename_i id hx
      split at h
      · rename_i hy
        split at h
        · rename_i el hel
          split at h
          · rename_i e sz n row hσ
            split at h
            · cases h
            · split at h
              · rename_i hd
                have hd':∀t,d=some t->t< 1000:=fun t ht=>by
                  subst ht
                  simpa [iO]using hd
                split at h
                · injection h with h;subst h
                  exact⟨[],(Fs t t' xx y (hT.elem hel) hx hy (Nat.succ_pos _)).1,by simpa using hσ,by simp [kg],hd'⟩
                · injection h with h;subst h
                  exact⟨[],(Fs t t' xx y (hT.elem hel) hx hy (Nat.succ_pos _)).2,by simpa using hσ,by simp [kg],hd'⟩
                · cases h
              · cases h
          · cases h
        · cases h
      · cases h
    · cases h
  · cases h
end
def TR.map(f:V->V):TR->TR
 | .e=> .e
 | .n v l r=> .n (f v) (l.map f) (r.map f)
theorem TR.get_map{f:V->V}(hf:f .any= .any):∀(tr:TR) (t:Nat),(tr.map f).get t=f (tr.get t)
 | .e,t=>by rw [TR.map,TR.jj,hf]
 | .n v l r,0=>by rw [TR.map,TR.mb,TR.mb]
 | .n v l r,t+1=>by rw [TR.map,TR.kO,TR.kO,TR.get_map hf l,TR.get_map hf r];split <;> rfl
def OZ(id:Nat)(v:V):Ob->Ob
 | .box t cs=>match V.bq cs with
  |true=> .box t cs
  |false=> .box t (V.ng id v cs)
 | .row e sz n f=>match ((List.range n).map f).all V.bq with
  |true=> .row e sz n f
  |false=> .row e sz n (rowOf (((List.range n).map f).map (V.ng id v)))
 | .mp s f=>match f.l.all fun p=>p.2.b5 with
  |true=> .mp s f
  |false=> .mp s (f.map (V.fz id v))
theorem AG{f:Nat->List V}{g:List V->List V}{n i:Nat}(h:i< n):rowOf (((List.range n).map f).map g) i=g (f i):=by unfold rowOf;rw [List.getD_eq_getElem?_getD,List.getElem?_map,List.getElem?_map,List.getElem?_range h];rfl
theorem M7(id:Nat)(v:V)(o:Ob):P4 id v o (OZ id v o):=by
 cases o with
 |box t cs=>
  simp only [OZ];split;·exact⟨rfl,.inr rfl⟩
  ·exact⟨rfl,.inl rfl⟩
 |row e sz n f=>
  simp only [OZ];split;·exact⟨rfl,rfl,rfl,fun _ _=> .inr rfl⟩
  ·exact⟨rfl,rfl,rfl,fun i hi=> .inl (AG hi)⟩
 |mp s f=>
  simp only [OZ];split;·exact⟨rfl,.inr rfl⟩
  ·exact⟨rfl,.inl rfl⟩
def ng(id:Nat)(v:V):List (Nat×Option Ob)->List (Nat×Option Ob)
 | []=>[]
 | (k,o)::l=>match Nat.beq k id with
  |true=>ng id v l
  |false=>(k,o.map (OZ id v))::ng id v l
theorem Aa(id:Nat)(v:V):∀(l:List (Nat×Option Ob)) (i:Nat) (o':Ob),fQ (ng id v l) i=some o'->i≠id/\∃o,fQ l i=some o/\P4 id v o o'
 | [],i,o',h=>by cases h
 | (k,o)::l,i,o',h=>by
  simp only [ng]at h;split at h
  ·rename_i hk;have hk:=Nat.eq_of_beq_eq_true hk;obtain⟨h1,o,h2,h3⟩:=Aa id v l i o' h;refine⟨h1,o,?_,h3⟩;simp only [fQ];split;·rename_i h4;exact absurd ((Nat.eq_of_beq_eq_true h4).trans hk) h1
   ·exact h2
  ·rename_i hk;have hk:=Nat.ne_of_beq_eq_false hk;simp only [fQ]at h ⊢;split at h
   ·rename_i h4;have h4:=Nat.eq_of_beq_eq_true h4;refine⟨by omega,?_⟩;cases o with
    |none=>cases h
    |some o=>simp only [Option.map_some,Option.some.injEq]at h;subst h;exact⟨o,rfl,M7 _ _ _⟩
   ·exact Aa id v l i o' h
def Gj(s:CS)(id:Nat)(v:V):CS:=⟨s.tr.map (V.fz id v),ng id v s.sl,s.nx⟩
theorem vm(s:CS)(id:Nat)(v:V){ob:Ob}(hσ:fQ s.sl id=some ob)(h0:∀(W:Nat->Prop) (w:World) (L:Nat->Prop) (ρ:Nat->Option Value),Real W w L ρ id ob->∀y,ρ id=some y->R w (fun b=>L b\/blk y=some b) ρ v y):Le s.den (Gj s id v).den:=by
 have h1:Le s.den ⟨fun t=>V.fz id v (s.tr.get t),fQ (ng id v s.sl),s.nx⟩:=Le.RE (s:=s.den) id hσ v (fun i o' h=>Aa id v s.sl i o' h) h0;have e1:(s.tr.map (V.fz id v)).get=fun t=>V.fz id v (s.tr.get t):=by funext t;exact TR.get_map (by rw [V.fz]) _ _
 simp only [Gj,CS.den];rw [e1];exact @h1
def MC(s:CS)(id:Nat):CS:=match Nat.ble 0 id with
 |false=>s
 |true=>match fQ s.sl id with
  |some (.row _ sz n f)=>match ((List.range n).map f).all V.bq with
   |true=>Gj s id (.sl sz n (rowOf ((List.range n).map f)))
   |false=>s
  |some (.box _ cs)=>match V.bq cs with
   |true=>Gj s id (.ptr cs)
   |false=>s
  |some (.mp p _)=>match Nat.beq p.2 0 with
   |true=>Gj s id .any
   |false=>s
  |none=>s
def Gi(s:CS):List Nat->CS
 | []=>s
 |id::l=>MC (Gi s l) id
theorem JE(s:CS)(id:Nat):Le s.den (MC s id).den:=by
 unfold MC;split;·exact Le.refl _
 ·split
  ·rename_i e sz n f hσ;split
   ·rename_i hi;refine vm s id _ hσ fun W w L ρ hr y hy=> ?_;have hi':∀i,i< n->V.bq (f i)=true:=fun i hi'=>by have:=ic hi i;rwa [lQ hi']at this
    obtain⟨v,h1,_,h3⟩:=hr.slice hi';rw [hy]at h1;injection h1 with h1;subst h1
    exact zb h3 fun i hi''=>(lQ hi'').symm
   ·exact Le.refl _
  ·rename_i t0 cs hσ;split
   ·rename_i hi;refine vm s id _ hσ fun W w L ρ hr y hy=> ?_;obtain⟨v,h1,_,h3⟩:=hr.ptr hi;rw [hy]at h1;injection h1 with h1;subst h1
    exact h3
   ·exact Le.refl _
  ·rename_i hσ;split;·exact vm s id _ hσ fun W w L ρ _ y _=> .any _ _
   ·exact Le.refl _
  ·exact Le.refl _
theorem qp(s:CS):∀l:List Nat,Le s.den (Gi s l).den
 | []=>Le.refl _
 |id::l=>Le.trans (qp s l) (JE _ id)
def Rs:List (Nat×Operand)->Nat->Option Operand
 | [],_=>none
 | (k,y)::l,t=>match Nat.beq t k with
  |true=>some y
  |false=>Rs l t
def Hv(en:List (Nat×Operand))(x:Operand):Operand:=match x with
 | .tmp t=>match Rs en t with
  |some y=>y
  |none=> .tmp t
 |x=>x
def LA(tm:Nat->V)(en:List (Nat×Operand)):List Operand->List Nat
 | []=>[]
 |x::l=>(ug (ev tm (Hv en x))).ids++LA tm en l
def kC(mu:List Nat)(tm:Nat->V):List (Nat×Operand)->List Oper->List Nat
 |_,[]=>[]
 |en,o::os=>match o.op with
  | .call c=>match c.callee with
   | .value fo=>match ug (ev tm (Hv en fo))with
    | .fn (.func f) _ _=>match jJ mu f with
     |true=>kC mu tm en os
     |false=>LA tm en c.args.toList++kC mu tm en os
    |_=>kC mu tm en os
   |_=>kC mu tm en os
  | .move y=>match o.dst with
   |some t=>kC mu tm ((t,Hv en y)::en) os
   |none=>kC mu tm en os
  |_=>kC mu tm en os
def vp:List Oper->Bool
 | []=>false
 |o::os=>match o.op with
  | .call c=>match c.callee with
   | .value _=>true
   |_=>vp os
  | .binOp .eql _ _ _ _=>true
  | .binOp .neq _ _ _ _=>true
  |_=>vp os
def pY(mu:List Nat)(s:CS)(ol:List Oper):CS:=match vp ol with
 |false=>s
 |true=>Gi s (fT (fQ s.sl) 1000 (kC mu s.tr.get [] ol) [])
theorem vl(mu:List Nat)(s:CS)(ol:List Oper):Le s.den (pY mu s ol).den:=by
 unfold pY;split;·exact Le.refl _
 ·exact qp _ _
structure uK where
  call:fG
  M:List Nat
  nx:Nat
  tm:Nat->V
  σ:Nat->Option Ob
  o:Oper
def H6{α:Type}(b:Bool)(x:Option α):Option α:=Bool.rec (motive:=fun _=>Option α) none x b
def oE{α β:Type}(o:Option α)(els:Option β)(f:α->Option β):Option β:=Option.rec (motive:=fun _=>Option β) els f o
theorem ec{α:Type}{b:Bool}{x:Option α}{y:α}(h:H6 b x=some y):b=true/\x=some y:=by
 cases b with
 |true=>exact⟨rfl,h⟩
 |false=>cases h
def Lt:V->Bool
 | .gd _ _=>false
 |_=>true
def dB(d:Option Tmp):Bool:=Option.rec (motive:=fun _=>Bool) false (fun t=>Nat.ble t 999) d
def eD(T:List TI)(p:uK):Option SX:=Qw T p.M p.nx p.tm p.σ p.o
def LQ(p:uK)(x:Operand)(f:V->Option SX):Option SX:=H6 (Lt (ev p.tm x)) (f (ev p.tm x))
def PZ(p:uK)(r:Option SR)(q:PQ):Option SX:=H6 (and q.dec (dB p.o.dst)) (oE r none fun r=>some ⟨r.v,r.pre,r.δ,(.lf [])⟩)
def KI:V->Option (IntKind×Int)
 | .c (.int k n)=>some (k,n)
 |_=>none
def GM:IntKind->Nat
 | .i8=>0
 | .i16=>1
 | .i32=>2
 | .i64=>3
 | .u8=>4
 | .u16=>5
 | .u32=>6
 | .u64=>7
theorem GN{a b:IntKind}(h:Nat.beq (GM a) (GM b)=true):a=b:=by have h:=Nat.eq_of_beq_eq_true h;cases a <;> cases b <;> first |rfl | (simp [GM]at h)
def Qs(op:BinOp):IntKind->Int->Int->Option (PQ×V):=match op with
 | .add=>fun k a b=>some (vt k (a+b),.c (.int k (a+b)))
 | .sub=>fun k a b=>some (vt k (a- b),.c (.int k (a- b)))
 | .mul=>fun k a b=>some (vt k (a*b),.c (.int k (a*b)))
 | .quo=>fun k a b=>some (.and (.lt 0 b) (vt k a),.c (.int k (a.tdiv b)))
 | .rem=>fun k a b=>some (.ne b 0,.c (.int k (a.tmod b)))
 | .eql=>fun _ a b=>some (.tt,.b (decide (a=b)))
 | .neq=>fun _ a b=>some (.tt,.b (!decide (a=b)))
 | .lss=>fun _ a b=>some (.tt,.b (decide (a< b)))
 | .leq=>fun _ a b=>some (.tt,.b (decide (a<=b)))
 | .gtr=>fun _ a b=>some (.tt,.b (decide (b< a)))
 | .geq=>fun _ a b=>some (.tt,.b (decide (b<=a)))
 |_=>fun _ _ _=>none
theorem JN(k:IntKind)(n:Int):(vt k n).den=yY k n:=by cases k <;> rfl
theorem Mg{op:BinOp}{k:IntKind}{a b:Int}{q:PQ}{v:V}(h:Qs op k a b=some (q,v)):∃c,Dq false op (.c (.int k a)) (.c (.int k b))=some (c,v)/\(q.dec=true->c):=by refine⟨q.den,?_,PQ.ok⟩;cases op <;> simp only [Qs,Option.some.injEq,Prod.mk.injEq,reduceCtorEq]at h <;> (rw [<-h.1,<-h.2];simp [Dq,Ji,PQ.den,JN])
def Iu(_:Call)(T:List TI)(p:uK):Option SX:=match qV (ev p.tm) p.o with
 |some (f,as0)=>wX p.call p.nx p.σ p.o f as0
 |none=>match G8 (ev p.tm) p.o with
  |some q=>FJ p.call p.nx p.σ p.o q
  |none=>eD T p
def Ri(_:TypeId)(_:Operand)(T:List TI)(p:uK):Option SX:=Jj T p.tm p.o
def Qn(T:List TI)(p:uK):Option SX:=oE (Ap T p.tm p.σ p.o) (eD T p) some
def RP(T:List TI)(p:uK)(op:BinOp)(u v:IntKind×Int):Option SX:=oE (H6 (Nat.beq (GM u.1) (GM v.1)) (Qs op u.1 u.2 v.2)) (Qn T p) fun r=>H6 (and r.1.dec (dB p.o.dst)) (some ⟨r.2,[],[],(.lf [])⟩)
def Rh(op:BinOp)(_:TypeId)(x y:Operand)(_:TypeId)(T:List TI)(p:uK):Option SX:=oE (KI (ev p.tm x)) (Qn T p) fun u=>oE (KI (ev p.tm y)) (Qn T p) fun v=>RP T p op u v
def LR(x:Operand)(T:List TI)(p:uK):Option SX:=H6 (and (Lt (ev p.tm x)) (dB p.o.dst)) (some ⟨ev p.tm x,[],[],(.lf [])⟩)
def Iv(t:TypeId)(x:Operand)(T:List TI)(p:uK):Option SX:=LQ p x fun v=>PZ p (kT T t p.σ v) (Cn p.σ v)
def Bc(t:TypeId)(x y:Operand)(T:List TI)(p:uK):Option SX:=LQ p x fun u=>LQ p y fun v=>H6 (and (vH p.σ u v).dec (Option.rec (motive:=fun _=>Bool) true (fun _=>false) p.o.dst)) (oE (iS T t p.σ u v) none fun r=>some ⟨r.v,r.pre,r.δ,(.lf [])⟩)
def NK(t:TypeId)(x:Operand)(f:Nat)(T:List TI)(p:uK):Option SX:=LQ p x fun v=>PZ p (GK T t f v) .tt
def xIdx(t:TypeId)(x y:Operand)(T:List TI)(p:uK):Option SX:=LQ p x fun u=>LQ p y fun v=>PZ p (GL T t p.σ u v) (Km T t p.σ u v)
def NL(x:Operand)(T:List TI)(p:uK):Option SX:=oE (pH (ev p.tm x)) (Jj T p.tm p.o) fun r=>H6 (and (Lt (ev p.tm x)) (dB p.o.dst)) (some ⟨r.v,r.pre,r.δ,(.lf [])⟩)
def NJ(x:Operand)(i:Nat)(T:List TI)(p:uK):Option SX:=LQ p x fun v=>PZ p (kS v i) .tt
def LS(op:Op):List TI->uK->Option SX:=Op.rec (motive:=fun _=>List TI->uK->Option SX) LR LR (fun _ _ _=>eD) (fun _=>eD) (fun _ _=>eD) (fun _ _=>eD) (fun _ _ _=>eD) (fun _ _ _ _=>eD) Iv Bc (fun _=>eD) (fun _=>eD) NL Rh (fun _ _ _=>eD) (fun _ _ _=>eD) (fun _ _=>eD) Ri (fun _ _ _=>eD) (fun _ _=>eD) (fun _ _=>eD) (fun _ _ _=>eD) (fun _ _ _ _ _=>eD) NK (fun _ _ _=>eD) xIdx (fun _ _ _=>eD) (fun _ _ _ _=>eD) (fun _ _ _ _=>eD) (fun _ _ _=>eD) (fun _ _ _ _=>eD) (fun _ _=>eD) (fun _ _=>eD) (fun _=>eD) (fun _ _ _ _=>eD) NJ Iu (fun _=>eD) (fun _=>eD) (fun _=>eD) (fun _ _=>eD) (fun _ _ _=>eD) (fun _ _=>eD) op
theorem lO{α β:Type}{o:Option α}{els:Option β}{f:α->Option β}{y:β}(h:oE o els f=some y):(∃a,o=some a/\f a=some y)\/(o=none/\els=some y):=by
 cases o with
 |none=>exact .inr ⟨rfl,h⟩
 |some a=>exact .inl ⟨a,rfl,h⟩
theorem dg{α β:Type}{o:Option α}{f:α->Option β}{y:β}(h:oE o none f=some y):∃a,o=some a/\f a=some y:=by
 rcases lO h with h | ⟨_,h⟩;·exact h
 ·cases h
theorem i7{v:V}(h:Lt v=true):ug v=v:=by cases v <;> first |rfl |cases h
theorem iF{p:uK}{x:Operand}{f:V->Option SX}{y:SX}(h:LQ p x f=some y):Lt (ev p.tm x)=true/\f (ev p.tm x)=some y:=ec h
theorem mM{v:V}(h:Lt v=true):rV [v]=true:=by cases v <;> first |rfl |cases h
theorem Af{u v:V}(h:Lt u=true)(k:Lt v=true):rV [u,v]=true:=by cases u <;> first |exact mM k |cases h
theorem pq{o:Oper}(h:dB o.dst=true):tV o=true:=by
 unfold dB at h;unfold tV;cases hd:o.dst with
 |none=>rw [hd]at h;cases h
 |some t=>rw [hd]at h;exact h
theorem nS{p:uK}{r:Option SR}{q:PQ}{y:SX}(h:PZ p r q=some y):q.dec=true/\dB p.o.dst=true/\∃r',r=some r'/\y=⟨r'.v,r'.pre,r'.δ,.lf []⟩:=by obtain⟨h1,h2⟩:=ec h;simp only [Bool.and_eq_true]at h1;obtain⟨r',h3,h4⟩:=dg h2;injection h4 with h4;exact⟨h1.1,h1.2,r',h3,h4.symm⟩
theorem GY{T:List TI}{t:Nat}{σ:Nat->Option Ob}{v:V}{r:SR}(h:kT T t σ v=some r)(hq:(Cn σ v).dec=true):r.c:=by
 have hq:=PQ.ok hq;unfold kT at h;unfold Cn at hq;split at h
 ·split at h;·injection h with h;subst h;trivial
  ·cases h
 ·split at h
  ·rename_i hσ;simp only [hσ]at hq;split at h;·injection h with h;subst h;exact hq
   ·cases h
  ·cases h
 ·split at h
  ·rename_i hσ;simp only [hσ]at hq;split at h
   ·split at h;·injection h with h;subst h;exact hq
    ·cases h
   ·cases h
  ·cases h
 ·cases h
theorem EC{T:List TI}{t:Nat}{σ:Nat->Option Ob}{u v:V}{r:SR}(h:iS T t σ u v=some r)(hq:(vH σ u v).dec=true):r.c:=by
 have hq:=PQ.ok hq;unfold iS at h;unfold vH at hq;split at h
 ·rename_i us hus;simp only [hus]at hq;split at h
  ·split at h
   ·rename_i hσ;simp only [hσ]at hq;split at h;·injection h with h;subst h;exact hq
    ·cases h
   ·cases h
  ·split at h
   ·rename_i hσ;simp only [hσ]at hq;split at h;·injection h with h;subst h;exact hq
    ·cases h
   ·cases h
  ·cases h
 ·cases h
theorem MZ{T:List TI}{t:Nat}{σ:Nat->Option Ob}{u v:V}{r:SR}(h:GL T t σ u v=some r)(hq:(Km T t σ u v).dec=true):r.c:=by
 have hq:=PQ.ok hq;unfold GL at h;split at h
 ·rename_i _ i _;unfold nq at h;split at h
  ·split at h
   ·split at h;·injection h with h;subst h;exact hq
    ·cases h
   ·cases h
  ·split at h
   ·rename_i n el ha;have hq:(Ei T t i).den:=hq;unfold Ei at hq;simp only [ha]at hq;split at h;·injection h with h;subst h;exact hq
    ·cases h
   ·cases h
  ·split at h
   ·rename_i n el ha;have hq:(Ei T t i).den:=hq;unfold Ei at hq;simp only [ha]at hq;split at h;·injection h with h;subst h;exact hq
    ·cases h
   ·cases h
  ·split at h
   ·split at h
    ·rename_i hσ;simp only [Km,hσ]at hq;split at h;·injection h with h;subst h;exact hq
     ·cases h
    ·cases h
   ·cases h
  ·cases h
 ·cases h
theorem MY{T:List TI}{t f:Nat}{v:V}{r:SR}(h:GK T t f v=some r):r.c:=by
 unfold GK at h;split at h;·split at h <;> first | (injection h with h;subst h;trivial) |cases h
 ·cases h
theorem z7{v:V}{i:Nat}{r:SR}(h:kS v i=some r):r.c:=by
 unfold kS at h;split at h
 ·split at h;·injection h with h;subst h;trivial
  ·cases h
 ·cases h
theorem JT{v:V}{r:SR}(h:pH v=some r):r.c:=by
 unfold pH at h;split at h;·injection h with h;subst h;trivial
 ·cases h
theorem iM{T:List TI}{wr:Bool}{M:List Nat}{nx:Nat}{o:Oper}{e:Operand->V}{σ:Nat->Option Ob}{r:SR}(h:z8 T wr M nx o e σ=some r):pI T wr M nx o e σ=some r:=by unfold pI;rw [h]
theorem uE{v:V}{k:IntKind}{n:Int}(h:KI v=some (k,n)):v= .c (.int k n):=by
 unfold KI at h;split at h;·injection h with h;injection h with h1 h2;subst h1 h2;rfl
 ·cases h
theorem Iw{P:Program}{W LB:Nat->Prop}{call:fG}{T:List TI}{M:List Nat}{nx:Nat}{tm:Nat->V}{σ:Nat->Option Ob}{o:Oper}{x:SX}(hT:aJ T P)(hcl:cZ P call)(hwl:∀b,W b->LB b)(h:LS o.op T ⟨call,M,nx,tm,σ,o⟩=some x)(he:j8 x.e):II P W LB nx tm σ o x:=by
 obtain⟨d,op,ty,pos,af,gd⟩:=o;have old:∀ {x:SX},eD T ⟨call,M,nx,tm,σ,⟨d,op,ty,pos,af,gd⟩⟩=some x->j8 x.e->II P W LB nx tm σ ⟨d,op,ty,pos,af,gd⟩ x:=fun h he=>FL hT h he;have oldB:∀ {x:SX},Qn T ⟨call,M,nx,tm,σ,⟨d,op,ty,pos,af,gd⟩⟩=some x->j8 x.e->II P W LB nx tm σ ⟨d,op,ty,pos,af,gd⟩ x:=fun h he=>by
  rcases lO h with⟨y,hy,h⟩ | ⟨_,h⟩;·injection h with h;subst h;exact Ed hT hy
  ·exact FL hT h he
 cases op;case move y=>
  obtain⟨h1,h2⟩:=ec h
  simp only [Bool.and_eq_true]at h1
  injection h2 with h2;subst h2
  have e1:=i7 h1.1
  have:=kH (W:=W) (LB:=LB) (M:=M) (wr:=false) (nx:=nx) (σ:=σ) (o:=⟨d,.move y,ty,pos,af,gd⟩) (e:= .lf []) hT (by simp only [Bool.and_eq_true];exact⟨pq (o:=⟨d,.move y,ty,pos,af,gd⟩) h1.2,mM h1.1⟩) (iM rfl) trivial
  simp only [aG,e1]at this
  exact this
 case assign y=>
  obtain⟨h1,h2⟩:=ec h
  simp only [Bool.and_eq_true]at h1
  injection h2 with h2;subst h2
  have e1:=i7 h1.1
  have:=kH (W:=W) (LB:=LB) (M:=M) (wr:=false) (nx:=nx) (σ:=σ) (o:=⟨d,.assign y,ty,pos,af,gd⟩) (e:= .lf []) hT (by simp only [Bool.and_eq_true];exact⟨pq (o:=⟨d,.assign y,ty,pos,af,gd⟩) h1.2,mM h1.1⟩) (iM rfl) trivial
  simp only [aG,e1]at this
  exact this
 case binOp bo t y z t'=>
  rcases lO h with⟨u,hu,h⟩ | ⟨_,h⟩
  ·rcases lO h with⟨v,hv,h⟩ | ⟨_,h⟩
   ·rcases lO h with⟨r,hr,h⟩ | ⟨_,h⟩;·obtain⟨hk,hr⟩:=ec hr;obtain⟨h1,h2⟩:=ec h;simp only [Bool.and_eq_true]at h1;injection h2 with h2;subst h2;obtain⟨k,a⟩:=u;obtain⟨k',b⟩:=v;have hk:=GN hk;simp only at hk;subst hk;obtain⟨q,w⟩:=r;obtain⟨c,hc1,hc2⟩:=Mg hr;have eu:=uE hu;have ev':=uE hv;simp only at eu ev';have:=kH (W:=W) (LB:=LB) (M:=M) (wr:=false) (nx:=nx) (σ:=σ) (o:=⟨d,.binOp bo t y z t',ty,pos,af,gd⟩) (tm:=tm) (r:=aG c w) (e:= .lf []) hT (by simp only [Bool.and_eq_true];exact⟨pq (o:=⟨d,.binOp bo t y z t',ty,pos,af,gd⟩) h1.2,Af (by rw [eu];rfl) (by rw [ev'];rfl)⟩) (iM (by show JV T false bo t (ug (ev tm y)) (ug (ev tm z))=_;rw [eu,ev'];show JV T false bo t (.c (.int k a)) (.c (.int k b))=_;unfold JV;rw [hc1])) (hc2 h1.1);exact this
    ·exact oldB h he
   ·exact oldB h he
  ·exact oldB h he
 case load t y=>
  have h:Iv t y T ⟨call,M,nx,tm,σ,⟨d,.load t y,ty,pos,af,gd⟩⟩=some x:=h
  unfold Iv at h
  obtain⟨h1,h2⟩:=iF h
  obtain⟨h3,h4,r,h5,rfl⟩:=nS h2
  exact kH (W:=W) (LB:=LB) (M:=M) (wr:=false) hT (by simp only [Bool.and_eq_true];exact⟨pq h4,mM h1⟩) (iM (by show kT T t σ (ug (ev tm y))=_;rw [i7 h1];exact h5)) (GY h5 h3)
 case store t y z=>
  have h:Bc t y z T ⟨call,M,nx,tm,σ,⟨d,.store t y z,ty,pos,af,gd⟩⟩=some x:=h
  unfold Bc at h
  obtain⟨h1,h2⟩:=iF h
  obtain⟨k1,k2⟩:=iF h2
  obtain⟨h3,h4⟩:=ec k2
  simp only [Bool.and_eq_true]at h3
  obtain⟨r,h5,h6⟩:=dg h4
  injection h6 with h6;subst h6
  have hd:d=none:=by
   cases d with
   |none=>rfl
   |some t=>exact absurd h3.2 (by simp)
  subst hd
  exact kH (W:=W) (LB:=LB) (M:=M) (wr:=false) hT (by simp only [Bool.and_eq_true];exact⟨rfl,Af h1 k1⟩) (iM (by show iS T t σ (ug (ev tm y)) (ug (ev tm z))=_;rw [i7 h1,i7 k1];exact h5)) (EC h5 h3.1)
 case fieldAddr t y f=>
  have h:NK t y f T ⟨call,M,nx,tm,σ,⟨d,.fieldAddr t y f,ty,pos,af,gd⟩⟩=some x:=h
  unfold NK at h
  obtain⟨h1,h2⟩:=iF h
  obtain⟨h3,h4,r,h5,rfl⟩:=nS h2
  exact kH (W:=W) (LB:=LB) (M:=M) (wr:=false) hT (by simp only [Bool.and_eq_true];exact⟨pq h4,mM h1⟩) (iM (by show GK T t f (ug (ev tm y))=_;rw [i7 h1];exact h5)) (MY h5)
 case indexAddr t y z=>
  have h:xIdx t y z T ⟨call,M,nx,tm,σ,⟨d,.indexAddr t y z,ty,pos,af,gd⟩⟩=some x:=h
  unfold xIdx at h
  obtain⟨h1,h2⟩:=iF h
  obtain⟨k1,k2⟩:=iF h2
  obtain⟨h3,h4,r,h5,rfl⟩:=nS k2
  exact kH (W:=W) (LB:=LB) (M:=M) (wr:=false) hT (by simp only [Bool.and_eq_true];exact⟨pq h4,Af h1 k1⟩) (iM (by show GL T t σ (ug (ev tm y)) (ug (ev tm z))=_;rw [i7 h1,i7 k1];exact h5)) (MZ h5 h3)
 case nilCheck y=>
  have h:NL y T ⟨call,M,nx,tm,σ,⟨d,.nilCheck y,ty,pos,af,gd⟩⟩=some x:=h
  unfold NL at h
  rcases lO h with⟨r,h5,h⟩ | ⟨_,h⟩
  ·obtain⟨h1,h2⟩:=ec h;simp only [Bool.and_eq_true]at h1;injection h2 with h2;subst h2;have h5:pH (ev tm y)=some r:=h5;exact kH (W:=W) (LB:=LB) (M:=M) (wr:=false) hT (by simp only [Bool.and_eq_true];exact⟨pq h1.2,mM h1.1⟩) (by unfold pI;show(match vw T ⟨d,.nilCheck y,ty,pos,af,gd⟩ (fun x=>ug (ev tm x)) σ with |some r=>some r |none=>_)=_;rw [show vw T ⟨d,.nilCheck y,ty,pos,af,gd⟩ (fun x=>ug (ev tm x)) σ=some r from by show pH (ug (ev tm y))=_;rw [i7 h1.1];exact h5]) (JT h5)
  ·exact BE hT h
 case extract y i=>
  have h:NJ y i T ⟨call,M,nx,tm,σ,⟨d,.extract y i,ty,pos,af,gd⟩⟩=some x:=h
  unfold NJ at h
  obtain⟨h1,h2⟩:=iF h
  obtain⟨h3,h4,r,h5,rfl⟩:=nS h2
  exact kH (W:=W) (LB:=LB) (M:=M) (wr:=false) hT (by simp only [Bool.and_eq_true];exact⟨pq h4,mM h1⟩) (iM (by show kS (ug (ev tm y)) i=_;rw [i7 h1];exact h5)) (z7 h5)
 case makeInterface t y=>exact BE hT h
 case call c=>
  have h:Iu c T ⟨call,M,nx,tm,σ,⟨d,.call c,ty,pos,af,gd⟩⟩=some x:=h
  unfold Iu at h
  split at h
  ·exact FC hcl hwl (by assumption) h he
  ·split at h;·exact FK hcl hwl (by assumption) h he
   ·exact old h he
 all_goals exact old h he
def zA(a b:CT):CT:=match a with
 | .lf l=>match l with
  | []=>b
  |x::l=> .nd (.lf (x::l)) b
 | .nd c d=> .nd (.nd c d) b
theorem mF{a b:CT}(h:j8 (zA a b)):j8 a/\j8 b:=by
 unfold zA at h;split at h
 ·split at h;·exact⟨(fun p hp=>nomatch hp),h⟩
  ·exact h
 ·exact h
abbrev KS:Type:=List (List Nat×List Nat)
abbrev RK:Type:=CS->KS->Option (CS×KS×CT)
def Q3(call:fG)(T:List TI)(M:List Nat)(o:Oper)(ih:RK)(s:CS)(ks:KS):Option (CS×KS×CT):= oE (LS o.op T ⟨call,M,s.nx,s.tr.get,fQ s.sl,o⟩) none fun x=>oE (ih ⟨O6 s.tr o.dst x.v,Cm s.sl x.δ,s.nx⟩ ((aQ x.δ,dN x.pre++aQ x.δ)::ks)) none fun r=>some (r.1,r.2.1,zA x.e r.2.2)
def HR(call:fG)(T:List TI)(M:List Nat)(ol:List Oper)(o:Oper)(ih:RK)(s:CS)(ks:KS):Option (CS×KS×CT):=match o.guard with
 |none=>Q3 call T M o ih s ks
 |some _=>match eN (ol.map (·.dst)) s.tr.get o with
  |some (some g)=>match g with
   |true=>Q3 call T M o ih s ks
   |false=>match o.dst with
    |some t=>match Nat.ble t 999 with
     |true=>ih ⟨TR.put 10 s.tr t (.gd false (.b false)),s.sl,s.nx⟩ (([],[])::ks)
     |false=>none
    |none=>none
  |_=>none
def tv(call:fG)(T:List TI)(M:List Nat)(ol:List Oper)(os:List Oper):RK:=List.rec (motive:=fun _=>RK) (fun s ks=>some (s,ks,.lf [])) (fun o _ ih=>HR call T M ol o ih) os
theorem HQ(call:fG)(T:List TI)(M:List Nat)(ol:List Oper)(s:CS)(ks:KS):tv call T M ol [] s ks=some (s,ks,.lf []):=rfl
theorem Ej(call:fG)(T:List TI)(M:List Nat)(ol:List Oper)(o:Oper)(os:List Oper)(s:CS)(ks:KS):tv call T M ol (o::os) s ks=HR call T M ol o (tv call T M ol os) s ks:=rfl
theorem f8{P:Program}{N:Nat}{C:Cx P N}{T:List TI}{M:List Nat}{call:fG}(hT:aJ T P)(hcl:cZ P call){ol:List Oper}{K:(Nat->V)->(Nat->Option Ob)->List (List Nat×List Nat)->Prop} : ∀ {os:List Oper}{s:CS}{ks:List (List Nat×List Nat)}{s':CS}{ks':List (List Nat×List Nat)}{e:CT},tv call T M ol os s ks=some (s',ks',e)->j8 e->s'.nx=s.nx/\(K s'.tr.get (fQ s'.sl) ks'.reverse->bB C ol.toArray s.nx os s.tr.get (fQ s.sl) ks.reverse K)
 | [],s,ks,s',ks',e,h,he=>by simp only [HQ,Option.some.injEq,Prod.mk.injEq]at h;obtain⟨rfl,rfl,rfl⟩:=h;exact⟨rfl,id⟩
 |o::os,s,ks,s',ks',e,h,he=>by
  have run:dF ol.toArray s.tr.get o=some true->Q3 call T M o (tv call T M ol os) s ks=some (s',ks',e)->s'.nx=s.nx/\(K s'.tr.get (fQ s'.sl) ks'.reverse->bB C ol.toArray s.nx (o::os) s.tr.get (fQ s.sl) ks.reverse K):=by intro hw h;obtain⟨x,hx,h⟩:=dg h;obtain⟨r,h1,h⟩:=dg h;obtain⟨s1,ks1,e1⟩:=r;simp only [Option.some.injEq,Prod.mk.injEq]at h;obtain⟨rfl,rfl,rfl⟩:=h;have he:=mF he;obtain⟨nw,q1,q2,q3,q4⟩:=Iw (W:=C.W) (LB:=C.LB) hT hcl C.wl hx he.1;obtain⟨r1,r2⟩:=f8 hT hcl (C:=C) (K:=K) h1 he.2;refine⟨r1,fun hk=>⟨⟨true,x.v,x.pre,nw,x.δ⟩,⟨hw,fun _=>⟨q1,q2,q3⟩,by simp⟩,?_⟩⟩;have:=r2 hk;rw [HK q4,xQ,List.reverse_cons]at this;exact this
  rw [Ej]at h;unfold HR at h;split at h;·rename_i hg;exact run (by unfold dF;rw [hg]) h
  ·rename_i gd' hg;split at h
   ·rename_i g hgv;have hw:=gy (ops:=ol.toArray) (r:=some g) (by simpa using hgv);split at h;·exact run hw h
    ·split at h
     ·rename_i t ht;split at h;·rename_i hlt;obtain⟨r1,r2⟩:=f8 hT hcl (C:=C) (K:=K) h he;refine⟨r1,fun hk=> ?_⟩;have:=r2 hk;rw [TR.jO (Nat.lt_succ_of_le (Nat.le_of_ble_eq_true hlt)),List.reverse_cons]at this;exact jf (by simpa using hgv) ht this
      ·cases h
     ·cases h
   ·cases h
def O3(ops:List Oper):Bool:=
 decide ((ops.filterMap (·.dst)).Nodup) &&
 (List.range ops.length).all (fun i=>match ops[i]? with
  |some o=>(cy o).all (· < i) &&
   (List.range ops.length).all (fun j=>j == i || match ((ops.map (·.dst))[j]?).bind id with
    |some t=> !(looks (ops.map (·.dst)) o).contains t || (cy o).contains j || (reach ops ops.length [j]).contains i
    |none=>true)
  |none=>true)
def Qi(ks:KS):Bool:=ks.all fun p=>p.1.isEmpty
def Kh(ops:List Oper)(ks:KS):Bool:=O3 ops && (Qi ks || fB ops ks.reverse)
theorem Cb{ops:List Oper}{kr:KS}(h:Kh ops kr=true):fB ops kr.reverse=true:=by
 simp only [Kh,Bool.and_eq_true,Bool.or_eq_true]at h;have hm:Qi kr=true->Qi kr.reverse=true:=fun h=>by simpa [Qi]using h
 generalize kr.reverse=ks at h hm ⊢;obtain⟨h1,h2 |h2⟩:=h
 ·simp only [O3,Bool.and_eq_true]at h1;obtain⟨h3,h4⟩:=h1;simp only [fB,Bool.and_eq_true];refine⟨h3,List.all_eq_true.2 fun i hi=> ?_⟩;have h5:=List.all_eq_true.1 h4 i hi;have h2:=hm h2;have hw:∀(j:Nat) (w f:List Nat),ks[j]?=some (w,f)->w=[]:=fun j w f hj=>by have:=List.all_eq_true.1 h2 _ (List.mem_of_getElem? hj);simpa using this
  cases ho:ops[i]? with
  |none=>rfl
  |some o=>
   rw [ho]at h5;simp only [Bool.and_eq_true]at h5 ⊢;refine⟨h5,?_⟩;cases hk:ks[i]? with
   |none=>rfl
   |some p=>
    obtain⟨wi,fi⟩:=p;simp only [Bool.or_eq_true];refine .inr (List.all_eq_true.2 fun j hj=> ?_);cases hkj:ks[j]? with
    |none=>rfl
    |some q=>obtain⟨wj,fj⟩:=q;have e1:=hw i wi fi hk;have e2:=hw j wj fj hkj;subst e1 e2;simp
 ·exact h2
inductive CC where
  |code (c:Code) (k:List Fr) (s:CS)
  |ops (ol:List Oper) (dr:Bool) (rest:List Oper) (s:CS) (ks:List (List Nat×List Nat)) (k:List Fr)
  |done (e:Exit) (k:List Fr) (s:CS)
def CC.den:CC->wm
 | .code c k s=> .code c k s.den
 | .ops ol dr rest s ks k=> .ops ol dr rest s.tr.get (fQ s.sl) s.nx ks k
 | .done e k s=> .done e k s.den
def c0:CT:= .lf []
abbrev N3:Type:=Operand->Array Tmp->Code->Code->CS->Option (Exit×CS×CT)
def Br{P:Program}{N:Nat}(C:Cx P N)(rng:N3):Prop:=∀g ps as0 bd s e s' t,rng g ps as0 bd s=some (e,s',t)->j8 t->∀Q:Exit->S->Prop,Q e s'.den->AW C (.rangeFunc g ps as0 bd) Q s.den
def Nn:N3:=fun _ _ _ _ _=>none
theorem Cs{P:Program}{N:Nat}{C:Cx P N}:Br C Nn:=fun _ _ _ _ _ _ _ _ h=>by cases h
abbrev EK:Type:=CS->Option (Exit×CS×CT)
def MP:Exit->Bool
 | .normal=>true
 |_=>false
theorem MQ{e:Exit}(h:MP e=true):e= .normal:=by cases e <;> first |rfl |cases h
theorem GH{e:Exit}(h:MP e=false):e≠ .normal:=by intro he;subst he;cases h
def Il:V->Option Bool
 | .c (.bool t)=>some t
 |_=>none
theorem Im{v:V}{t:Bool}(h:Il v=some t):v= .b t:=by
 unfold Il at h;split at h;·injection h with h;subst h;rfl
 ·cases h
def Ow(t:CT)(q:Exit×CS×CT):Option (Exit×CS×CT):=some (q.1,q.2.1,zA t q.2.2)
def xm(b:EK)(r:Exit×CS×CT):Option (Exit×CS×CT):=Bool.rec (motive:=fun _=>Option (Exit×CS×CT)) (some r) (oE (b r.2.1) none (Ow r.2.2)) (MP r.1)
def OA(a b:EK):EK:=fun s=>oE (a s) none (xm b)
def Ov(c:Operand)(a b:EK):EK:=fun s=>oE (Il (ev s.tr.get c)) none fun t=>Bool.rec (motive:=fun _=>Option (Exit×CS×CT)) (b s) (a s) t
def Oi(id:Nat):Exit->Exit
 | .exit id'=>match Nat.beq id' id with
  |true=> .normal
  |false=> .exit id'
 |e=>e
def Mu(id:Nat)(a:EK):EK:=fun s=>oE (a s) none fun r=>some (Oi id r.1,r.2)
def B5(a:EK)(k:Nat):EK:=Nat.rec (motive:=fun _=>EK) a (fun _ ih s=>oE (ih s) none (xm ih)) k
def Ox(a:EK):EK:=fun s=>oE (B5 a 30 s) none fun r=>Bool.rec (motive:=fun _=>Option (Exit×CS×CT)) (some r) none (MP r.1)
def OY:Exit->Bool
 | .goto _=>false
 |_=>true
def Mv(a:EK):EK:=fun s=>oE (a s) none fun r=>H6 (OY r.1) (some r)
def Jm(e:Exit):EK:=fun s=>some (e,s,c0)
def Oz(dr:Bool)(ol:List Oper)(r:CS×KS×CT):Option (Exit×CS×CT):=H6 (Bool.rec (motive:=fun _=>Bool) true (Kh ol r.2.1) dr) (some (.normal,⟨r.1.tr,r.1.sl,r.1.nx+1⟩,r.2.2))
def Oy(call:fG)(T:List TI)(M mu:List Nat)(N:Nat)(ops:Array Oper)(dr:Bool):EK:=fun s=>H6 (fK N ops.toList) (oE (tv call T M ops.toList ops.toList (pY mu s ops.toList) []) none (Oz dr ops.toList))
def Lf:EK:=fun _=>none
def xw(call:fG)(rng:N3)(T:List TI)(M mu:List Nat)(N:Nat)(c:Code):EK:=Code.rec (motive:=fun _=>EK) (Jm .normal) (fun _ ops dr=>Oy call T M mu N ops dr) (fun _ _ a b=>OA a b) (fun c _ _ a b=>Ov c a b) (fun id _ a=>Mu id a) (fun _ a=>Ox a) (fun f ps as0 bd _ _=>rng f ps as0 bd) (fun id=>Jm (.exit id)) (fun _ a=>Mv a) (fun _=>Jm .normal) (fun _=>Lf) (Jm .ret) (fun _=>Lf) c
section
variable {P:Program}{N:Nat}{C:Cx P N}{T:List TI}{M mu:List Nat}{call:fG}{rng:N3}
def Dv(C:Cx P N)(c:Code)(f:EK):Prop:=∀s e s' t,f s=some (e,s',t)->j8 t->∀Q:Exit->S->Prop,Q e s'.den->AW C c Q s.den
theorem ry{b:EK}{r q:Exit×CS×CT}(h:xm b r=some q):(MP r.1=false/\q=r)\/(r.1= .normal/\∃p,b r.2.1=some p/\q=(p.1,p.2.1,zA r.2.2 p.2.2)):=by
 unfold xm at h;cases hn:MP r.1 with
 |false=>rw [hn]at h;injection h with h;exact .inl ⟨rfl,h.symm⟩
 |true=>rw [hn]at h;obtain⟨p,hp,h⟩:=dg h;injection h with h;exact .inr ⟨MQ hn,p,hp,h.symm⟩
theorem Jo{x y:Code}{a b:EK}(ha:Dv C x a)(hb:Dv C y b):Dv C (.seq x y) (OA a b):=by
 intro s e s' t h he Q hQ;obtain⟨r,hr,h⟩:=dg h;obtain⟨e1,s1,t1⟩:=r;rcases ry h with⟨h1,h2⟩ | ⟨h1,p,hp,h2⟩;·simp only [Prod.mk.injEq]at h2;obtain⟨rfl,rfl,rfl⟩:=h2;refine zu (ha _ _ _ _ hr he _ ?_);have:=GH h1;cases e <;> first |exact absurd rfl this |exact hQ
 ·simp only at h1 hp;subst h1;obtain⟨e2,s2,t2⟩:=p;simp only [Prod.mk.injEq]at h2;obtain⟨rfl,rfl,rfl⟩:=h2;have he:=mF he;exact zu (ha _ _ _ _ hr he.1 _ (hb _ _ _ _ hp he.2 _ hQ))
theorem nu{c:Code}{a:EK}(ha:Dv C c a){Q:Exit->S->Prop}:∀(k:Nat) (s:CS) (e:Exit) (s':CS) (t:CT),B5 a k s=some (e,s',t)->j8 t->(e= .normal->∀m,KX C c Q m s'.den->∃m',KX C c Q m' s.den)/\(e≠ .normal->Q e s'.den->∃m',KX C c Q m' s.den)
 |0,s,e,s',t,h,he=>by
  have h:a s=some (e,s',t):=h;refine⟨fun hn m hm=>⟨m+1,?_⟩,fun hn hq=>⟨1,?_⟩⟩;·subst hn;exact ha _ _ _ _ h he _ hm
  ·refine ha _ _ _ _ h he _ ?_;cases e <;> first |exact absurd rfl hn |exact hq
 |k+1,s,e,s',t,h,he=>by
  have h:oE (B5 a k s) none (xm (B5 a k))=some (e,s',t):=h;obtain⟨r,hr,h⟩:=dg h;obtain⟨e1,s1,t1⟩:=r;rcases ry h with⟨h1,h2⟩ | ⟨h1,p,hp,h2⟩;·simp only [Prod.mk.injEq]at h2;obtain⟨rfl,rfl,rfl⟩:=h2;exact nu ha k _ _ _ _ hr he
  ·simp only at h1 hp;subst h1;obtain⟨e2,s2,t2⟩:=p;simp only [Prod.mk.injEq]at h2;obtain⟨rfl,rfl,rfl⟩:=h2;have he:=mF he;have q1:=nu (Q:=Q) ha k _ _ _ _ hr he.1;have q2:=nu (Q:=Q) ha k _ _ _ _ hp he.2;refine⟨fun hn m hm=> ?_,fun hn hq=> ?_⟩;·obtain⟨m1,h3⟩:=q2.1 hn m hm;exact q1.1 rfl m1 h3
   ·obtain⟨m1,h3⟩:=q2.2 hn hq;exact q1.1 rfl m1 h3
theorem Jn(hT:aJ T P)(hcl:cZ P call){id:Nat}{ops:Array Oper}{dr:Bool}:Dv C (.region id ops dr) (Oy call T M mu N ops dr):=by
 intro s e s' t h he Q hQ;obtain⟨hok,h⟩:=ec h;obtain⟨r,hr,h⟩:=dg h;obtain⟨s1,ks,t1⟩:=r;obtain⟨hd,h⟩:=ec h;simp only [Option.some.injEq,Prod.mk.injEq]at h;obtain⟨rfl,rfl,rfl⟩:=h;have e0:ops=ops.toList.toArray:=by simp
 refine o5 (vl mu s ops.toList) ?_;cases dr with
 |false=>rw [e0];obtain⟨q1,q2⟩:=f8 hT hcl (C:=C) (K:=fun tm' σ' _=>Q .normal ⟨tm',σ',(pY mu s ops.toList).nx+1⟩) (by simpa using hr) he;refine oa (s:=(pY mu s ops.toList).den) (by simpa using hok) (q2 ?_);have hk':Q .normal ⟨s1.tr.get,fQ s1.sl,s1.nx+1⟩:=hQ;rw [q1]at hk';exact hk'
 |true=>rw [e0];obtain⟨q1,q2⟩:=f8 hT hcl (C:=C) (K:=fun tm' σ' ks'=>fB ops.toList ks'=true/\Q .normal ⟨tm',σ',(pY mu s ops.toList).nx+1⟩) (by simpa using hr) he;refine mD (s:=(pY mu s ops.toList).den) (by simpa using hok) (q2 ⟨Cb hd,?_⟩);have hk':Q .normal ⟨s1.tr.get,fQ s1.sl,s1.nx+1⟩:=hQ;rw [q1]at hk';exact hk'
theorem m9(hT:aJ T P)(hcl:cZ P call)(hrg:Br C rng)(c:Code):Dv C c (xw call rng T M mu N c):=by
 induction c with
 |skip=>intro s e s' t h he Q hQ;injection h with h;simp only [Prod.mk.injEq]at h;obtain⟨rfl,rfl,rfl⟩:=h;exact ak hQ
 |region id ops dr=>exact Jn hT hcl
 |seq a b iha ihb=>exact Jo iha ihb
 |cond c a b iha ihb=>
  intro s e s' t h he Q hQ;obtain⟨tt,ht,h⟩:=dg h;have ht:=Im ht;cases tt with
  |true=>exact m0 ht (fun _=>iha _ _ _ _ h he Q hQ) fun h=>by cases h
  |false=>exact m0 ht (fun h=>by cases h) fun _=>ihb _ _ _ _ h he Q hQ
 |block id a iha=>
  intro s e s' t h he Q hQ;obtain⟨r,hr,h⟩:=dg h;obtain⟨e1,s1,t1⟩:=r;simp only [Option.some.injEq,Prod.mk.injEq]at h;obtain⟨rfl,rfl,rfl⟩:=h;refine aq (iha _ _ _ _ hr he _ ?_);cases e1 with
  |exit id'=>
   simp only [Oi]at hQ;split at hQ;·rename_i hb;have hb:=Nat.eq_of_beq_eq_true hb;subst hb;exact bu hQ
   ·rename_i hb;exact Iy (by simpa using Nat.ne_of_beq_eq_false hb) hQ
  |_=>exact hQ
 |loop a iha=>
  intro s e s' t h he Q hQ;obtain⟨r,hr,h⟩:=dg h;obtain⟨e1,s1,t1⟩:=r;cases hn:MP e1 with
  |true=>simp only [hn]at h;cases h
  |false=>simp only [hn,Option.some.injEq,Prod.mk.injEq]at h;obtain⟨rfl,rfl,rfl⟩:=h;obtain⟨m,hm⟩:=(nu iha 30 _ _ _ _ hr he).2 (GH hn) hQ;exact lH m hm
 |rangeFunc f ps as0 bd _ _=>intro s e s' t h he Q hQ;exact hrg _ _ _ _ _ _ _ _ h he Q hQ
 |exit id=>intro s e s' t h he Q hQ;injection h with h;simp only [Prod.mk.injEq]at h;obtain⟨rfl,rfl,rfl⟩:=h;exact aP hQ
 |scope a iha=>intro s e s' t h he Q hQ;obtain⟨r,hr,h⟩:=dg h;obtain⟨e1,s1,t1⟩:=r;obtain⟨hg,h⟩:=ec h;simp only [Option.some.injEq,Prod.mk.injEq]at h;obtain⟨rfl,rfl,rfl⟩:=h;refine wQ (iha _ _ _ _ hr he _ ?_);cases e1 <;> first |exact hQ |cases hg
 |label l=>intro s e s' t h he Q hQ;injection h with h;simp only [Prod.mk.injEq]at h;obtain⟨rfl,rfl,rfl⟩:=h;exact wO hQ
 |goto l=>intro s e s' t h;cases h
 |ret=>intro s e s' t h he Q hQ;injection h with h;simp only [Prod.mk.injEq]at h;obtain⟨rfl,rfl,rfl⟩:=h;exact ax hQ
 |refuse w=>intro s e s' t h;cases h
end
def MM:List (Nat×V)->List Nat
 | []=>[]
 |p::l=>p.2.ids++MM l
def GG(nl:List Nat)(i:Nat):Nat:=match jJ nl i with
 |true=>xJ nl i
 |false=>i
def fS:Nat->List Nat->List (Nat×Nat)
 |_,[]=>[]
 |j,k::l=>(j,k)::fS (j+1) l
def jo(g:Nat->Nat):List (Nat×V)->List (Nat×V)
 | []=>[]
 |p::l=>(p.1,p.2.bx g)::jo g l
def vals:List (Nat×V)->List V
 | []=>[]
 |p::l=>p.2::vals l
theorem qj{α:Type}{p:α->Prop}:∀ {l:List α},(∀x∈l,p x)->lX p l
 | [],_=> .nil
 |x::l,h=> .cons (h x (by simp)) (qj fun y hy=>h y (by simp [hy]))
theorem qB:∀ {os:List (Option Ob)}{k:Nat}{p:Nat×Ob},p∈j4 k os->∃i,p.1=k+i/\os[i]?=some (some p.2)
 | [],_,_,h=>by simp [j4]at h
 |none::os,k,p,h=>by obtain⟨i,h1,h2⟩:=qB (os:=os) h;exact⟨i+1,by omega,by simpa using h2⟩
 |some o::os,k,p,h=>by
  rcases List.mem_cons.1 h with rfl |h;·exact⟨0,rfl,rfl⟩
  ·obtain⟨i,h1,h2⟩:=qB (os:=os) h;exact⟨i+1,by omega,by simpa using h2⟩
theorem lN:∀ {nl:List Nat}{j i:Nat}{k:Nat},nl[i]?=some k->(fS j nl).find? (·.1 == j+i)=some (j+i,k)
 |a::nl,j,0,k,h=>by simp at h;subst h;simp [fS]
 |a::nl,j,i+1,k,h=>by
  have:=lN (j:=j+1) (i:=i) (nl:=nl) (by simpa using h);rw [fS,List.find?_cons];have e:((j,a).1 == j+(i+1))=false:=by simp
  rw [e,show j+(i+1)=j+1+i by omega];exact this
theorem um:∀ {nl:List Nat}{j m:Nat},j+nl.length<=m->(fS j nl).find? (·.1 == m)=none
 | [],_,_,_=>rfl
 |a::nl,j,m,h=>by
  simp only [List.length_cons]at h;rw [fS,List.find?_cons];have e:((j,a).1 == m)=false:=by simp only [beq_eq_false_iff_ne];omega
  rw [e];exact um oM
theorem sg{g gi:Nat->Nat}{tm:Nat->V}:∀ {tl:List (Nat×V)},(∀p∈tl,tm p.1=p.2)->vals tl=V.aV g (vals (jo gi tl))->lX (fun p=>tm p.1=p.2.bx g) (jo gi tl)
 | [],_,_=> .nil
 |p::tl,h,e=>by simp only [vals,jo,V.aV,List.cons.injEq]at e;exact .cons ((h p (by simp)).trans e.1) (sg (fun q hq=>h q (by simp [hq])) e.2)
end
end Go.Ab

namespace Go.Ab
open Go.RowKit Go.Dw Go.Shelf
structure P5(P:Program)(es:List (List V)) where
  l:Nat
  J:Nat->Bool->(Nat->Prop)->World->Prop
  L0:Nat->Prop
  B:Nat
  hY:∀k x A W1,k< es.length->Qp es k x W1->(∀b,A b->B<=b/\b< W1.heap.size)->B<=W1.heap.size->J k true A W1->YieldAt Fence.wide 0 P l x W1 fun e W2=>∃b:Bool,e= .returned (.bool b)/\aZ (fun i=>¬A i/\¬L0 i) W1 W2/\(b=true->J (k+1) true A W2)/\(b=false->J k false A W2)
  hJ:∀k g A W1 W2,J k g A W1->(∀b,A b->B<=b/\b< W1.heap.size)->B<=W1.heap.size->aZ A W1 W2->J k g (fun b=>A b\/(W1.heap.size<=b/\b< W2.heap.size)) W2
  hL:∀b,L0 b->b< B
structure Qq{P:Program}{N:Nat}{es:List (List V)}(C:Cx P N)(Y:P5 P es)(A:Nat->Prop)(w:World):Prop where
  F:C.F=Fence.wide
  d:C.dfs=pz
  W:∀b,C.W b<->A b\/w.heap.size<=b
  LB:∀b,C.LB b->Y.L0 b\/A b\/w.heap.size<=b
  A:∀b,A b->Y.B<=b/\b< w.heap.size
  B:Y.B<=w.heap.size
section
variable {P:Program}{N:Nat}{es:List (List V)}{Y:P5 P es}{Q:Exit->S->Nat->Bool->Prop}{s:S}{k:Nat}{g:Bool}
theorem Qq.later{C:Cx P N}{A:Nat->Prop}{w w':World}(h:Qq C Y A w)(t:aZ C.W w w'):Qq C Y (fun b=>A b\/(w.heap.size<=b/\b< w'.heap.size)) w'/\aZ A w w':=by
 have hs:=t.size;refine⟨⟨h.F,h.d,fun b=>(h.W b).trans ?_,fun b hb=> ?_,fun b hb=> ?_,Nat.le_trans h.B hs⟩,t.mono fun j hj hW=>by rcases(h.W j).1 hW with h |h;exact h;omega⟩
 ·constructor
  ·rintro(h |h);·exact .inl (.inl h)
   ·by_cases hb:b< w'.heap.size;·exact .inl (.inr ⟨h,hb⟩)
    ·exact .inr oM
  ·rintro((h |h) |h);·exact .inl h
   ·exact .inr h.1
   ·exact .inr oM
 ·rcases h.LB b hb with h |h |h;·exact .inl h
  ·exact .inr (.inl (.inl h))
  ·by_cases hb:b< w'.heap.size;·exact .inr (.inl (.inr ⟨h,hb⟩))
   ·exact .inr (.inr oM)
 ·rcases hb with hb |hb;·exact⟨(h.A b hb).1,Nat.lt_of_lt_of_le (h.A b hb).2 hs⟩
  ·exact⟨Nat.le_trans h.B hb.1,hb.2⟩
end
noncomputable section
section
variable {P:Program}(N:Nat){es:List (List V)}(Y:P5 P es) (Q:Exit->S->Nat->Bool->Prop)
end
structure JX where
  g:CC
  y:Option (List V)
  side:Option CC
  e:CT
def Lr(tm:Nat->V)(ys:List Nat):Operand->Bool
 | .tmp t=>match jJ ys t with
  |true=>true
  |false=>match tm t with
   | .c (.func (.yield _) _ _)=>true
   |_=>false
 |_=>false
def Iz(tm:Nat->V):List Nat->List Oper->Option Nat
  |_,[]=>none
  |ys,o::os=>match o.op with
    | .call c=>match c.callee with
      | .value fo=>match Lr tm ys fo with
        |true=>some 0
        |false=>match Iz tm ys os with
          |some n=>some (n+1)
          |none=>none
      |_=>match Iz tm ys os with
        |some n=>some (n+1)
        |none=>none
    | .move x=>match Iz tm (match Lr tm ys x with
        |true=>o.dst.getD 0::ys
        |false=>ys) os with
      |some n=>some (n+1)
      |none=>none
    |_=>match Iz tm ys os with
      |some n=>some (n+1)
      |none=>none
def P2(tm:Nat->V)(o:Oper):Option (V×List V):=match o.op with
 | .call c=>match c.callee with
  | .value fo=>match V.bq (c.args.toList.map (fun x=>ug (ev tm x))) && ((fo::c.args.toList).all fun x=>Re (ev tm x))with
   |true=>some (ug (ev tm fo),c.args.toList.map (fun x=>ug (ev tm x)))
   |false=>none
  |_=>none
 |_=>none
def RC(gOk:Bool)(ol:List Oper)(tm:Nat->V)(o:Oper):Bool:=match o.guard with
 |none=>(opsV tm o).all fun v=>match v with
  | .gd _ _=>false
  |_=>true
 |some _=>match gOk with
  |false=>false
  |true=>match eN (ol.map (·.dst)) tm o with
   |some (some g)=>g
   |_=>false
def MS(gOk:Bool)(call:fG)(T:List TI)(M:List Nat)(l:Nat)(ol:List Oper)(k:List Fr)(s:CS)(n:Nat):Option JX:=
 match ol[n]? with
  |some o=>match o.dst with
   |some d=>match decide (d< 1000)with
    |true=>match tv call T M ol (ol.take n) s []with
     |some (s1,_,e1)=>match RC gOk ol s1.tr.get o with
      |true=>match P2 s1.tr.get o with
       |some (fv,as0)=>match tv call T M ol (ol.drop (n+1)) ⟨TR.put 10 s1.tr d (.b true),s1.sl,s1.nx⟩ []with
        |some (s2,_,e2)=>match tv call T M ol (ol.drop (n+1)) ⟨TR.put 10 s1.tr d (.b false),s1.sl,s1.nx⟩ []with
         |some (s3,_,e3)=>some ⟨.done .normal k ⟨s2.tr,s2.sl,s2.nx+1⟩,some as0,some (.done .normal k ⟨s3.tr,s3.sl,s3.nx+1⟩),.nd (.lf [(.vs [fv],.vs [.c (.func (.yield l) #[] #[])])]) (.nd e1 (.nd e2 e3))⟩
         |none=>none
        |none=>none
       |none=>none
      |false=>none
     |none=>none
    |false=>none
   |none=>none
  |none=>none
def JR(gOk:Bool)(call:fG)(T:List TI)(M mu:List Nat)(N l:Nat):CC->Option JX
 | .done e k s=>match k with
  | []=>none
  | .c y::k=>match e with
   | .normal=>some ⟨.code y k s,none,none,c0⟩
   |e=>some ⟨.done e k s,none,none,c0⟩
  | .b id::k=>match e with
   | .exit id'=>match Nat.beq id' id with
    |true=>some ⟨.done .normal k s,none,none,c0⟩
    |false=>some ⟨.done (.exit id') k s,none,none,c0⟩
   |e=>some ⟨.done e k s,none,none,c0⟩
  | .l y m::k=>match e with
   | .normal=>match m with
    |0=>none
    |m+1=>some ⟨.code y (.l y m::k) s,none,none,c0⟩
   |e=>some ⟨.done e k s,none,none,c0⟩
  | .s::_=>none
 | .code c k s=>match c with
  | .skip=>some ⟨.done .normal k s,none,none,c0⟩
  | .exit id=>some ⟨.done (.exit id) k s,none,none,c0⟩
  | .ret=>some ⟨.done .ret k s,none,none,c0⟩
  | .seq x y=>some ⟨.code x (.c y::k) s,none,none,c0⟩
  | .block id x=>some ⟨.code x (.b id::k) s,none,none,c0⟩
  | .loop x=>some ⟨.code x (.l x 1000000::k) s,none,none,c0⟩
  | .cond c x y=>match ev s.tr.get c with
   | .c (.bool t)=>match t with
    |true=>some ⟨.code x k s,none,none,c0⟩
    |false=>some ⟨.code y k s,none,none,c0⟩
   |_=>none
  | .region _ ops dr=>match fK N ops.toList with
   |true=>match tv call T M ops.toList ops.toList (pY mu s ops.toList) []with
    |some (s',ks,e)=>match dr with
     |false=>some ⟨.done .normal k ⟨s'.tr,s'.sl,s'.nx+1⟩,none,none,e⟩
     |true=>match Kh ops.toList ks with
      |true=>some ⟨.done .normal k ⟨s'.tr,s'.sl,s'.nx+1⟩,none,none,e⟩
      |false=>none
    |none=>match Iz s.tr.get [] ops.toList with
     |some n=>match dr with
      |false=>MS gOk call T M l ops.toList k s n
      |true=>none
     |none=>none
   |false=>none
  |_=>none
 | .ops _ _ _ _ _ _=>none
section
variable {P:Program}{N:Nat}{es:List (List V)}{Y:P5 P es}{Q:Exit->S->Nat->Bool->Prop}{T:List TI}{M mu:List Nat}{call:fG}
theorem Bk:∀l:List V,A2 l l
 | []=>trivial
 |_::l=>⟨cv.refl _,Bk l⟩
end
def Qd(gOk:Bool)(call:fG)(T:List TI)(M mu:List Nat)(N l:Nat):Nat->CC->Option CT
 |0,_=>none
 |m+1,g=>match JR gOk call T M mu N l g with
  |some x=>match x.y with
   |none=>match Qd gOk call T M mu N l m x.g with
    |some e=>some (.nd x.e e)
    |none=>none
   |some _=>none
  |none=>match g with
   | .done e [] _=>match e with
    | .ret=>some c0
    | .normal=>some c0
    |_=>none
   |_=>none
def z6(gOk:Bool)(call:fG)(T:List TI)(M mu:List Nat)(N l:Nat):Nat->CC->Option (List (List V)×CT)
 |0,_=>none
 |m+1,g=>match JR gOk call T M mu N l g with
  |some x=>match x.y with
   |none=>match z6 gOk call T M mu N l m x.g with
    |some (as0,e)=>some (as0,.nd x.e e)
    |none=>none
   |some a=>match x.side with
    |some sd=>match Qd gOk call T M mu N l 5000 sd with
     |some e0=>match z6 gOk call T M mu N l m x.g with
      |some (as0,e)=>some (a::as0,.nd x.e (.nd e0 e))
      |none=>none
     |none=>none
    |none=>none
  |none=>match g with
   | .done e [] _=>match e with
    | .ret=>some ([],c0)
    | .normal=>some ([],c0)
    |_=>none
   |_=>none
def CT.PS:CT->List (CE×CE)
 | .lf l=>l
 | .nd a b=>a.PS++b.PS
theorem CT.A3:∀ {t:CT},iI t.PS->j8 t
 | .lf _,h=>h
 | .nd _ _,h=>⟨CT.A3 h.l,CT.A3 h.r⟩
def MT(r:Option (List (List V)×CT)):Option (List (List V)):=match r with
 |some (as0,_)=>some as0
 |none=>none
def Qe(r:Option (List (List V)×CT)):CT:=match r with
 |some (_,e)=>e
 |none=>c0
def TR.keys(f:Nat->Nat):TR->List Nat
 | .e=>[]
 | .n _ l r=>f 0::(TR.keys (fun i=>f (2*i+1)) l++TR.keys (fun i=>f (2*i+2)) r)
def vT(tr:TR):List Nat->List (Nat×V)
 | []=>[]
 |t::l=>(t,tr.get t)::vT tr l
theorem CI{tr:TR}:∀ {l:List Nat},∀p∈vT tr l,tr.get p.1=p.2
 | [],p,h=>by simp [vT]at h
 |t::l,p,h=>by
  rcases List.mem_cons.1 h with rfl |h;·rfl
  ·exact CI (l:=l) p h
def LO:List (Nat×V)->TR
 | []=> .e
 |p::l=>TR.put 10 (LO l) p.1 p.2
theorem vU:∀ {l:List (Nat×V)},(∀p∈l,p.1< 1000)->(LO l).get=gJ l
 | [],_=>by funext t;exact TR.jj t
 |p::l,h=>by rw [LO,TR.jO (h p (by simp)),vU fun q hq=>h q (by simp [hq])];rfl
def setTR(tr:TR):List Nat->List V->TR
 |p::ps,v::vs=>setTR (TR.put 10 tr p v) ps vs
 |_,_=>tr
theorem uz:∀(ps:List Nat) (vs:List V) (tr:TR),(∀p∈ps,p< 1000)->(setTR tr ps vs).get=oK tr.get ps vs
 | [],vs,tr,_=>by cases vs <;> rfl
 |p::ps,[],tr,_=>rfl
 |p::ps,v::vs,tr,h=>by rw [setTR,oK,uz ps vs _ fun q hq=>h q (by simp [hq]),TR.jO (h p (by simp))]
def yV:List Nat->List Ob->List (Nat×Option Ob)
 |n::ns,o::l=>(n,some o)::yV ns l
 |_,_=>[]
theorem sQ:∀(ns:List Nat) (l:List Ob),fQ (yV ns l)=dw (ns.zip l)
 | [],l=>by cases l <;> (funext i;rfl)
 |n::ns,[]=>by funext i;rfl
 |n::ns,o::l=>by
  funext i;show fQ ((n,some o)::yV ns l) i=bL (dw (ns.zip l)) n (some o) i;rw [<-sQ ns l];simp only [fQ];split;·rename_i h;rw [Nat.eq_of_beq_eq_true h,an]
  ·rename_i h;rw [ag _ _ (Nat.ne_of_beq_eq_false h)]
def nG(pn:List Nat):List Nat->List Nat
 | []=>[]
 |k::l=>match jJ pn k with
  |true=>nG pn l
  |false=>k::nG pn l
def qc(np:Nat):List Nat:=(List.range np).map (500+ ·)
inductive RO where
  |nor (l:List Ob) (e:CT)
  |ext (c:Exit) (l:List Ob) (e:CT)
  |bad
@[irreducible] def RQ:List Nat:=List.range 90
def Pc(l:List Ob)(t:CT):Exit->RO
 | .normal=> .nor l t
 | .ret=> .ext .ret l t
 | .exit id=> .ext (.exit id) l t
 |_=> .bad
def F8:Exit->Code
 | .exit id=> .exit id
 |_=> .ret
theorem v5{α β:Type}:∀ {l:List α}{m:List β}{p:α×β},p∈l.zip m->∃i:Nat,l[i]?=some p.1/\m[i]?=some p.2
 | [],_,p,h=>by simp at h
 |_::_,[],p,h=>by simp at h
 |a::l,b::m,p,h=>by
  rw [List.zip_cons_cons]at h;rcases List.mem_cons.1 h with rfl |h;·exact⟨0,rfl,rfl⟩
  ·obtain⟨i,h1,h2⟩:=v5 h;exact⟨i+1,by simpa using h1,by simpa using h2⟩
theorem Ca:∀ {nl:List Nat}{j m:Nat},m< j->(fS j nl).find? (·.1 == m)=none
 | [],_,_,_=>rfl
 |a::nl,j,m,h=>by
  rw [fS,List.find?_cons];have e:((j,a).1 == m)=false:=by simp only [beq_eq_false_iff_ne];omega
  rw [e];exact Ca oM
section
variable {P:Program}{N:Nat}{T:List TI}{M mu:List Nat}{call:fG}{pn:List Nat}{tl:List (Nat×V)}{ps:List Nat}{as0 bd:Code}
end
def KN(rd:List V->List Ob->RO):List (List V)->List Ob->Option (Exit×List Ob×CT)
 | [],l=>some (.normal,l,c0)
 |x::es,l=>match rd x l with
  | .nor l' e=>match KN rd es l' with
   |some (c,lf,e')=>some (c,lf,.nd e e')
   |none=>none
  | .ext c lf e=>match c with
   | .ret=>some (.ret,lf,e)
   | .exit id=>some (.exit id,lf,e)
   |_=>none
  | .bad=>none
def mG(rd:List V->List Ob->RO)(es:List (List V))(l0:List Ob):Nat->Option (List Ob)
 |0=>some l0
 |k+1=>match mG rd es l0 k,es[k]? with
  |some l,some x=>match rd x l with
   | .nor l' _=>some l'
   |_=>none
  |_,_=>none
theorem Is{rd:List V->List Ob->RO}{es:List (List V)}{l0:List Ob}{c:Exit}{lf:List Ob}{e:CT}(h:KN rd es l0=some (c,lf,e))(he:j8 e):∀k l,mG rd es l0 k=some l->k<=es.length/\∃t,KN rd (es.drop k) l=some (c,lf,t)/\j8 t
 |0,l,hl=>by simp only [mG,Option.some.injEq]at hl;subst hl;exact⟨Nat.zero_le _,e,h,he⟩
 |k+1,l,hl=>by
  simp only [mG]at hl;split at hl
  ·rename_i l1 x h1 hx;obtain⟨hk,t,h2,ht⟩:=Is h he k l1 h1;have hlt:=(List.getElem?_eq_some_iff.1 hx).1;have hdr:es.drop k=x::es.drop (k+1):=by
    rw [List.drop_eq_getElem_cons hlt];congr 1
    exact(List.getElem?_eq_some_iff.1 hx).2
   rw [hdr]at h2;unfold KN at h2;split at hl
   ·rename_i l' e' hr;injection hl with hl;subst hl;rw [hr]at h2;simp only at h2;split at h2;·rename_i c1 lf1 e1 hw;simp only [Option.some.injEq,Prod.mk.injEq]at h2;obtain⟨rfl,rfl,rfl⟩:=h2;exact⟨hlt,_,hw,ht.2⟩
    ·cases h2
   ·cases hl
  ·cases hl
def we(np n:Nat):List Nat:=qc np++(List.range n).map (500+np+ ·)
def ou(np:Nat)(nl:List Nat)(i:Nat):Nat:=match jJ nl i with
 |true=>500+np+xJ nl i
 |false=>i
theorem ym{g:Nat->Nat}:∀ {l:List (Nat×V)}{p:Nat×V},p∈jo g l->∃q∈l,q.1=p.1
 | [],p,h=>by simp [jo]at h
 |q::l,p,h=>by
  rcases List.mem_cons.1 h with rfl |h;·exact⟨q,by simp,rfl⟩
  ·obtain⟨q',h1,h2⟩:=ym (l:=l) h;exact⟨q',by simp [h1],h2⟩
theorem CH{tr:TR}:∀ {l:List Nat}{p:Nat×V},p∈vT tr l->p.1∈l
 | [],p,h=>by simp [vT]at h
 |t::l,p,h=>by
  rcases List.mem_cons.1 h with rfl |h;·simp
  ·exact List.mem_cons_of_mem _ (CH h)
theorem x4:∀ {nl:List Nat}{j:Nat}{p:Nat×Nat},p∈fS j nl->j<=p.1/\p.1< j+nl.length
 | [],_,_,h=>by simp [fS]at h
 |a::nl,j,p,h=>by
  rcases List.mem_cons.1 h with rfl |h;·simp
  ·have:=x4 h;simp only [List.length_cons];omega
end
end Go.Ab

namespace Go.Ab
open Go.RowKit Go.Dw Go.Shelf
noncomputable section
def wg{P:Program}(N:Nat){es:List (List V)}(Y:v7 P es)(c:Code)(Q:Exit->S->Nat->Bool->Prop):Nat->S->Nat->Bool->Prop
 |0,_,_,_=>False
 |m+1,s,k,g=>fH N Y c (jz (wg N Y c Q m) Q) s k g
theorem wT{P:Program}{N:Nat}{es:List (List V)}{Y:v7 P es}{Q:Exit->S->Nat->Bool->Prop}{c:Code}{s:S}{k:Nat}{g:Bool}(m:Nat)(h:wg N Y c Q m s k g):fH N Y (.loop c) Q s k g:=by
 intro C A F a w yc gm hj;refine wpIn_loop_rounds m ?_;have key:∀(m:Nat) (s:S) (k:Nat) (g:Bool) (C:Cx P N) (A F:Nat->Prop) (a:Act) (w:World),wg N Y c Q m s k g->zf C Y A F w->Gm C s a w->Y.J k g A F w->Code.roundsIn Fence.wide 0 P c (fun e a' w'=>∃(s':S) (k':Nat) (g':Bool) (C':Cx P N) (A' F':Nat->Prop),Q e s' k' g'/\zf C' Y A' F' w'/\Gm C' s' a' w'/\Y.J k' g' A' F' w') m a w:=by
  intro m;induction m with
  |zero=>intro s k g C A F a w h;exact h.elim
  |succ m ih=>
   intro s k g C A F a w h yc gm hj;refine wpIn_mono (h C A F a w yc gm hj) ?_;rintro e a' w' ⟨s',k',g',C',A',F',q,yc',gm',hj'⟩;cases e with
   |normal=>exact ih s' k' g' C' A' F' a' w' q yc' gm' hj'
   |_=>exact⟨s',k',g',C',A',F',q,yc',gm',hj'⟩
 exact key m s k g C A F a w h yc gm hj
section
variable {P:Program}(N:Nat){es:List (List V)}(Y:v7 P es) (Q:Exit->S->Nat->Bool->Prop)
def sV:List Fr->Exit->S->Nat->Bool->Prop
 | []=>Q
 | .c y::k=>jz (fun s' n g=>fH N Y y (sV k) s' n g) (sV k)
 | .b id::k=>gQ id (sV k)
 | .l y m::k=>jz (wg N Y y (sV k) m) (sV k)
 | .s::_=>fun _ _ _ _=>False
def Bn:CC->Nat->Bool->Prop
 | .code c k s,n,g=>fH N Y c (sV N Y Q k) s.den n g
 | .done e k s,n,g=>sV N Y Q k e s.den n g
 | .ops _ _ _ _ _ _,_,_=>False
end
section
variable {P:Program}{N:Nat}{es:List (List V)}{Y:v7 P es}{Q:Exit->S->Nat->Bool->Prop}{T:List TI}{M mu:List Nat}{call:fG}
theorem NH{y:Code}{k:List Fr}{e:Exit}{s:S}{n:Nat}{g:Bool}(hne:e≠ .normal)(h:sV N Y Q k e s n g):sV N Y Q (.c y::k) e s n g:=by cases e <;> first |exact absurd rfl hne |exact h
theorem NI{y:Code}{m:Nat}{k:List Fr}{e:Exit}{s:S}{n:Nat}{g:Bool}(hne:e≠ .normal)(h:sV N Y Q k e s n g):sV N Y Q (.l y m::k) e s n g:=by cases e <;> first |exact absurd rfl hne |exact h
theorem NG{id:Nat}{k:List Fr}{e:Exit}{s:S}{n:Nat}{g:Bool}(hne:∀i,e≠ .exit i)(h:sV N Y Q k e s n g):sV N Y Q (.b id::k) e s n g:=by cases e <;> first |exact absurd rfl (hne _) |exact h
theorem uV{c:Code}{s:S}{k:Nat}{g:Bool}(u:Nat)(h:fH N Y c (jz (wg N Y c Q u) Q) s k g):fH N Y (.loop c) Q s k g:=wT (u+1) h
def y8{P:Program}{es:List (List V)}(N:Nat)(Y:v7 P es)(Q:Exit->S->Nat->Bool->Prop)(g:CC)(x:JX):Prop:=
 (x.y=none->∀n b,Bn N Y Q x.g n b->Bn N Y Q g n b)/\
 ∀as0,x.y=some as0->∃sd,x.side=some sd/\∀n,es[n]?=some as0->Bn N Y Q x.g (n+1) true->Bn N Y Q sd n false->Bn N Y Q g n true
theorem dW{g g':CC}{e:CT}(h:∀n b,Bn N Y Q g' n b->Bn N Y Q g n b):y8 N Y Q g ⟨g',none,none,e⟩:=⟨fun _=>h,fun as0 h=>by cases h⟩
theorem GJ(hT:aJ T P)(hcl:cZ P call){id n:Nat}{ops:Array Oper}{k:List Fr}{s:CS}{x:JX}(hok:fK N ops.toList=true)(h:MS true call T M Y.l ops.toList k s n=some x)(he:j8 x.e):y8 N Y Q (.code (.region id ops false) k s) x:=by
 have eo:ops=ops.toList.toArray:=by simp
 unfold MS at h;split at h
 ·rename_i o ho;split at h
  ·rename_i d hd;split at h
   ·rename_i hlt;have hlt:=of_decide_eq_true hlt;split at h
    ·rename_i s1 ks1 e1 h1;split at h
     ·rename_i hgd;split at h
      ·rename_i fv as0 hy;split at h
       ·rename_i s2 ks2 e2 h2;split at h
        ·rename_i s3 ks3 e3 h3;injection h with h;subst h;obtain⟨he0,he1,he2,he3⟩:=he;refine⟨fun h=>(by cases h),fun as1 has=> ?_⟩;injection has with has;subst has;refine⟨_,rfl,fun m hm hk1 hk2=> ?_⟩;obtain⟨d',op,ty,pos,af,gd⟩:=o;simp only at hd;subst hd;unfold P2 at hy;simp only at hy;split at hy
         ·rename_i c;obtain⟨callee,args,ats⟩:=c;simp only at hy;split at hy
          ·rename_i fo;split at hy
           ·rename_i hfl0;simp only [Bool.and_eq_true]at hfl0;simp only [Option.some.injEq,Prod.mk.injEq]at hy;obtain⟨rfl,rfl⟩:=hy;have hf:=iI.hd he0;injection hf with hf;simp only [List.cons.injEq,and_true]at hf;have ht:∀C:Cx P N,bB C ops.toList.toArray s.nx (ops.toList.drop (n+1)) (bL s1.tr.get d (.b true)) (fQ s1.sl) [] (fun tm' σ' _=>sV N Y Q k .normal ⟨tm',σ',s.nx+1⟩ (m+1) true)/\bB C ops.toList.toArray s.nx (ops.toList.drop (n+1)) (bL s1.tr.get d (.b false)) (fQ s1.sl) [] (fun tm' σ' _=>sV N Y Q k .normal ⟨tm',σ',s.nx+1⟩ m false):=fun C=>by
             have q1:=(f8 hT hcl (C:=C) (K:=fun _ _ _=>True) h1 he1).1;constructor;·obtain⟨r1,r2⟩:=f8 hT hcl (C:=C) (K:=fun tm' σ' _=>sV N Y Q k .normal ⟨tm',σ',s.nx+1⟩ (m+1) true) h2 he2;simp only at r1 r2;rw [TR.jO hlt,q1]at r2;exact r2 (by have:=hk1;unfold Bn CS.den at this;simp only at this;rw [r1,q1]at this;exact this)
             ·obtain⟨r1,r2⟩:=f8 hT hcl (C:=C) (K:=fun tm' σ' _=>sV N Y Q k .normal ⟨tm',σ',s.nx+1⟩ m false) h3 he3;simp only at r1 r2;rw [TR.jO hlt,q1]at r2;exact r2 (by have:=hk2;unfold Bn CS.den at this;simp only at this;rw [r1,q1]at this;exact this)
            show fH N Y (.region id ops false) (sV N Y Q k) s.den m true;rw [eo];have hgw:dF ops.toList.toArray s1.tr.get ⟨some d,.call {callee:= .value fo,args:=args,argTypes:=ats},ty,pos,af,gd⟩=some true:=by
             unfold RC at hgd;simp only at hgd;split at hgd;·rfl
             ·split at hgd;·rename_i g hg;subst hgd;exact gy (ops:=ops.toList.toArray) (r:=some true) (by simpa using hg)
              ·cases hgd
            refine mE n (by simpa using hok) ho fun C _ _=> ?_;obtain⟨q1,q2⟩:=f8 hT hcl (C:=C) (K:=fun tm1 σ1 _=>P6 N Y ops.toList.toArray s.nx (ops.toList.drop (n+1)) fo args d ⟨some d,.call {callee:= .value fo,args:=args,argTypes:=ats},ty,pos,af,gd⟩ (sV N Y Q k) m tm1 σ1) h1 he1;exact q2 ⟨hgw,hfl0.2,hf,⟨_,hm,Bk _⟩,hfl0.1,fun C _ _=>(ht C).1,fun C _ _=>(ht C).2⟩
           ·cases hy
          ·cases hy
         ·cases hy
        ·cases h
       ·cases h
      ·cases h
     ·cases h
    ·cases h
   ·cases h
  ·cases h
 ·cases h
theorem rO(hT:aJ T P)(hcl:cZ P call){g:CC}{x:JX}(h:JR true call T M mu N Y.l g=some x)(he:j8 x.e):y8 N Y Q g x:=by
 unfold JR at h;split at h
 ·rename_i e k s;split at h;·cases h
  ·split at h;·injection h with h;subst h;exact dW fun n b hk=>hk
   ·rename_i hne;injection h with h;subst h;exact dW fun n b hk=>NH hne hk
  ·split at h
   ·split at h;·rename_i hb;injection h with h;subst h;have hb:=Nat.eq_of_beq_eq_true hb;subst hb;exact dW fun n b hk=>jv hk
    ·rename_i hb;injection h with h;subst h;exact dW fun n b hk=>NM (by simpa using Nat.ne_of_beq_eq_false hb) hk
   ·rename_i hne;injection h with h;subst h;exact dW fun n b hk=>NG hne hk
  ·split at h
   ·split at h;·cases h
    ·injection h with h;subst h;exact dW fun n b hk=>hk
   ·rename_i hne;injection h with h;subst h;exact dW fun n b hk=>NI hne hk
  ·cases h
 ·rename_i c k s;split at h;·injection h with h;subst h;exact dW fun n b hk=>fM hk
  ·injection h with h;subst h;exact dW fun n b hk=>tR hk
  ·injection h with h;subst h;exact dW fun n b hk=>m6 hk
  ·injection h with h;subst h;exact dW fun n b hk=>cQ hk
  ·injection h with h;subst h;exact dW fun n b hk=>cE hk
  ·injection h with h;subst h;exact dW fun n b hk=>uV 1000000 hk
  ·split at h
   ·rename_i t ht;split at h;·injection h with h;subst h;exact dW fun n b hk=>di ht (fun _=>hk) fun h=>by cases h
    ·injection h with h;subst h;exact dW fun n b hk=>di ht (fun h=>by cases h) fun _=>hk
   ·cases h
  ·rename_i id ops dr;split at h
   ·rename_i hok;split at h
    ·rename_i s' ks e hr;have e0:ops=ops.toList.toArray:=by simp
     split at h;·injection h with h;subst h;refine dW fun n b hk=>fX fun C _ _=> ?_;refine o5 (vl mu s ops.toList) ?_;rw [e0];obtain⟨q1,q2⟩:=f8 hT hcl (C:=C) (K:=fun tm' σ' _=>sV N Y Q k .normal ⟨tm',σ',(pY mu s ops.toList).nx+1⟩ n b) (by simpa using hr) he;refine oa (s:=(pY mu s ops.toList).den) (by simpa using hok) (q2 ?_);have:=hk;unfold Bn CS.den at this;simp only at this;rw [q1]at this;exact this
     ·split at h;·rename_i hdr;injection h with h;subst h;refine dW fun n b hk=>fX fun C _ _=> ?_;refine o5 (vl mu s ops.toList) ?_;rw [e0];obtain⟨q1,q2⟩:=f8 hT hcl (C:=C) (K:=fun tm' σ' ks'=>fB ops.toList ks'=true/\sV N Y Q k .normal ⟨tm',σ',(pY mu s ops.toList).nx+1⟩ n b) (by simpa using hr) he;refine mD (s:=(pY mu s ops.toList).den) (by simpa using hok) (q2 ⟨Cb hdr,?_⟩);have:=hk;unfold Bn CS.den at this;simp only at this;rw [q1]at this;exact this
      ·cases h
    ·split at h
     ·split at h;·exact GJ hT hcl hok h he
      ·cases h
     ·cases h
   ·cases h
  ·cases h
 ·cases h
end
theorem BX{P:Program}{N:Nat}{es:List (List V)}{Y:v7 P es}{T:List TI}{M mu:List Nat}{call:fG}(hT:aJ T P)(hcl:cZ P call){n:Nat}(hn:n< es.length):∀ {m:Nat}{g:CC}{e:CT},Qd true call T M mu N Y.l m g=some e->j8 e->Bn N Y (tM es.length) g n false
 |0,_,_,h,_=>by cases h
 |m+1,g,e,h,he=>by
  unfold Qd at h;split at h
  ·rename_i x hx;split at h
   ·rename_i hy;split at h;·rename_i e1 h1;injection h with h;subst h;exact(rO (Q:=tM es.length) hT hcl hx he.1).1 hy n false (BX hT hcl hn h1 he.2)
    ·cases h
   ·cases h
  ·split at h
   ·rename_i e0 s;split at h;·exact⟨.inr rfl,(fun h=>nomatch h),fun _=>hn⟩
    ·exact⟨.inl rfl,(fun h=>nomatch h),fun _=>hn⟩
    ·cases h
   ·cases h
theorem rN{P:Program}{N:Nat}{es:List (List V)}{Y:v7 P es}{T:List TI}{M mu:List Nat}{call:fG}(hT:aJ T P)(hcl:cZ P call):∀ {m:Nat}{g:CC}{as0:List (List V)}{e:CT}{n:Nat},z6 true call T M mu N Y.l m g=some (as0,e)->j8 e->es.drop n=as0->n<=es.length->Bn N Y (tM es.length) g n true
 |0,_,_,_,_,h,_,_,_=>by cases h
 |m+1,g,as0,e,n,h,he,hd,hn=>by
  unfold z6 at h;split at h
  ·rename_i x hx;split at h
   ·rename_i hy;split at h;·rename_i as1 e1 h1;simp only [Option.some.injEq,Prod.mk.injEq]at h;obtain⟨rfl,rfl⟩:=h;exact(rO (Q:=tM es.length) hT hcl hx he.1).1 hy n true (rN hT hcl h1 he.2 hd hn)
    ·cases h
   ·rename_i a hy;split at h
    ·rename_i sd hsd;split at h
     ·rename_i e0 h0;split at h
      ·rename_i as1 e1 h1;simp only [Option.some.injEq,Prod.mk.injEq]at h;obtain⟨rfl,rfl⟩:=h;have hlt:n< es.length:=by have:=congrArg List.length hd;simp only [List.length_drop,List.length_cons]at this;omega
       have hget:es[n]?=some a:=by have:=congrArg (·[0]?) hd;simpa using this
       have hdr:es.drop (n+1)=as1:=by have h2:=congrArg List.tail hd;simpa using h2
       obtain⟨sd',hs',hall⟩:=(rO (Q:=tM es.length) hT hcl hx he.1).2 a hy;rw [hsd]at hs';injection hs' with hs';subst hs';exact hall n hget (rN hT hcl h1 he.2.2 hdr oM) (BX hT hcl hlt h0 he.2.1)
      ·cases h
     ·cases h
    ·cases h
  ·split at h
   ·rename_i e0 s;have fin:as0=[]->n=es.length:=fun h0=>by rw [h0]at hd;have:=congrArg List.length hd;simp only [List.length_drop,List.length_nil]at this;omega
    split at h;·simp only [Option.some.injEq,Prod.mk.injEq]at h;exact⟨.inr rfl,fun _=>fin h.1.symm,(fun h=>nomatch h)⟩
    ·simp only [Option.some.injEq,Prod.mk.injEq]at h;exact⟨.inl rfl,fun _=>fin h.1.symm,(fun h=>nomatch h)⟩
    ·cases h
   ·cases h
theorem IV{P:Program}{N:Nat}{T:List TI}{M mu:List Nat}{call:fG}{f:FuncId}{fn:Func}{c:Code}{caps:List V}{ins:List Ob}{es:List (List V)}(hT:aJ T P)(hmx:P.follows .mixedOrders=true)(hcl:cZ P call)(hk:qG P f fn c N)(hres:fn.results= #[])(hargs:caps.length+1<=N)(hins:ins.length<=400) (s0:Nat->CS) (h0:∀l,(s0 l).den=⟨fun t=>((V.c (.func (.yield l) #[] #[]))::caps).getD t .any,eW ins,1⟩) (hv:∀l,MT (z6 true call T M mu N l 20000 (.code c [] (s0 l)))=some es) (he:∀l,j8 (Qe (z6 true call T M mu N l 20000 (.code c [] (s0 l))))):CK P f caps ins es:=by
 refine qM hT hmx hk hres hargs (fun Y=> ?_) hins;have h1:=hv Y.l;have h2:=he Y.l;unfold MT at h1;unfold Qe at h2;split at h1;·rename_i as0 e hr;rw [hr]at h2;injection h1 with h1;subst h1;have:=rN (Y:=Y) (n:=0) hT hcl hr h2 rfl (Nat.zero_le _);unfold Bn at this;simp only at this;rw [h0]at this;exact this
 ·cases h1
def QA(pn:List Nat):Ob->Bool
 | .box _ cs=>V.dD pn cs
 | .row _ _ n f=>((List.range n).map f).all (V.dD pn)
 | .mp _ _=>false
theorem F9{pn:List Nat}{o:Ob}(h:QA pn o=true):o.c7 pn:=by
 cases o with
 |box t cs=>exact h
 |row e sz n f=>intro i hi;exact List.all_eq_true.1 h _ (List.mem_map.2 ⟨i,List.mem_range.2 hi,rfl⟩)
 |mp _ _=>cases h
def HO(pn:List Nat)(s:CS):Option (List Ob×CT):=
 match xL (fQ s.sl) (fun i=>i) pn with
  |some l=>match decide (((pn.zip (l.map Prod.snd)).map fun p=>aH [] s.nx p.1).Nodup) && (l.map Prod.snd).all (QA pn)with
   |true=>some (l.map Prod.snd,.lf (eV (aH [] s.nx) l))
   |false=>none
  |none=>none
theorem HP{pn:List Nat}{s:CS}{l':List Ob}{e:CT}(hpn:∀p∈pn,500<=p/\p< 1000)(h:HO pn s=some (l',e))(he:j8 e):Le s.den ⟨fun _=> .any,dw (pn.zip l'),1⟩/\l'.length=pn.length/\∀o∈l',o.c7 pn:=by
 unfold HO at h;split at h
 ·rename_i l hl;split at h
  ·rename_i hb;simp only [Option.some.injEq,Prod.mk.injEq]at h;obtain⟨rfl,rfl⟩:=h;simp only [Bool.and_eq_true]at hb;obtain⟨hb1,hb2⟩:=hb;obtain⟨hlen,hget⟩:=kQ hl;have hE:iI _:=he;refine⟨?_,by simp [hlen],fun o ho=>F9 (List.all_eq_true.1 hb2 o ho)⟩;show Le ⟨s.tr.get,fQ s.sl,s.nx⟩ ⟨gJ [],dw (pn.zip (l.map Prod.snd)),1⟩;refine aA (tm:=s.tr.get) (σ:=fQ s.sl) (nx:=s.nx) [] (tl:=[]) .nil (qj fun p hp=> ?_) hb1 rfl;obtain⟨i,h1,h2⟩:=v5 hp;simp only [List.getElem?_map,Option.map_eq_some_iff]at h2;obtain⟨q,hq,hq2⟩:=h2;obtain⟨k,hk,hσ,hno⟩:=hget i q hq;rw [hk]at h1;injection h1 with h1;have hg:aH [] s.nx p.1=k:=by have:=hpn k (List.mem_of_getElem? hk);unfold aH;rw [<-h1];exact if_pos this
   refine⟨q.1,by rw [hg];exact hσ,?_⟩;rw [<-hq2];exact oz hno (fN hE hq)
  ·cases h
 ·cases h
def sk(call:fG)(T:List TI)(M mu:List Nat)(N:Nat)(pn:List Nat)(tl:List (Nat×V))(ps:List Nat)(as0 bd:Code)(x:List V)(l:List Ob):RO:=
 match xw call Nn T M mu N as0 ⟨setTR (LO tl) ps x,yV pn l,1⟩with
  |some (.normal,s1,t1)=>match xw call Nn T M mu N bd s1 with
   |some (e,s2,t2)=>match HO pn s2 with
    |some (l',t3)=>Pc l' (zA t1 (zA t2 t3)) e
    |none=> .bad
   |none=> .bad
  |_=> .bad
def L3(pn:List Nat)(ok:Nat->Prop)(sl:Nat->List Ob)(X:Nat->Code->List Ob->Prop)(k:Nat):RO->Prop
 | .nor l' e=>j8 e/\(l'.length=pn.length->(∀o∈l',o.c7 pn)->ok (k+1)/\sl (k+1)=l')
 | .ext c l' e=>j8 e/\(l'.length=pn.length->(∀o∈l',o.c7 pn)->X k (F8 c) l')
 | .bad=>False
theorem yo{pn:List Nat}{tl:List (Nat×V)}{ps:List Nat}{x:List V}{l:List Ob}(htl:∀p∈tl,p.1< 1000)(hps:∀p∈ps,p< 1000):(CS.mk (setTR (LO tl) ps x) (yV pn l) 1).den=⟨oK (gJ tl) ps x,dw (pn.zip l),1⟩:=by unfold CS.den;rw [uz _ _ _ hps,vU htl,sQ]
section
variable {P:Program}{N:Nat}{T:List TI}{M mu:List Nat}{call:fG}{pn:List Nat}{tl:List (Nat×V)}{ps:List Nat}{as0 bd:Code}
theorem Eo(hT:aJ T P)(hcl:cZ P call)(hpn:∀p∈pn,500<=p/\p< 1000)(htl:∀p∈tl,p.1< 1000)(hps:∀p∈ps,p< 1000){ok:Nat->Prop}{sl:Nat->List Ob}{X:Nat->Code->List Ob->Prop}{k:Nat}{x:List V}{l:List Ob} (h:L3 pn ok sl X k (sk call T M mu N pn tl ps as0 bd x l)) (C':Cx P N):AW C' as0 (dR (fun s'=>AW C' bd (o4 pn ok sl X k) s') (fun _ _=>False)) ⟨oK (gJ tl) ps x,dw (pn.zip l),1⟩:=by
 rw [<-yo htl hps];unfold sk at h;split at h
 ·rename_i s1 t1 h1;split at h
  ·rename_i e s2 t2 h2;split at h
   ·rename_i l' t3 h3;have key:j8 (zA t1 (zA t2 t3))->(Le s2.den ⟨fun _=> .any,dw (pn.zip l'),1⟩->l'.length=pn.length->(∀o∈l',o.c7 pn)->o4 pn ok sl X k e s2.den)->
     AW C' as0 (dR (fun s'=>AW C' bd (o4 pn ok sl X k) s') (fun _ _=>False)) (CS.mk (setTR (LO tl) ps x) (yV pn l) 1).den:=by
     intro hE hR
     have hE:=mF hE
     have hE2:=mF hE.2
     obtain⟨z1,z2,z3⟩:=HP hpn h3 hE2.2
     have a2:=m9 (C:=C') (mu:=mu) hT hcl Cs bd _ _ _ _ h2 hE2.1 (o4 pn ok sl X k) (hR z1 z2 z3)
     exact m9 (C:=C') (mu:=mu) hT hcl Cs as0 _ _ _ _ h1 hE.1 (dR (fun s'=>AW C' bd (o4 pn ok sl X k) s') (fun _ _=>False)) a2
    unfold Pc at h;split at h;·obtain⟨q1,q2⟩:=h;exact key q1 fun hle a b=>⟨(q2 a b).1,by rw [(q2 a b).2];exact hle⟩
    ·obtain⟨q1,q2⟩:=h;exact key q1 fun hle a b=>⟨_,q2 a b,hle⟩
    ·obtain⟨q1,q2⟩:=h;exact key q1 fun hle a b=>⟨_,q2 a b,hle⟩
    ·exact h.elim
   ·exact h.elim
  ·exact h.elim
 ·exact h.elim
end
def JB(pn:List Nat)(l:List Ob):Bool:=Nat.beq l.length pn.length && l.all (QA pn)
theorem Mz{pn:List Nat}{l:List Ob}(h:JB pn l=true):l.length=pn.length/\∀o∈l,o.c7 pn:=by simp only [JB,Bool.and_eq_true]at h;exact⟨Nat.eq_of_beq_eq_true h.1,fun o ho=>F9 (List.all_eq_true.1 h.2 o ho)⟩
def Nl(pn:List Nat):RO->RO
 | .nor l e=>match JB pn l with
  |true=> .nor l e
  |false=> .bad
 | .ext c l e=>match JB pn l with
  |true=> .ext c l e
  |false=> .bad
 | .bad=> .bad
theorem Cp{pn:List Nat}{r:RO}{l:List Ob}{e:CT}(h:Nl pn r= .nor l e):r= .nor l e/\JB pn l=true:=by
 unfold Nl at h;split at h
 ·split at h;·rename_i hf;injection h with h1 h2;subst h1 h2;exact⟨rfl,hf⟩
  ·cases h
 ·split at h <;> cases h
 ·cases h
theorem Ko{pn:List Nat}{r:RO}{c:Exit}{l:List Ob}{e:CT}(h:Nl pn r= .ext c l e):r= .ext c l e/\JB pn l=true:=by
 unfold Nl at h;split at h;·split at h <;> cases h
 ·split at h;·rename_i hf;injection h with h1 h2 h3;subst h1 h2 h3;exact⟨rfl,hf⟩
  ·cases h
 ·cases h
theorem Em{P:Program}{N:Nat}{C:Cx P N}{Q:Exit->S->Prop}{tm:Nat->V}{σ:Nat->Option Ob}{nx:Nat}{g:Operand}{ps:Array Tmp}{as0 bd:Code}{gf:FuncId}{caps:List V}{ins:List Ob}{es:List (List V)}(ns:List Nat)(hF:C.F=Fence.wide)(hd:C.dfs=pz)(pn:List Nat)(gl:List (Nat×Nat)) (it:CK P gf caps ins es) (hg:ev tm g= .fn (.func gf) [] (V.aV (y5 ns) caps)) (hidf:V.cR ins.length caps=true) (hns:ns.length=ins.length) (hnd:ns.Nodup) (hins:∀(i k:Nat) (o:Ob),ns[i]?=some k->ins[i]?=some o->σ k=some o/\Gz o=true) (hlen:∀x∈es,x.length=ps.size) (hps:ps.toList.all (fun p=>decide (p< N))=true) (tl:List (Nat×V)) (rd:List V->List Ob->RO) (l0:List Ob) (hl0:JB pn l0=true) (hrd:∀ok sl X k x l,L3 pn ok sl X k (rd x l)->∀C':Cx P N,AW C' as0 (dR (fun s'=>AW C' bd (o4 pn ok sl X k) s') (fun _ _=>False)) ⟨oK (gJ tl) ps.toList x,dw (pn.zip l),1⟩) (hpn:∀p∈pn,500<=p/\p< 1000) (htl:tl.all (fun p=>p.2.rU pn)=true) (hid:∀p∈gl,p.1< 1000) (htm:lX (fun p=>tm p.1=p.2.bx (aH gl nx)) tl) (hσ:lX (fun p=>∃ob,σ (aH gl nx p.1)=some ob/\eF ob (p.2.bx (aH gl nx))) (pn.zip l0)) (hinj:decide (((pn.zip l0).map fun p=>aH gl nx p.1).Nodup)=true) (hdis:∀p∈pn.zip l0,aH gl nx p.1∉ns){c:Exit}{lf:List Ob}{e:CT}(hw:KN (fun x l=>Nl pn (rd x l)) es l0=some (c,lf,e)) (he:j8 e) (hQ:Q c ⟨gJ tl,dw (pn.zip lf),1⟩):AW C (.rangeFunc g ps as0 bd) Q ⟨tm,σ,nx⟩:=by
 have hat:=Is hw he;generalize hR:(fun x l=>Nl pn (rd x l))=rr at hw hat;have hst0:∀k l,mG rr es l0 k=some l->JB pn l=true:=by
  intro k;cases k with
  |zero=>intro l hl;simp only [mG,Option.some.injEq]at hl;subst hl;exact hl0
  |succ k=>
   intro l hl;simp only [mG]at hl;split at hl
   ·rename_i l1 x h1 hx;split at hl;·rename_i l' e' hr;injection hl with hl;subst hl;rw [<-hR]at hr;exact(Cp hr).2
    ·cases hl
   ·cases hl
 have W:= @sF P N C Q tm σ nx g ps as0 bd gf caps ins es ns hF pn [] gl (fun _ _ h=>by rw [hd]at h;cases h) it hg hidf hns hnd hins hlen hps tl (fun k=>(mG rr es l0 k).isSome=true) (fun k=>(mG rr es l0 k).getD []) (fun k c sx=>∃l x c' e',mG rr es l0 k=some l/\es[k]?=some x/\rr x l= .ext c' sx e'/\F8 c'=c);simp only [List.append_nil]at W;refine W (by simp [mG]) (List.all_eq_true.2 fun p hp=>by simpa using hpn p hp) (by simpa [mG]using (Mz hl0).1) htl (List.all_eq_true.2 fun p hp=>decide_eq_true (hid p hp)) htm hσ hinj (by simpa [mG]using hdis) (fun C' _ k x hx hok=> ?_) (fun hok=> ?_) (fun k c sx hk hX=> ?_)
 ·obtain⟨l,hl⟩:=Option.isSome_iff_exists.1 hok;rw [hl,Option.getD_some];obtain⟨hk,t,ht,htE⟩:=hat k l hl;have hlt:=(List.getElem?_eq_some_iff.1 hx).1;have hdr:es.drop k=x::es.drop (k+1):=by
   rw [List.drop_eq_getElem_cons hlt];congr 1
   exact(List.getElem?_eq_some_iff.1 hx).2
  rw [hdr]at ht;refine hrd _ _ _ k x l ?_ C';unfold KN at ht;split at ht
  ·rename_i l' e' hr;split at ht
   ·simp only [Option.some.injEq,Prod.mk.injEq]at ht;obtain⟨_,_,rfl⟩:=ht;have hst:mG rr es l0 (k+1)=some l':=by simp only [mG,hl,hx,hr]
    rw [<-hR]at hr;rw [(Cp hr).1];exact⟨htE.1,fun _ _=>⟨by simp only [hst,Option.isSome_some],by simp only [hst,Option.getD_some]⟩⟩
   ·cases ht
  ·rename_i c' l' e' hr;have hr':=hr;rw [<-hR]at hr';rw [(Ko hr').1];split at ht;·simp only [Option.some.injEq,Prod.mk.injEq]at ht;obtain⟨_,_,rfl⟩:=ht;exact⟨htE,fun _ _=>⟨l,x,_,_,hl,hx,hr,rfl⟩⟩
   ·simp only [Option.some.injEq,Prod.mk.injEq]at ht;obtain⟨_,_,rfl⟩:=ht;exact⟨htE,fun _ _=>⟨l,x,_,_,hl,hx,hr,rfl⟩⟩
   ·cases ht
  ·cases ht
 ·obtain⟨l,hl⟩:=Option.isSome_iff_exists.1 hok;rw [hl,Option.getD_some];obtain⟨hk,t,ht,htE⟩:=hat _ l hl;rw [List.drop_length]at ht;simp only [KN,Option.some.injEq,Prod.mk.injEq]at ht;obtain⟨rfl,rfl,_⟩:=ht;exact hQ
 ·obtain⟨l,x,c',e',hl,hx,hr,rfl⟩:=hX;obtain⟨hk',t,ht,htE⟩:=hat k l hl;have hdr:es.drop k=x::es.drop (k+1):=by
   rw [List.drop_eq_getElem_cons hk];congr 1
   exact(List.getElem?_eq_some_iff.1 hx).2
  rw [hdr]at ht;unfold KN at ht;rw [hr]at ht;simp only at ht;split at ht;·simp only [Option.some.injEq,Prod.mk.injEq]at ht;obtain⟨rfl,rfl,_⟩:=ht;exact ax hQ
  ·simp only [Option.some.injEq,Prod.mk.injEq]at ht;obtain⟨rfl,rfl,_⟩:=ht;exact aP hQ
  ·cases ht
abbrev mU:Type:=FuncId->List V->List Ob->Option (List (List V)×CT)
def nY(P:Program)(itr:mU):Prop:=∀f caps ins es e,itr f caps ins=some (es,e)->j8 e->CK P f caps ins es
def GF(σ:Nat->Option Ob):List Nat->Option (List Ob)
 | []=>some []
 |k::l=>match σ k with
  |some o=>match Gz o with
   |true=>match GF σ l with
    |some r=>some (o::r)
    |none=>none
   |false=>none
  |none=>none
def DE:List Nat->List Nat
 | []=>[]
 |k::l=>match jJ (DE l) k with
  |true=>DE l
  |false=>k::DE l
structure IK where
  caps:List V
  ns:List Nat
  ins:List Ob
  e:CT
def Lb(caps caps':List V)(ns:List Nat)(ins:List Ob):Option IK:=match rW ns && (V.cR ins.length caps' && Nat.ble ins.length 400)with
 |true=>some ⟨caps',ns,ins,.lf [(.vs caps,.vs (V.aV (y5 ns) caps'))]⟩
 |false=>none
def La(σ:Nat->Option Ob)(caps:List V)(ns:List Nat):Option IK:=match GF σ ns with
 |some ins=>Lb caps (V.aV (fun i=>500+xJ ns i) caps) ns ins
 |none=>none
def Mn(σ:Nat->Option Ob)(caps:List V):Option IK:=match V.bq caps with
 |true=>some ⟨caps,[],[],c0⟩
 |false=>La σ caps (DE (V.ot caps))
theorem xN{σ:Nat->Option Ob}:∀ {ns:List Nat}{ins:List Ob},GF σ ns=some ins->ns.length=ins.length/\∀(i k:Nat) (o:Ob),ns[i]?=some k->ins[i]?=some o->σ k=some o/\Gz o=true
 | [],ins,h=>by simp only [GF,Option.some.injEq]at h;subst h;exact⟨rfl,fun i k o h=>by simp at h⟩
 |k::l,ins,h=>by
  simp only [GF]at h;split at h
  ·rename_i o ho;split at h
   ·rename_i hb;split at h
    ·rename_i r hr;injection h with h;subst h;obtain⟨h1,h2⟩:=xN hr;refine⟨by simp [h1],fun i k' o' hk ho'=> ?_⟩;cases i with
     |zero=>simp at hk ho';subst hk ho';exact⟨ho,hb⟩
     |succ i=>exact h2 i k' o' (by simpa using hk) (by simpa using ho')
    ·cases h
   ·cases h
  ·cases h
theorem Jk{σ:Nat->Option Ob}{caps:List V}{u:IK}(h:Mn σ caps=some u)(he:j8 u.e):caps=V.aV (y5 u.ns) u.caps/\V.cR u.ins.length u.caps=true/\u.ns.length=u.ins.length/\u.ns.Nodup/\(∀(i k:Nat) (o:Ob),u.ns[i]?=some k->u.ins[i]?=some o->σ k=some o/\Gz o=true)/\u.ins.length<=400:=by
 unfold Mn at h;split at h;·rename_i hi;injection h with h;subst h;exact⟨(V.dZ _ _ hi).symm,iq 0 caps hi,rfl,.nil,(fun i k o h=>by simp at h),Nat.zero_le _⟩
 ·generalize DE _=ns at h;unfold La at h;split at h
  ·rename_i ins hins;obtain⟨h1,h2⟩:=xN hins;unfold Lb at h;split at h;·rename_i hb;injection h with h;subst h;simp only [Bool.and_eq_true]at hb;have hE:iI _:=he;have e1:=hE.hd;injection e1 with e1;exact⟨e1,hb.2.1,h1,oB hb.1,h2,Nat.le_of_ble_eq_true hb.2.2⟩
   ·cases h
  ·cases h
def Eb(σ:Nat->Option Ob):List V->List Nat
 | []=>[]
 |v::l=>match v with
  | .ref i o=>match o with
   |0=>match σ i with
    |some (.box _ cs)=>match cs.all V.yZ with
     |true=>i::Eb σ l
     |false=>Eb σ l
    |_=>Eb σ l
   |_+1=>Eb σ l
  |_=>Eb σ l
def OS(mu:List Nat)(σ:Nat->Option Ob)(v:V):List Nat:=match v with
 | .fn (.func gf) _ caps=>match jJ mu gf with
  |true=>Eb σ caps
  |false=>[]
 |_=>[]
def Qh:List (Nat×Option Ob)->List Nat
 | []=>[]
 | (k,o)::l=>match o with
  |some (.box _ cs)=>match V.bq cs && !V.dD [] cs with
   |true=>k::Qh l
   |false=>Qh l
  |_=>Qh l
def sj(mu:List Nat)(s:CS)(g:Operand):CS:=Gi s (nG (OS mu (fQ s.sl) (ev s.tr.get g)) (fT (fQ s.sl) 1000 (ev s.tr.get g).ids [])++Qh s.sl)
def Ou(l:List Nat):List Nat->Bool
 | []=>true
 |k::ns=>match jJ l k with
  |true=>false
  |false=>Ou l ns
def GO(tr:TR)(ns:List Nat):List Nat->List Nat
 | []=>[]
 |t::l=>match Ou (tr.get t).ids ns with
  |true=>t::GO tr ns l
  |false=>GO tr ns l
def FO(v:V):List V:=match v with
 | .fn _ _ caps=>caps
 |_=>[]
def QO(v:V):List Nat:=match V.bq (FO v)with
 |true=>[]
 |false=>DE (V.ot (FO v))
def Ls(tr:TR)(ns:List Nat)(ks:List Nat):List Nat:=match ns with
 | []=>ks
 |k::l=>GO tr (k::l) ks
def LK(call:fG)(T:List TI)(M mu:List Nat)(N np:Nat)(ps:List Nat)(as0 bd:Code)(s:CS)(nl:List Nat)(ks ns:List Nat)(es:List (List V))(obs:List (Ob×Ob)):Option (Exit×CS×CT):=
 match (es.all fun x=>Nat.beq x.length ps.length) && (ps.all (fun p=>decide (p< N)) && (ps.all (fun p=>decide (p< 1000)) && (ks.all (fun p=>decide (p< 1000)) && (decide (500+np+nl.length<=1000) && (JB (we np nl.length) (obs.map Prod.snd) && (decide ((((we np nl.length).zip (obs.map Prod.snd)).map fun p=>aH (fS (500+np) nl) s.nx p.1).Nodup) && ((((we np nl.length).zip (obs.map Prod.snd)).all fun p=> !jJ ns (aH (fS (500+np) nl) s.nx p.1)) && (jo (ou np nl) (vT s.tr ks)).all fun p=>p.2.rU (we np nl.length))))))))with
  |true=>match KN (fun x l=>Nl (we np nl.length) (sk call T M mu N (we np nl.length) (jo (ou np nl) (vT s.tr ks)) ps as0 bd x l)) es (obs.map Prod.snd)with
   |some (c,lf,e)=>some (c,⟨LO (jo (ou np nl) (vT s.tr ks)),yV (we np nl.length) lf,1⟩,.nd (.lf ((.vs (vals (vT s.tr ks)),.vs (V.aV (aH (fS (500+np) nl) s.nx) (vals (jo (ou np nl) (vT s.tr ks)))))::eV (aH (fS (500+np) nl) s.nx) obs)) e)
   |none=>none
  |false=>none
def LJ(call:fG)(itr:mU)(T:List TI)(M mu:List Nat)(N np:Nat)(g:Operand)(ps:List Nat)(as0 bd:Code)(s:CS)(ks nl:List Nat):Option (Exit×CS×CT):=
 match ev s.tr.get g with
  | .fn (.func gf) [] caps=>match Mn (fQ s.sl) caps with
   |some u=>match itr gf u.caps u.ins with
    |some (es,e0)=>match xL (fQ s.sl) (ou np nl) (qc np++nl)with
     |some obs=>match LK call T M mu N np ps as0 bd s nl ks u.ns es obs with
      |some (c,s',e)=>some (c,s',.nd u.e (.nd e0 e))
      |none=>none
     |none=>none
    |none=>none
   |none=>none
  |_=>none
def LI(call:fG)(itr:mU)(T:List TI)(M mu:List Nat)(N np:Nat)(g:Operand)(ps:List Nat)(as0 bd:Code)(s:CS)(ks:List Nat):Option (Exit×CS×CT):= LJ call itr T M mu N np g ps as0 bd s ks (nG (qc np) (fT (fQ s.sl) 1000 (MM (vT s.tr ks)++qc np) []))
def HV(call:fG)(itr:mU)(T:List TI)(M mu:List Nat)(N np:Nat):N3:=fun g ps as0 bd s=> LI call itr T M mu N np g ps.toList as0 bd (sj mu s g) (Ls (sj mu s g).tr (QO (ev (sj mu s g).tr.get g)) (TR.keys id (sj mu s g).tr))
theorem HW{P:Program}{N:Nat}{C:Cx P N}{T:List TI}{M mu:List Nat}{call:fG}{itr:mU}{np:Nat}(hT:aJ T P)(hcl:cZ P call)(hit:nY P itr)(hF:C.F=Fence.wide)(hd:C.dfs=pz):Br C (HV call itr T M mu N np):=by
 intro g ps as0 bd s e s' t h he Q hQ;have hle:∀ {P:Program}{N:Nat}(C:Cx P N) a w,Gm C s.den a w->Gm C (sj mu s g).den a w:=qp s _;refine o5 (s':=(sj mu s g).den) hle ?_;clear hle;unfold HV at h;generalize sj mu s g=s0 at h ⊢;generalize Ls _ _ _=ks at h;unfold LI at h;generalize nG _ _=nl at h;unfold LJ at h;split at h
 ·rename_i gf caps hg;split at h
  ·rename_i u hu;split at h
   ·rename_i es e0 hes;split at h
    ·rename_i obs hobs;split at h
     ·rename_i c s1 e1 h2;simp only [Option.some.injEq,Prod.mk.injEq]at h;obtain⟨rfl,rfl,rfl⟩:=h;obtain⟨heu,he0,he⟩:=he;obtain⟨u1,u2,u3,u4,u5,u6⟩:=Jk hu heu;unfold LK at h2;split at h2
      ·rename_i hb;split at h2
       ·rename_i c1 lf e2 hw;simp only [Option.some.injEq,Prod.mk.injEq]at h2;obtain⟨rfl,rfl,rfl⟩:=h2;simp only [Bool.and_eq_true,decide_eq_true_eq]at hb;obtain⟨hb1,hb2,hb3,hb4,hb5,hb6,hb7,hb8,hb9⟩:=hb;obtain⟨hE,hew⟩:=he;have hE':iI _:=hE;have e1:=hE'.hd;injection e1 with e1;have hB:=hE'.tl;obtain⟨hlen,hget⟩:=kQ hobs;have hps:∀p∈ps.toList,p< 1000:=fun p hp=>of_decide_eq_true (List.all_eq_true.1 hb3 p hp);have htl:∀p∈jo (ou np nl) (vT s0.tr ks),p.1< 1000:=fun p hp=>by obtain⟨q,hq,hq2⟩:=ym hp;rw [<-hq2];exact of_decide_eq_true (List.all_eq_true.1 hb4 _ (CH hq))
        have hpn:∀p∈we np nl.length,500<=p/\p< 1000:=fun p hp=>by unfold we qc at hp;simp only [List.mem_append,List.mem_map,List.mem_range]at hp;rcases hp with⟨a,ha,rfl⟩ | ⟨a,ha,rfl⟩ <;> omega
        have hs1:(CS.mk (LO (jo (ou np nl) (vT s0.tr ks))) (yV (we np nl.length) lf) 1).den=⟨gJ (jo (ou np nl) (vT s0.tr ks)),dw ((we np nl.length).zip lf),1⟩:=by unfold CS.den;rw [vU htl,sQ]
        rw [hs1]at hQ;have H1:∀ok sl X k x l,L3 (we np nl.length) ok sl X k (sk call T M mu N (we np nl.length) (jo (ou np nl) (vT s0.tr ks)) ps.toList as0 bd x l)->∀C':Cx P N,AW C' as0 (dR (fun s'=>AW C' bd (o4 (we np nl.length) ok sl X k) s') (fun _ _=>False)) ⟨oK (gJ (jo (ou np nl) (vT s0.tr ks))) ps.toList x,dw ((we np nl.length).zip l),1⟩:=fun ok sl X k x l hr C'=>Eo hT hcl hpn htl hps hr C';have H2:∀p∈fS (500+np) nl,p.1< 1000:=fun p hp=>by have:=x4 hp;omega
        have H3:=sg (g:=aH (fS (500+np) nl) s0.nx) (gi:=ou np nl) (tm:=s0.tr.get) (tl:=vT s0.tr ks) CI e1;generalize sk call T M mu N (we np nl.length) (jo (ou np nl) (vT s0.tr ks)) ps.toList as0 bd=rd at hw H1;generalize jo (ou np nl) (vT s0.tr ks)=tl at*;refine Em u.ns hF hd (we np nl.length) (fS (500+np) nl) (hit _ _ _ _ _ hes he0) (by rw [<-u1];exact hg) u2 u3 u4 u5 (fun x hx=> ?_) hb2 tl rd (obs.map Prod.snd) hb6 H1 hpn hb9 H2 H3 (qj fun p hp=> ?_) (decide_eq_true hb7) (fun p hp=>by have:=List.all_eq_true.1 hb8 p hp;simp only [Bool.not_eq_true']at this;exact rL this) hw hew hQ;·have:=List.all_eq_true.1 hb1 x hx;have:=Nat.eq_of_beq_eq_true this;simpa using this
        ·obtain⟨i,h1,h2⟩:=v5 hp;simp only [List.getElem?_map,Option.map_eq_some_iff]at h2;obtain⟨q,hq,hq2⟩:=h2;obtain⟨k,hk,hσ,hno⟩:=hget i q hq;have hil:=(List.getElem?_eq_some_iff.1 hq).1;rw [hlen]at hil;have hpl:(qc np).length=np:=by simp [qc]
         simp only [List.length_append,hpl]at hil;have hlk:aH (fS (500+np) nl) s0.nx p.1=k:=by
          unfold we at h1;unfold aH;by_cases hi:i< np
          ·rw [List.getElem?_append_left oM]at h1 hk;rw [hk]at h1;injection h1 with h1;have hkk:k=500+i:=by unfold qc at hk;rw [List.getElem?_map,List.getElem?_range hi]at hk;simp at hk;omega
           rw [<-h1,Ca oM];exact if_pos oM
          ·rw [List.getElem?_append_right oM]at h1 hk;rw [hpl]at h1 hk;rw [List.getElem?_map,List.getElem?_range oM]at h1;simp only [Option.map_some,Option.some.injEq]at h1;rw [<-h1,lN hk]
         refine⟨q.1,by rw [hlk];exact hσ,?_⟩;rw [<-hq2];exact oz hno (fN hB hq)
       ·cases h2
      ·cases h2
     ·cases h
    ·cases h
   ·cases h
  ·cases h
 ·cases h
end
end Go.Ab

namespace Go.Ab
open Go.RowKit Go.Dw Go.Shelf
noncomputable section
def Fo:Nat->List V->TR->TR
 |_,[],tr=>tr
 |i,v::l,tr=>Fo (i+1) l (TR.put 10 tr i v)
theorem wK:∀(l:List V) (i:Nat) (tr:TR) (t:Nat),i+l.length<=1000->(Fo i l tr).get t=if i<=t/\t< i+l.length then l.getD (t- i) .any else tr.get t
 | [],i,tr,t,_=>by simp only [Fo,List.length_nil];rw [if_neg oM]
 |v::l,i,tr,t,h=>by
  simp only [List.length_cons]at h;simp only [Fo,List.length_cons];rw [wK l (i+1) _ t oM,TR.jO oM];by_cases h1:t=i;·subst h1;rw [if_neg oM,if_pos oM,an,Nat.sub_self];rfl
  ·rw [ag _ _ h1];by_cases h2:i+1<=t/\t< i+1+l.length;·rw [if_pos h2,if_pos oM,show t- i=(t- (i+1))+1 by omega];rfl
   ·rw [if_neg h2,if_neg oM]
def GD:Nat->List Ob->List (Nat×Option Ob)
 |_,[]=>[]
 |k,o::l=>(k,some o)::GD (k+1) l
theorem xM:∀(l:List Ob) (k i:Nat),fQ (GD k l) i=if k<=i then l[i- k]? else none
 | [],k,i=>by simp [GD,fQ]
 |o::l,k,i=>by
  simp only [GD,fQ];split;·rename_i h;have h:=Nat.eq_of_beq_eq_true h;subst h;rw [if_pos (Nat.le_refl _),Nat.sub_self];rfl
  ·rename_i h;have h:=Nat.ne_of_beq_eq_false h;rw [xM l (k+1) i];by_cases h2:k<=i;·rw [if_pos h2,if_pos oM,show i- k=(i- (k+1))+1 by omega];rfl
   ·rw [if_neg h2,if_neg oM]
def oL(args:List V)(ins:List Ob):CS:=⟨Fo 0 args .e,GD 500 ins,1⟩
theorem mR{args:List V}{ins:List Ob}(h:args.length<=1000):(oL args ins).den=⟨fun t=>args.getD t .any,eW ins,1⟩:=by
 unfold CS.den oL;congr 1
 ·funext t;simp only;rw [wK args 0 .e t oM,TR.jj];simp only [Nat.zero_le,true_and,Nat.zero_add,Nat.sub_zero];split;·rfl
  ·rename_i h1;rw [List.getD_eq_getElem?_getD,List.getElem?_eq_none oM];rfl
 ·funext i;exact xM ins 500 i
def Az(s:CS):List ResultVar->List (Nat×V)
 | []=>[]
 | .tmp t::l=>(t,s.tr.get t)::Az s l
 | .cell a _::l=>(a,s.tr.get a)::Az s l
def yb(σ:Nat->Option Ob)(g:Nat->Nat):Nat->Nat->List (Option (Ob×Ob))
 |_,0=>[]
 |k,n+1=>(match σ k with
  |some o=>match y4 g o with
   |some o'=>some (o,o')
   |none=>none
  |none=>none)::yb σ g (k+1) n
def sy:List (Option (Ob×Ob))->List (Option Ob)
 | []=>[]
 |o::l=>o.map Prod.snd::sy l
def Bz(g:Nat->Nat):List (Option (Ob×Ob))->List (CE×CE)
 | []=>[]
 |some p::l=>eV g [p]++Bz g l
 |none::l=>Bz g l
def Ic(g:Nat->Nat):List Ob->List (CE×CE)
 | []=>[]
 |o::l=>uA g o++Ic g l
def CD(g:Nat->Nat):List (Option Ob)->List (CE×CE)
 | []=>[]
 |some o::l=>uA g o++CD g l
 |none::l=>CD g l
def Dx:Nat->List (Ob×Ob)->List (Nat×Ob)
 |_,[]=>[]
 |k,p::l=>(k,p.2)::Dx (k+1) l
theorem wY:∀ {l:List (Ob×Ob)}{k:Nat}{p:Nat×Ob},p∈Dx k l->∃(i:Nat) (q:Ob×Ob),l[i]?=some q/\p.1=k+i/\p.2=q.2
 | [],_,_,h=>by simp [Dx]at h
 |q::l,k,p,h=>by
  rcases List.mem_cons.1 h with rfl |h;·exact⟨0,q,rfl,rfl,rfl⟩
  ·obtain⟨i,q',h1,h2,h3⟩:=wY h;exact⟨i+1,q',by simpa using h1,by omega,h3⟩
def K9(T:List TI)(fn:Func)(n:Nat)(s:CS)(nl:List Nat)(tl:List (Nat×V))(m:Nat)(all:List (Ob×Ob))(outs:List (Option (Ob×Ob))):Option CR:=
 match decide (((j4 0 (((all.take m).map Prod.snd).map some)++(j4 500 (sy outs)++Dx m (all.drop m))).map fun p=>aH (fS 0 nl) s.nx p.1).Nodup) && ((fS 0 nl).all (fun p=>decide (p.1< 500)) && (decide (((all.take m).map Prod.snd).length<=90) && Nat.ble nl.length 400))with
  |true=>match qf T ⟨gJ (jo (GG nl) tl),dw (j4 0 (((all.take m).map Prod.snd).map some)++(j4 500 (sy outs)++Dx m (all.drop m))),1⟩ fn.results.toList with
   |some v=>some ⟨v,sy outs,(all.take m).map Prod.snd,.lf ((.vs (vals tl),.vs (V.aV (aH (fS 0 nl) s.nx) (vals (jo (GG nl) tl))))::
    (.vs [v],.vs [v.bx (bg ((all.take m).map Prod.snd).length n 1)])::(eV (aH (fS 0 nl) s.nx) all++(Bz (aH (fS 0 nl) s.nx) outs++(Ic (bg ((all.take m).map Prod.snd).length n 1) ((all.take m).map Prod.snd)++CD (bg ((all.take m).map Prod.snd).length n 1) (sy outs)))))⟩
   |none=>none
  |false=>none
def K8(T:List TI)(fn:Func)(n:Nat)(s:CS)(nl:List Nat)(tl:List (Nat×V))(m:Nat):Option CR:=
 match xL (fQ s.sl) (GG nl) nl with
  |some all=>K9 T fn n s nl tl m all (yb (fQ s.sl) (GG nl) 500 n)
  |none=>none
def K7(T:List TI)(fn:Func)(n:Nat)(s:CS)(nv:List Nat):Option CR:= K8 T fn n s (nv++nG (qc n++nv) (fT (fQ s.sl) 1000 (MM (Az s fn.results.toList)) [])) (Az s fn.results.toList) nv.length
def wZ(T:List TI)(fn:Func)(n:Nat)(s:CS):Option CR:=match qf T s.den fn.results.toList with
 |some v0=>K7 T fn n s (nG (qc n) (fT (fQ s.sl) 1000 (v0.ids++qc n) []))
 |none=>none
theorem r7{σ:Nat->Option Ob}{g:Nat->Nat}:∀ {n k i:Nat}{p:Ob×Ob},(yb σ g k n)[i]?=some (some p)->i< n/\σ (k+i)=some p.1/\y4 g p.1=some p.2
 |0,_,_,_,h=>by simp [yb]at h
 |n+1,k,0,p,h=>by
  simp only [yb,List.getElem?_cons_zero,Option.some.injEq]at h;split at h
  ·rename_i o ho;split at h;·rename_i o' ho';simp only [Option.some.injEq]at h;subst h;exact⟨by omega,ho,ho'⟩
   ·cases h
  ·cases h
 |n+1,k,i+1,p,h=>by simp only [yb,List.getElem?_cons_succ]at h;obtain⟨h1,h2,h3⟩:=r7 h;exact⟨by omega,by rw [<-h2];congr 1;omega,h3⟩
theorem yd{σ:Nat->Option Ob}{g:Nat->Nat}:∀ {n k:Nat},(yb σ g k n).length=n
 |0,_=>rfl
 |n+1,k=>by simp [yb,yd]
theorem sA:∀ {l:List (Option (Ob×Ob))}{i:Nat}{o:Option Ob},(sy l)[i]?=some o->∃q,l[i]?=some q/\o=q.map Prod.snd
 | [],_,_,h=>by simp [sy]at h
 |q::l,0,o,h=>by simp [sy]at h;exact⟨q,rfl,h.symm⟩
 |q::l,i+1,o,h=>by simpa using sA (l:=l) (by simpa [sy]using h)
theorem yx:∀ {l:List (Option (Ob×Ob))},(sy l).length=l.length
 | []=>rfl
 |_::l=>by simp [sy,yx]
theorem oc{g:Nat->Nat}:∀ {l:List (Option (Ob×Ob))},iI (Bz g l)->∀ {i:Nat}{p:Ob×Ob},l[i]?=some (some p)->iI (eV g [p])
 |some q::l,h,0,p,hp=>by simp at hp;subst hp;exact h.l
 |none::l,h,0,p,hp=>by simp at hp
 |some q::l,h,i+1,p,hp=>oc h.r (by simpa using hp)
 |none::l,h,i+1,p,hp=>oc (l:=l) h (by simpa using hp)
theorem uB{g:Nat->Nat}:∀ {l:List Ob},iI (Ic g l)->∀ {i:Nat}{o:Ob},l[i]?=some o->iI (uA g o)
 |q::l,h,0,p,hp=>by simp at hp;subst hp;exact h.l
 |q::l,h,i+1,p,hp=>uB h.r (by simpa using hp)
theorem oN{g:Nat->Nat}:∀ {l:List (Option Ob)},iI (CD g l)->∀ {i:Nat}{o:Ob},l[i]?=some (some o)->iI (uA g o)
 |some q::l,h,0,p,hp=>by simp at hp;subst hp;exact h.l
 |none::l,h,0,p,hp=>by simp at hp
 |some q::l,h,i+1,p,hp=>oN h.r (by simpa using hp)
 |none::l,h,i+1,p,hp=>oN (l:=l) h (by simpa using hp)
theorem si{s:CS}:∀ {rs:List ResultVar},∀p∈Az s rs,s.tr.get p.1=p.2
 | [],p,h=>by simp [Az]at h
 | .tmp t::l,p,h=>by
  rcases List.mem_cons.1 h with rfl |h;·rfl
  ·exact si (rs:=l) p h
 | .cell a _::l,p,h=>by
  rcases List.mem_cons.1 h with rfl |h;·rfl
  ·exact si (rs:=l) p h
theorem Ht{g:Nat->Nat}{l:List (Option Ob)}(h:∀(i:Nat) (o:Ob),l[i]?=some (some o)->o.bx g=o):Lz g l=l:=by
 unfold Lz;refine List.ext_getElem? fun i=> ?_;rw [List.getElem?_map];cases hi:l[i]? with
 |none=>rfl
 |some o=>
  cases o with
  |none=>rfl
  |some o=>simp [h i o hi]
theorem LN{l:List (Ob×Ob)}{m i:Nat}{q:Ob×Ob}(h:(l.take m)[i]?=some q):l[i]?=some q:=by
 rw [List.getElem?_take]at h;split at h;·exact h
 ·cases h
theorem BF{T:List TI}{fn:Func}{n:Nat}{s:CS}{r:CR}{e:Exit}(hn:n<=400)(he:e= .normal\/e= .ret)(h:wZ T fn n s=some r)(hE:j8 r.e) :
    dQ T fn n r.v r.outs r.obs e s.den/\r.outs.length=n/\r.obs.length<=90:=by
  unfold wZ at h
  split at h
  · unfold K7 at h
    generalize nG (qc n) _=nv at h
    generalize nv++nG _ _=nl at h
    generalize nv.length=m at h
    unfold K8 at h
    split at h
    · rename_i obs hobs
      unfold K9 at h
      split at h
      · rename_i hb
        split at h
        · rename_i v hv
          injection h with h;subst h
          simp only [Bool.and_eq_true]at hb
          obtain⟨hb1,hb2,hb3,hb4⟩:=hb
          have hob:=of_decide_eq_true hb3
          obtain⟨hlen,hget⟩:=kQ hobs
          have hnl:=Nat.le_of_ble_eq_true hb4
          have hE':iI _:=hE
          have e1:=hE'.hd
          injection e1 with e1
          have e2:=hE'.tl.hd
          injection e2 with e2
          have hB:=hE'.tl.tl.l
          have hO:=hE'.tl.tl.r.l
          have hS:=hE'.tl.tl.r.r.l
          have hSO:=hE'.tl.tl.r.r.r
          simp only [V.aV,List.cons.injEq,and_true]at e2
          refine⟨Pd (tm:=s.tr.get) (σ:=fQ s.sl) (nx:=s.nx) (fS 0 nl) (jo (GG nl) (Az s fn.results.toList)) (Dx m (obs.drop m)) he (sg si e1) (qj fun p hp=> ?_) hb1 hb2 hb3 hv rfl e2.symm (Ht fun i o hi=> ?_),by rw [yx,yd],hob⟩
          · rcases List.mem_append.1 hp with hp |hp
            · obtain⟨i,h1,h2⟩:=qB hp
              simp only [List.getElem?_map,Option.map_eq_some_iff]at h2
              obtain⟨o',⟨q,hq,rfl⟩,h4⟩:=h2
              injection h4 with h4
              have hq:=LN hq
              obtain⟨k,hk,hσ,hno⟩:=hget i q hq
              have hg:aH (fS 0 nl) s.nx p.1=k:=by
                unfold aH
                rw [h1,lN hk]
              refine⟨q.1,by rw [hg];exact hσ,?_⟩
              rw [<-h4]
              exact oz hno (fN hB hq)
            rcases List.mem_append.1 hp with hp |hp
            rotate_left
            · obtain⟨i,q,hq,h1,h2⟩:=wY hp
              rw [List.getElem?_drop]at hq
              obtain⟨k,hk,hσ,hno⟩:=hget (m+i) q hq
              have hg:aH (fS 0 nl) s.nx p.1=k:=by
                unfold aH
                rw [h1,show m+i=0+(m+i) by omega,lN hk]
              refine⟨q.1,by rw [hg];exact hσ,?_⟩
              rw [h2]
              exact oz hno (fN hB hq)
            · obtain⟨i,h1,h2⟩:=qB hp
              obtain⟨q,hq,hq2⟩:=sA h2
              cases q with
              |none=>cases hq2
              |some q=>
                simp only [Option.map_some,Option.some.injEq]at hq2
                obtain⟨hin,hσ,hno⟩:=r7 hq
                have hg:aH (fS 0 nl) s.nx p.1=500+i:=by
                  unfold aH
                  rw [h1,um oM]
                  exact if_pos oM
                refine⟨q.1,by rw [hg];exact hσ,?_⟩
                rw [hq2]
                exact oz hno (oc hO hq)
          · by_cases hlt:i< ((obs.take m).map Prod.snd).length
            · rw [List.getElem?_append_left (by simpa using hlt)]at hi
              simp only [List.getElem?_map,Option.map_eq_some_iff]at hi
              obtain⟨o',⟨q,hq,rfl⟩,h4⟩:=hi
              injection h4 with h4
              have hq0:=hq
              have hq:=LN hq
              obtain⟨k,hk,hσ,hno⟩:=hget i q hq
              rw [<-h4]
              exact xU hno (uB hS (i:=i) (by rw [List.getElem?_map,hq0];rfl))
            · rw [List.getElem?_append_right (by simpa using Nat.le_of_not_lt hlt)]at hi
              obtain⟨q,hq,hq2⟩:=sA hi
              cases q with
              |none=>cases hq2
              |some q=>
                simp only [Option.map_some,Option.some.injEq]at hq2
                obtain⟨hin,hσ,hno⟩:=r7 hq
                rw [hq2]
                rw [hq2]at hi
                exact xU hno (oN hSO hi)
        · cases h
      · cases h
    · cases h
  · cases h
def QC:Ob->V
 | .row _ sz n f=> .sl sz n f
 | .box _ cs=> .ptr cs
 | .mp _ _=> .any
def JG:Nat->List Ob->List V->List V
 |_,[],args=>args
 |k,o::l,args=>JG (k+1) l (V.ng k (QC o) args)
def xI:List Ob->Bool
 | []=>true
 | .row _ _ n f::l=>match ((List.range n).map f).all V.bq with
  |true=>xI l
  |false=>false
 | .box _ cs::l=>match V.bq cs with
  |true=>xI l
  |false=>false
 | .mp _ _::_=>false
theorem rJ:∀ {l:List Ob},xI l=true->∀ {i:Nat}{o:Ob},l[i]?=some o->match o with
    | .row _ _ n f=>∀i,i< n->V.bq (f i)=true
    | .box _ cs=>V.bq cs=true
    | .mp _ _=>False
  | [],_,i,o,hi=>by simp at hi
  | .row e sz n f::l,h,i,o,hi=>by
    simp only [xI]at h
    split at h
    · rename_i ha
      cases i with
      |zero=>
        simp at hi;subst hi
        intro j hj
        have:=ic ha j
        rwa [lQ hj]at this
      |succ i=>exact rJ h (by simpa using hi)
    · cases h
  | .box t cs::l,h,i,o,hi=>by
    simp only [xI]at h
    split at h
    · rename_i ha
      cases i with
      |zero=>simp at hi;subst hi;exact ha
      |succ i=>exact rJ h (by simpa using hi)
    · cases h
  | .mp _ _::l,h,i,o,hi=>by simp [xI]at h
theorem Oc{w:World}{L:Nat->Prop}{ρ:Nat->Option Value}{id:Nat}{v0:V}(h0:∀y,ρ id=some y->R w L ρ v0 y){us:List V}{xs:List Value}(h:RV w L ρ us xs):RV w L ρ (V.ng id v0 us) xs:=by
 refine⟨by rw [V.eR];exact h.1,fun i u x hu hx=> ?_⟩;rw [V.fY]at hu;cases hc:us[i]? with
 |none=>rw [hc]at hu;cases hu
 |some a=>rw [hc]at hu;simp only [Option.map_some,Option.some.injEq]at hu;subst hu;exact mz h0 _ _ (h.2 i a x hc hx)
theorem EU{w:World}{L:Nat->Prop}{ρ:Nat->Option Value}{xs:List Value}:∀(l:List Ob) (k:Nat) (us:List V),(∀i o,l[i]?=some o->∀y,ρ (k+i)=some y->R w L ρ (QC o) y)->RV w L ρ us xs->RV w L ρ (JG k l us) xs
 | [],_,_,_,h=>h
 |o::l,k,us,h0,h=>EU l (k+1) _ (fun i o' hi y hy=>h0 (i+1) o' (by simpa using hi) y (by rw [<-hy];congr 1;omega)) (Oc (fun y hy=>h0 0 o rfl y hy) h)
theorem AM.keep{P:Program}{f:FuncId}{args:List V}{ins:List Ob}{v:V}(h:AM P f (JG 500 ins args) [] v [] [])(hi:V.bq (JG 500 ins args)=true)(hi2:xI ins=true)(hv:v.rB=true):AM P f args ins v (ins.map some) []:=by
 refine⟨h.1,fun W LB L w ρ vs hwl hWL hG hρ hvs=> ?_⟩;have hins:∀i o,ins[i]?=some o->eW ins (500+i)=some o:=fun i o hi=>by unfold eW;rw [if_pos oM,Nat.add_sub_cancel_left];exact hi
 obtain⟨Lx,hLx⟩:∃Lx:Nat->Prop,∀b,Lx b<->L b\/∃i x,i< ins.length/\ρ (500+i)=some x/\blk x=some b:=⟨_,fun _=>Iff.rfl⟩;have hobj:∀i o,ins[i]?=some o->∃y,ρ (500+i)=some y/\(∀k,blk y=some k->k< w.heap.size/\W k/\¬L k)/\R w Lx ρ (QC o) y:=by
  intro i o hio;have hlt:=(List.getElem?_eq_some_iff.1 hio).1;have hr:=hG.ob _ _ (hins i o hio);have hc:=rJ hi2 hio;have fin:∀u y,ρ (500+i)=some y->(∀k,blk y=some k->k< w.heap.size/\W k/\¬L k)->R w (fun b=>L b\/blk y=some b) ρ u y->∃y,ρ (500+i)=some y/\(∀k,blk y=some k->k< w.heap.size/\W k/\¬L k)/\R w Lx ρ u y:=fun u y h1 h2 h3=> ⟨y,h1,h2,h3.ext ⟨fun b hb=>⟨(hLx b).2 (hb.imp id fun h=>⟨i,y,hlt,h1,h⟩),rfl⟩,fun _ _ h=>h⟩⟩;cases o with
  |row e sz n row=>obtain⟨y,h1,h2,h3⟩:=hr.slice hc;exact fin _ y h1 h2 h3
  |box t cs=>obtain⟨y,h1,h2,h3⟩:=hr.ptr hc;exact fin _ y h1 h2 h3
  |mp _ _=>exact hc.elim
 have hLb:∀b,Lx b->b< w.heap.size:=fun b hb=>by
  rcases(hLx b).1 hb with hb | ⟨i,x,hil,hx,hbx⟩;·exact(hG.ll b hb).1
  ·obtain⟨y,h1,h2,_⟩:=hobj i _ (List.getElem?_eq_getElem hil);rw [h1]at hx;injection hx with hx;subst hx
   exact(h2 b hbx).1
 have ex:Ext w L ρ w Lx ρ:=⟨fun b hb=>⟨(hLx b).2 (.inl hb),rfl⟩,fun _ _ h=>h⟩;have hrv:RV w Lx ρ0 (JG 500 ins args) vs.toList:=by refine RV.free (ρ:=ρ) ?_ hi;refine EU ins 500 args (fun i o hio y hy=> ?_) ⟨hvs.1,fun i u x hu hx=>(hvs.2 i u x hu hx).ext ex⟩;obtain⟨y',h1,_,h3⟩:=hobj i o hio;rw [h1]at hy;injection hy with hy;subst hy;exact h3
 refine(h.2 (fun b=>w.heap.size<=b) (fun b=>Lx b\/w.heap.size<=b) Lx w ρ0 vs (fun b hb=> .inr hb) (fun b hb hL=>by have:=hLb b hL;omega) ⟨fun b hb=>⟨hLb b hb,.inl hb⟩,fun b hb=>⟨hb,.inr hb⟩,(fun id o ho=>by unfold eW at ho;split at ho <;> simp at ho),(fun i j x y k _ _ _ hx=>by cases hx),hG.rH ex⟩ (fun _ _=>rfl) hrv).mono ?_;rintro e w' ⟨x,rfl,ht,L',ρ',hG',hE',hx,hnn⟩;have hbel:Below w.heap.size w w':=ht.below (Nat.le_refl _) fun j hj hW=>by have hW':w.heap.size<=j:=hW;omega
 obtain⟨hG2,ex2⟩:=hG.quiet hbel (L':=L) (fun _ h=>h) (fun _ h=> .inl h);have eo:fh (ins.map some) []=eW ins:=by
  funext id;unfold fh eW;by_cases h5:500<=id;·rw [if_pos h5,if_pos h5,List.getElem?_map];cases ins[id- 500]? <;> rfl
  ·rw [if_neg h5,if_neg h5];simp
 refine⟨x,rfl,aZ.fA hbel fun k _ hk=>(hG.new k hk).1,L,ρ,?_,ex2,hx.rB hv,fun j _ hj=>hρ j hj⟩;rw [eo];exact hG2
theorem CW{T:List TI}{P:Program}(hT:aJ T P)(hmx:P.follows .mixedOrders=true){f:FuncId}{fn:Func}{c:Code}{N:Nat}(hk:qG P f fn c N){args:List V}{ins:List Ob}{v:V}{obs:List Ob}(hargs:args.length<=N)(hn4:ins.length<=400)(ho9:obs.length<=90)
    (h:∀C:Cx P N,C.F=Fence.wide->C.dfs=pz->AW C c (dQ T fn 0 v [] obs) ⟨fun t=>args.getD t .any,eW ins,1⟩):AM P f args ins v (ins.map fun _=>none) obs:=by
  refine⟨hk.call,fun W LB L w ρ vs hwl hWL hG hρn hvs=> ?_⟩
  obtain⟨C,hW,hLB,hd,hFw⟩:∃C:Cx P N,C.W=W/\C.LB=LB/\C.dfs=pz/\C.F=Fence.wide:=⟨⟨W,LB,hwl,pz,hmx,Fence.wide,.inl rfl⟩,rfl,rfl,rfl,rfl⟩
  have hvl:vs.size=args.length:=by have:=hvs.1;simpa using this.symm
  refine callsIn_wide.1 (callsIn_of_wp_marks (n:=0) hk.hf hk.hb trivial ?_ rfl)
  have hw:=h C hFw hd
  unfold AW at hw
  rw [hFw]at hw
  refine wpIn_mono (hw _ w ⟨L,ρ,⟨?_,fun id hid=> ?_,fun t=> ?_,?_,?_,fun id x hp=> ?_⟩⟩) ?_
  · rw [hW,hLB];exact hG
  · have hid':1*100000<=id:=hid
    exact hρn id (.inr oM)
  · by_cases ht:t< args.length
    · have h1:args[t]?=some args[t]:=List.getElem?_eq_getElem ht
      obtain⟨x,hx,hr⟩:=hvs.get h1
      have e1:args.getD t .any=args[t]:=by simp [List.getD_eq_getElem?_getD,h1]
      have e2:(vs++Array.replicate (fn.ntmps- vs.size) undef).getD t undef=x:=by
        rw [Array.getD_eq_getD_getElem?,Array.getElem?_append_left oM]
        have:vs[t]?=some x:=by simpa using hx
        rw [this];rfl
      show R w L ρ (args.getD t .any) _
      rw [e1,e2];exact hr
    · have e1:args.getD t .any= .any:=by simp [List.getD_eq_getElem?_getD,List.getElem?_eq_none (Nat.le_of_not_lt ht)]
      show R w L ρ (args.getD t .any) _
      rw [e1];exact .any _ _
  · rw [<-hk.hn]at hargs ⊢
    simp;omega
  · exact⟨[],by rw [hd];rfl,by simp,by simp⟩
  · rw [hd]at hp;cases hp
  · rintro e a' w' ⟨s',⟨he,s'',hle,hres,hob,hout,hcv,hco,hcu⟩,g',t⟩
    obtain⟨L',ρ',g''⟩:=hle C a' w' g'
    rw [hW]at t
    obtain⟨Ds,d1,d2,d3⟩:=g''.defers
    rw [hd,show pz.tl=[]from rfl,List.append_nil]at d1
    refine jG Ds he d1 d2 (fun D hD=>(d3 D hD).1) fun w2 ht2=> ?_
    obtain⟨g2,e2⟩:=g''.g.marks ht2 d3
    obtain⟨x,hx,hr⟩:=nO hT g2 (fun t=>(g''.tm t).ext e2) fn hres
    have hWD:∀D∈Ds,W D:=fun D hD=>by have:=(d3 D hD).2.1;rw [hW]at this;exact this
    have tt:aZ W w w2:=t.trans (ht2.mono fun k _ hkD=>hWD k hkD)
    refine⟨x,hx,x,rfl,tt,?_⟩
    have hr2:R w2 L' (fun i=>ρ' (bg obs.length 0 s''.nx i)) v x:=kA _ _ _ (by rw [hcv];exact hr)
    have hlt:∀i,i< obs.length->bg obs.length 0 s''.nx i=i:=fun i hi=>by unfold bg;rw [if_pos (.inl hi)]
    have hoF:∀id o,fh (ins.map fun _=>none) obs id=some o->s''.σ id=some o/\bg obs.length 0 s''.nx id=id/\o.bx (bg obs.length 0 s''.nx)=o:=by
      intro id o ho
      unfold fh at ho
      split at ho
      · rename_i h5
        rw [List.getElem?_map]at ho
        cases hq:ins[id- 500]? with
        |none=>rw [hq]at ho;cases ho
        |some q=>rw [hq]at ho;cases ho
      · exact⟨hob id o ho,hlt id (List.getElem?_eq_some_iff.1 ho).1,hco o (List.mem_of_getElem? ho)⟩
    have hfr:∀i,obs.length<=i->ρ' (bg obs.length 0 s''.nx i)=none:=fun i hi=>by
      have e3:bg obs.length 0 s''.nx i=s''.nx*100000+i:=if_neg oM
      rw [e3]
      exact g''.fr _ (by unfold bU;omega)
    obtain⟨ρ2,hρ2⟩:∃ρ2:Nat->Option Value,∀i,ρ2 i=if 500<=i/\i< 500+ins.length then ρ i else ρ' (bg obs.length 0 s''.nx i):=⟨_,fun _=>rfl⟩
    have hρlt:∀i,i< 500->ρ2 i=ρ' (bg obs.length 0 s''.nx i):=fun i hi=>by rw [hρ2,if_neg oM]
    have hE2:Ext w2 L' (fun i=>ρ' (bg obs.length 0 s''.nx i)) w2 (fun b=>L' b\/L b) ρ2:=⟨fun b hb=>⟨.inl hb,rfl⟩,fun id v hv=>by
      by_cases hi:id< obs.length
      · rw [hρlt id oM];exact hv
      · have hv:ρ' (bg obs.length 0 s''.nx id)=some v:=hv
        rw [hfr id oM]at hv;cases hv⟩
    refine⟨fun b=>L' b\/L b,ρ2,⟨fun b hb=> ?_,fun b hb=> ?_,fun id o ho=> ?_,fun i j x y k hij hi hj=> ?_,g2.Qb hE2.l⟩,⟨fun b hb=>⟨.inr hb,tt.block b (hG.ll b hb).1 fun hc=>hWL b hc hb⟩,fun id x hx=> ?_⟩,hr2.ext hE2,fun j hj hj5=> ?_⟩
    · rcases hb with hb |hb
      · have:=g2.ll b hb
        rw [hLB]at this
        exact⟨this.1,this.2⟩
      · exact⟨Nat.lt_of_lt_of_le (hG.ll b hb).1 tt.size,(hG.ll b hb).2⟩
    · exact hG.new b (Nat.le_trans tt.size hb)
    · obtain⟨q1,q2,q3⟩:=hoF id o ho
      have hr0:=g2.ob id o q1
      rw [hW]at hr0
      have hr:Real W w2 L' (fun i=>ρ' (bg obs.length 0 s''.nx i)) id o:=Real.bx (by rw [q2,q3];exact hr0)
      obtain⟨y,hy,hy2⟩:=hr.lt
      refine hr.keep hE2 fun x k hx hk=> ?_
      rw [hx]at hy;injection hy with hy;subst hy
      refine⟨rfl,?_⟩
      rintro(h1 |h1)
      · exact(hy2 k hk).2.2 h1
      · exact hWL k (hy2 k hk).2.1 h1
    · have key:∀i,fh (ins.map fun _=>none) obs i≠none->s''.σ i≠none/\bg obs.length 0 s''.nx i=i/\i< 500:=fun i hi=>by
        cases ho:fh (ins.map fun _=>none) obs i with
        |none=>exact absurd ho hi
        |some o=>
          obtain⟨q1,q2,_⟩:=hoF i o ho
          refine⟨by rw [q1];simp,q2,?_⟩
          unfold fh at ho
          split at ho
          · rw [List.getElem?_map]at ho
            cases hq:ins[i- 500]? with
            |none=>rw [hq]at ho;cases ho
            |some q=>rw [hq]at ho;cases ho
          · omega
      rw [hρlt i (key i hi).2.2,hρlt j (key j hj).2.2,(key i hi).2.1,(key j hj).2.1]
      exact g2.sep i j x y k hij (key i hi).1 (key j hj).1
    · by_cases h5:500<=id/\id< 500+ins.length
      · rw [hρ2,if_pos h5];exact hx
      · rw [hρn id oM]at hx;cases hx
    · rw [hρ2,if_neg oM]
      exact hfr j hj
abbrev ML:Type:=List (FuncId×List Nat)
def N6:ML->FuncId->List Nat
 | [],_=>[]
 | (k,m)::l,f=>match Nat.beq f k with
  |true=>m
  |false=>N6 l f
def Jq(mu:List Nat)(f:FuncId)(args:List V)(ins:List Ob):CS:=match jJ mu f with
 |true=>oL args ins
 |false=>Gi (oL args ins) ((List.range ins.length).map (500+ ·))
theorem BK(mu:List Nat)(f:FuncId)(args:List V)(ins:List Ob):Le (oL args ins).den (Jq mu f args ins).den:=by
 unfold Jq;split;·exact Le.refl _
 ·exact qp _ _
def Kq(call:fG)(itrI:mU)(T:List TI)(M mu:List Nat)(N np:Nat):N3:=fun g ps as0 bd s=>match np with
 |0=>HV call itrI T M mu N 0 g ps as0 bd s
 |_+1=>none
theorem Ct{P:Program}{N:Nat}{C:Cx P N}{T:List TI}{M mu:List Nat}{call:fG}{itrI:mU}{np:Nat}(hT:aJ T P)(hcl:cZ P call)(hitI:nY P itrI)(hF:C.F=Fence.wide)(hpin:∀id x,C.dfs.pin id=some x->500<=id/\id< 500+np)(htl:C.dfs.tl=[]):Br C (Kq call itrI T M mu N np):=by
 intro g ps as0 bd s e s' t h he Q hQ;unfold Kq at h;split at h
 ·have hd:C.dfs=pz:=by
   have hp:C.dfs.pin=fun _=>none:=by
    funext id;cases hx:C.dfs.pin id with
    |none=>rfl
    |some x=>have:=hpin id x hx;omega
   generalize C.dfs=D at hp htl;cases D;simp only at hp htl;subst hp htl;rfl
  exact HW hT hcl hitI hF hd _ _ _ _ _ _ _ _ h he Q hQ
 ·cases h
def Oj(T:List TI)(fn:Func)(n:Nat)(r:Exit×CS×CT):Option CR:=match r.1 with
 | .ret=>oE (wZ T fn n r.2.1) none fun q=>some ⟨q.v,q.outs,q.obs,zA r.2.2 q.e⟩
 | .normal=>oE (wZ T fn n r.2.1) none fun q=>some ⟨q.v,q.outs,q.obs,zA r.2.2 q.e⟩
 |_=>none
def Dy(call:fG)(itrI:mU)(T:List TI)(M mu:List Nat)(f:FuncId)(fn:Func)(c:Code)(args:List V)(ins:List Ob):Option CR:= oE (xw call (Kq call itrI T M mu fn.ntmps ins.length) T M mu fn.ntmps c (Jq mu f args ins)) none (Oj T fn ins.length)
def K6(o:Option CR)(ins:List Ob)(els:Option CR):Option CR:=match o with
 |some r=>match r.outs with
  | []=>match r.obs with
   | []=>match r.v.rB with
    |true=>some ⟨r.v,ins.map some,[],r.e⟩
    |false=>els
   |_::_=>els
  |_::_=>els
 |none=>none
def K4(T:List TI)(fn:Func)(ins:List Ob)(r:Exit×CS×CT):Option CR:=match r.1 with
 | .ret=>oE (wZ T fn 0 r.2.1) none fun q=>some ⟨q.v,ins.map fun _=>none,q.obs,zA r.2.2 q.e⟩
 | .normal=>oE (wZ T fn 0 r.2.1) none fun q=>some ⟨q.v,ins.map fun _=>none,q.obs,zA r.2.2 q.e⟩
 |_=>none
def K5(call:fG)(itrI:mU)(T:List TI)(M mu:List Nat)(f:FuncId)(fn:Func)(c:Code)(args:List V)(ins:List Ob):Option CR:= oE (xw call (Kq call itrI T M mu fn.ntmps 0) T M mu fn.ntmps c (Jq mu f args ins)) none (K4 T fn ins)
def FE(call:fG)(itrI:mU)(T:List TI)(M mu:List Nat)(f:FuncId)(fn:Func)(c:Code)(args:List V)(ins:List Ob):Option CR:=match ins with
 | []=>Dy call itrI T M mu f fn c args []
 |o::l=>match jJ mu f with
  |true=>Dy call itrI T M mu f fn c args (o::l)
  |false=>match xI (o::l) && V.bq (JG 500 (o::l) args)with
   |true=>K6 (Dy call itrI T M mu f fn c (JG 500 (o::l) args) []) (o::l) (Dy call itrI T M mu f fn c args (o::l))
   |false=>match Dy call itrI T M mu f fn c args (o::l)with
    |some r=>some r
    |none=>K5 call itrI T M mu f fn c args (o::l)
def GI(caps:List V)(ins:List Ob)(l:Nat):CS:=oL (V.c (.func (.yield l) #[] #[])::caps) ins
theorem DX{caps:List V}{ins:List Ob}{l:Nat}(h:caps.length+1<=1000):(GI caps ins l).den=⟨fun t=>((V.c (.func (.yield l) #[] #[]))::caps).getD t .any,eW ins,1⟩:= mR (args:=V.c (.func (.yield l) #[] #[])::caps) (ins:=ins) (by simpa using h)
def BW(call:fG)(T:List TI)(M mu:List Nat)(N:Nat)(c:Code)(caps:List V)(ins:List Ob)(l:Nat):Option (List (List V)×CT):=z6 true call T M mu N l 20000 (.code c [] (GI caps ins l))
def FH(P:Program)(T:List TI)(M:ML)(mu:List Nat)(call:fG):mU:=fun f caps ins=>match P.funcs[f]? with
 |some fn=>match fn.body with
  |some c=>match fn.name == "runtime.NumGoroutine" with
   |false=>match fn.results with
    | ⟨[]⟩=>match Nat.ble (caps.length+1) 1000 && (Nat.ble (caps.length+1) fn.ntmps && Nat.ble ins.length 400)with
     |true=>match BW call T (N6 M f) mu fn.ntmps c caps ins 0 with
      |some (es,_)=>some (es,.lf [(.ys fun l=>MT (BW call T (N6 M f) mu fn.ntmps c caps ins l),.ys fun _=>some es),(.n fun l=>(Qe (BW call T (N6 M f) mu fn.ntmps c caps ins l)).PS.map Prod.fst,.n fun l=>(Qe (BW call T (N6 M f) mu fn.ntmps c caps ins l)).PS.map Prod.snd)])
      |none=>none
     |false=>none
    |_=>none
   |true=>none
  |none=>none
 |none=>none
theorem FI{P:Program}{T:List TI}(hT:aJ T P)(hmx:P.follows .mixedOrders=true){M:ML}{mu:List Nat}{call:fG}(hcl:cZ P call):nY P (FH P T M mu call):=by
 intro f caps ins es e h hE;unfold FH at h;split at h
 ·rename_i fn hf;split at h
  ·rename_i c hc;split at h
   ·rename_i hname;split at h
    ·rename_i hres;split at h
     ·rename_i hb;simp only [Bool.and_eq_true]at hb;split at h;·rename_i es0 e0 hr;simp only [Option.some.injEq,Prod.mk.injEq]at h;obtain⟨rfl,rfl⟩:=h;have hE':iI _:=hE;have h1:=hE'.hd;have h2:=hE'.tl.hd;injection h1 with h1;injection h2 with h2;exact IV hT hmx hcl ⟨hf,hc,rfl,hname⟩ hres (Nat.le_of_ble_eq_true hb.2.1) (Nat.le_of_ble_eq_true hb.2.2) (GI caps ins) (fun l=>DX (Nat.le_of_ble_eq_true hb.1)) (fun l=>congrFun h1 l) fun l=>CT.A3 (vj (congrFun h2 l))
      ·cases h
     ·cases h
    ·cases h
   ·cases h
  ·cases h
 ·cases h
def QW(mu:List Nat)(call:fG):fG:=fun f args ins=>match args with
 | []=>match ins with
  | []=>match jJ mu (1000000+f)with
   |true=>some ⟨.b true,[],[],c0⟩
   |false=>call f [] []
  |o::l=>call f [] (o::l)
 |a::l=>call f (a::l) ins
def ES(P:Program)(mu:List Nat):Prop:=∀f,jJ mu (1000000+f)=true->AM P f [] [] (.b true) [] []
theorem Na{P:Program}{mu:List Nat}{call:fG}(hK:ES P mu)(hcl:cZ P call):cZ P (QW mu call):=by
 refine⟨fun f args ins r hm h hE=> ?_,fun name t r n h hv=>hcl.2 name t r n h hv⟩;unfold QW at h;split at h
 ·split at h
  ·split at h;·rename_i hk;injection h with h;subst h;exact hK f hk
   ·exact hcl.1 _ _ _ _ hm h hE
  ·exact hcl.1 _ _ _ _ hm h hE
 ·exact hcl.1 _ _ _ _ hm h hE
theorem Hx{P:Program}:∀ {mu:List Nat},(mu.all fun f=>Nat.ble f 999999)=true->ES P mu
 | [],_,f,h=>by cases h
 |k::l,hm,f,h=>by
  simp only [List.all_cons,Bool.and_eq_true]at hm;simp only [jJ]at h;split at h;·rename_i hb;have:=Nat.eq_of_beq_eq_true hb;have:=Nat.le_of_ble_eq_true hm.1;omega
  ·exact Hx hm.2 f h
def Qf:List (FuncId×List V×V)->FuncId->Option (List V×V)
 | [],_=>none
 |k::l,f=>match Nat.beq f k.1 with
  |true=>some k.2
  |false=>Qf l f
def Am(K:List (FuncId×List V×V))(call:fG):fG:=fun f args ins=>match Nat.beq f Hj with
 |true=>call Hj args ins
 |false=>match ins with
  | []=>match Qf K f with
   |some k=>some ⟨k.2,[],[],.lf [(.vs args,.vs k.1)]⟩
   |none=>call f args []
  |o::l=>call f args (o::l)
def jy(P:Program)(K:List (FuncId×List V×V)):Prop:=∀f k,Qf K f=some k->AM P f k.1 [] k.2 [] []
theorem nJ{P:Program}{K:List (FuncId×List V×V)}{call:fG}(hK:jy P K)(hcl:cZ P call):cZ P (Am K call):=by
 refine⟨fun f args ins r hm h hE=> ?_,fun name t r n h hv=>hcl.2 name t r n h hv⟩;unfold Am at h;rw [hm]at h;simp only at h;split at h
 ·split at h;·rename_i k hk;injection h with h;subst h;have hE':iI _:=hE;have e1:=hE'.hd;injection e1 with e1;rw [e1];exact hK f k hk
  ·exact hcl.1 _ _ _ _ hm h hE
 ·exact hcl.1 _ _ _ _ hm h hE
def Mm(P:Program)(args:List V):Option CR:=match args with
 | [.fn (.method name) [] [],.c (.int .i64 n)]=>match G9 P name n.toNat with
  |some f=>some ⟨.i (f:Int),[],[],c0⟩
  |none=>none
 |_=>none
def kG(O:fG->fG)(P:Program)(T:List TI)(M:ML)(mu:List Nat):Nat->fG
 |0=>fun _ _ _=>none
 |d+1=>fun f args ins=>match Nat.beq f Hj with
  |true=>Mm P args
  |false=>match P.funcs[f]? with
   |some fn=>match fn.body with
    |some c=>match fn.name == "runtime.NumGoroutine" with
     |false=>match Nat.ble args.length 1000 && (Nat.ble args.length fn.ntmps && Nat.ble ins.length 400)with
      |true=>FE (O (kG O P T M mu d)) (FH P T M mu (O (kG O P T M mu d))) T (N6 M f) mu f fn c args ins
      |false=>none
     |true=>none
    |none=>none
   |none=>none
def tW(P:Program)(T:List TI)(M:ML)(mu:List Nat):Nat->fG:=kG (QW mu) P T M mu
theorem jB{P:Program}{T:List TI}{call:fG}{itrI:mU}(hT:aJ T P)(hmx:P.follows .mixedOrders=true)(hcl:cZ P call)(hitI:nY P itrI){M mu:List Nat}{f:FuncId}{fn:Func}{c:Code}{args:List V}{ins:List Ob}{r:CR}(hk:qG P f fn c fn.ntmps)(ha:args.length<=1000)(ha2:args.length<=fn.ntmps)(hi:ins.length<=400) (h:Dy call itrI T M mu f fn c args ins=some r) (hE:j8 r.e):AM P f args ins r.v r.outs r.obs:=by
 obtain⟨q,hq,h⟩:=dg h;obtain⟨e,s,t⟩:=q;have key:(e= .normal\/e= .ret)->oE (wZ T fn ins.length s) none (fun q=>some ⟨q.v,q.outs,q.obs,zA t q.e⟩)=some r->AM P f args ins r.v r.outs r.obs:=by intro he h;obtain⟨r',hr',h⟩:=dg h;injection h with h;subst h;have hE:=mF hE;obtain⟨q1,q2,q3⟩:=BF hi he hr' hE.2;refine tO hT hmx hk ha2 q2 hi q3 fun C hF hpin htl=> ?_;have:=m9 (C:=C) (mu:=mu) hT hcl (Ct hT hcl hitI hF hpin htl) c _ _ _ _ hq hE.1 (dQ T fn ins.length r'.v r'.outs r'.obs) q1;rw [<-mR ha];exact o5 (BK mu f args ins) this
 unfold Oj at h;split at h;·rename_i h0;exact key (.inr h0) h
 ·rename_i h0;exact key (.inl h0) h
 ·cases h
theorem FG{P:Program}{T:List TI}{call:fG}{itrI:mU}(hT:aJ T P)(hmx:P.follows .mixedOrders=true)(hcl:cZ P call)(hitI:nY P itrI){M mu:List Nat}{f:FuncId}{fn:Func}{c:Code}{args:List V}{ins:List Ob}{r:CR}(hk:qG P f fn c fn.ntmps)(ha:args.length<=1000)(ha2:args.length<=fn.ntmps)(hi:ins.length<=400) (h:K5 call itrI T M mu f fn c args ins=some r) (hE:j8 r.e):AM P f args ins r.v r.outs r.obs:=by
 obtain⟨q,hq,h⟩:=dg h;obtain⟨e,s,t⟩:=q;have key:(e= .normal\/e= .ret)->oE (wZ T fn 0 s) none (fun q=>some ⟨q.v,ins.map fun _=>none,q.obs,zA t q.e⟩)=some r->AM P f args ins r.v r.outs r.obs:=by intro he h;obtain⟨r',hr',h⟩:=dg h;injection h with h;subst h;have hE:=mF hE;obtain⟨q1,q2,q3⟩:=BF (Nat.zero_le _) he hr' hE.2;have e0:r'.outs=[]:=List.eq_nil_of_length_eq_zero q2;rw [e0]at q1;refine CW hT hmx hk ha2 hi q3 fun C hF hd=> ?_;have:=m9 (C:=C) (mu:=mu) hT hcl (Ct hT hcl hitI hF (fun id x hx=>by rw [hd]at hx;cases hx) (by rw [hd];rfl)) c _ _ _ _ hq hE.1 (dQ T fn 0 r'.v [] r'.obs) q1;rw [<-mR ha];exact o5 (BK mu f args ins) this
 unfold K4 at h;split at h;·rename_i h0;exact key (.inr h0) h
 ·rename_i h0;exact key (.inl h0) h
 ·cases h
theorem vn:∀(l:List Ob) (k:Nat) (args:List V),(JG k l args).length=args.length
 | [],_,_=>rfl
 |o::l,k,args=>by rw [JG,vn l,V.eR]
theorem FF{P:Program}{T:List TI}{call:fG}{itrI:mU}(hT:aJ T P)(hmx:P.follows .mixedOrders=true)(hcl:cZ P call)(hitI:nY P itrI){M mu:List Nat}{f:FuncId}{fn:Func}{c:Code}{args:List V}{ins:List Ob}{r:CR}(hk:qG P f fn c fn.ntmps)(ha:args.length<=1000)(ha2:args.length<=fn.ntmps)(hi:ins.length<=400) (h:FE call itrI T M mu f fn c args ins=some r) (hE:j8 r.e):AM P f args ins r.v r.outs r.obs:=by
 unfold FE at h;split at h;·exact jB hT hmx hcl hitI hk ha ha2 hi h hE
 ·split at h;·exact jB hT hmx hcl hitI hk ha ha2 hi h hE
  ·split at h
   ·rename_i hb;simp only [Bool.and_eq_true]at hb;unfold K6 at h;split at h
    ·rename_i q hq;split at h
     ·rename_i ho;split at h
      ·rename_i hob;split at h;·rename_i hf;injection h with h;subst h;have:=jB hT hmx hcl hitI hk (by rw [vn];exact ha) (by rw [vn];exact ha2) (Nat.zero_le _) hq hE;rw [ho,hob]at this;exact this.keep hb.2 hb.1 hf
       ·exact jB hT hmx hcl hitI hk ha ha2 hi h hE
      ·exact jB hT hmx hcl hitI hk ha ha2 hi h hE
     ·exact jB hT hmx hcl hitI hk ha ha2 hi h hE
    ·cases h
   ·split at h;·rename_i r' hr';injection h with h;subst h;exact jB hT hmx hcl hitI hk ha ha2 hi hr' hE
    ·exact FG hT hmx hcl hitI hk ha ha2 hi h hE
theorem od{O:fG->fG}{P:Program}{T:List TI}(hT:aJ T P)(hmx:P.follows .mixedOrders=true){M:ML}{mu:List Nat}(hO:∀c,cZ P c->cZ P (O c)):∀d,cZ P (kG O P T M mu d)
  |0=>⟨fun f args ins r _ h _=>by(cases h),fun name t r n h _=>by(cases h)⟩
  |d+1=>by
    refine⟨fun f args ins r hm h hE=> ?_,fun name t r n h hv=> ?_⟩
    · unfold kG at h
      rw [hm]at h
      simp only at h
      split at h
      · rename_i fn hf
        split at h
        · rename_i c hc
          split at h
          · rename_i hname
            split at h
            · rename_i hb
              simp only [Bool.and_eq_true]at hb
              exact FF hT hmx (hO _ (od hT hmx hO d)) (FI hT hmx (hO _ (od hT hmx hO d))) ⟨hf,hc,rfl,hname⟩ (Nat.le_of_ble_eq_true hb.1) (Nat.le_of_ble_eq_true hb.2.1) (Nat.le_of_ble_eq_true hb.2.2) h hE
            · cases h
          · cases h
        · cases h
      · cases h
    · have h:Mm P [.fn (.method name) [] [],.i (t:Int)]=some r:=h
      unfold Mm at h
      simp only at h
      split at h
      · rename_i f hf
        injection h with h;subst h
        simp only [V.c.injEq,Value.int.injEq,true_and]at hv
        have:=Hf hf
        simp only [Int.toNat_natCast]at this
        rw [<-hv]
        simpa using this
      · cases h
def cV(o:Option CR):Option (V×List (Option Ob)×List Ob):=match o with
 |some r=>some (r.v,r.outs,r.obs)
 |none=>none
def cT(o:Option CR):CT:=match o with
 |some r=>r.e
 |none=>c0
theorem Du{O:fG->fG}{P:Program}{T:List TI}(hT:aJ T P)(hmx:P.follows .mixedOrders=true)(M:ML)(mu:List Nat)(hO:∀c,cZ P c->cZ P (O c)){f:FuncId}{args:List V}{ins:List Ob}{v:V}{outs:List (Option Ob)}{obs:List Ob}(h:cV (kG O P T M mu 40 f args ins)=some (v,outs,obs))(hE:(cT (kG O P T M mu 40 f args ins)).l=(cT (kG O P T M mu 40 f args ins)).r)(hf9:Nat.beq f Hj=false:=by rfl):AM P f args ins v outs obs:=by
 unfold cV at h;unfold cT at hE;split at h
 ·rename_i r hr;simp only [hr]at hE;injection h with h;injection h with h1 h2;injection h2 with h2 h3;subst h1 h2 h3;cases hm:Nat.beq f Hj with
  |false=>exact(od hT hmx hO 40).1 f args ins r hm hr (zS hE)
  |true=>rw [hm]at hf9;cases hf9
 ·cases h
theorem Qv{P:Program}{T:List TI}(hT:aJ T P)(hmx:P.follows .mixedOrders=true)(M:ML)(mu:List Nat)(hK:ES P mu){f:FuncId}{args:List V}{ins:List Ob}{v:V}{outs:List (Option Ob)}{obs:List Ob}(h:cV (tW P T M mu 40 f args ins)=some (v,outs,obs))(hE:(cT (tW P T M mu 40 f args ins)).l=(cT (tW P T M mu 40 f args ins)).r)(hf9:Nat.beq f Hj=false:=by rfl):AM P f args ins v outs obs:=
 Du hT hmx M mu (fun _=>Na hK) h hE hf9
theorem Dt{P:Program}{T:List TI}(hT:aJ T P)(hmx:P.follows .mixedOrders=true)(M:ML)(mu:List Nat){f:FuncId}{args:List V}{ins:List Ob}{v:V}{outs:List (Option Ob)}{obs:List Ob}(h:cV (tW P T M mu 40 f args ins)=some (v,outs,obs))(hE:(cT (tW P T M mu 40 f args ins)).l=(cT (tW P T M mu 40 f args ins)).r)(hm:(mu.all fun f=>Nat.ble f 999999)=true:=by decide)(hf9:Nat.beq f Hj=false:=by rfl):AM P f args ins v outs obs:=Qv hT hmx M mu (Hx hm) h hE hf9
theorem AM.ac{P:Program}{f:FuncId}{args:List V}{v:V}{obs:List Ob}(h:AM P f args [] v [] obs)(ho:obs.length<=400):AC P f args v obs:=by
 refine⟨h.1,fun L w vs hL hgl hv=> ?_⟩;refine(h.2 (fun b=>w.heap.size<=b) (fun b=>L b\/w.heap.size<=b) L w ρ0 vs (fun b hb=> .inr hb) (fun b hb hl=>by have:=hL b hl;omega) ⟨fun b hb=>⟨hL b hb,.inl hb⟩,fun b hb=>⟨hb,.inr hb⟩,(fun id o ho=>by unfold eW at ho;split at ho <;> simp at ho),(fun i j x y k _ _ _ hx=>by cases hx),hgl⟩ (fun _ _=>rfl) hv).mono ?_;rintro e w' ⟨x,rfl,ht,L',ρ',hG',hE',hx,hnn⟩;have eo:fh [] obs=i9 obs:=by
  funext id;unfold fh i9;by_cases h5:500<=id;·rw [if_pos h5,show obs[id]?=none from List.getElem?_eq_none oM];simp
  ·rw [if_neg h5]
 rw [eo]at hG';exact⟨x,rfl,ht.below (Nat.le_refl _) fun j hj hW=>by have hW':w.heap.size<=j:=hW;omega,L',ρ',hG',fun b hb=>(hE'.l b hb).1,hx,fun j hj=>hnn j hj (by simp only [List.length_nil,Nat.add_zero];omega)⟩
theorem AC.am{P:Program}{f:FuncId}{args:List V}{v:V}(h:AC P f args v [])(ha:V.bq args=true)(hv:v.b5=true):AM P f args [] v [] []:=by
 refine⟨h.1,fun W LB L w ρ vs hwl hWL hG hρ hvs=> ?_⟩;refine(h.2 L w vs (fun b hb=>(hG.ll b hb).1) hG.gl (hvs.free ha)).mono ?_;rintro e w' ⟨x,rfl,hbel,L',ρ',hG',hL',hx,_⟩;obtain⟨Lx,hLx⟩:∃Lx:Nat->Prop,∀b,Lx b<->L b\/(L' b/\w.heap.size<=b):=⟨_,fun _=>Iff.rfl⟩;obtain⟨hG2,ex2⟩:=hG.quiet hbel (L':=Lx) (fun b hb=>(hLx b).2 (.inl hb)) (fun b hb=>by
  rcases(hLx b).1 hb with hb |hb;·exact .inl hb
  ·exact .inr ⟨hb.2,(hG'.ll b hb.1).1⟩)
 have eo:fh [] []=eW []:=by funext id;unfold fh eW;split <;> simp
 refine⟨x,rfl,aZ.fA hbel fun k _ hk=>(hG.new k hk).1,Lx,ρ,?_,ex2,?_,fun j _ hj=>hρ j hj⟩;·rw [eo];exact hG2
 ·have:=hx.free hv ρ;refine this.mono (fun b hb=>⟨(hLx b).2 ?_,rfl⟩) fun _ _ h=>h;rcases(hG'.ll b hb).2 with h |h;·exact .inl h
  ·exact .inr ⟨hb,h⟩
theorem kZ{P:Program}:jy P []:=fun f k h=>by cases h
theorem cO{P:Program}{K:List (FuncId×List V×V)}{f0:FuncId}{a0:List V}{v0:V}(h0:AC P f0 a0 v0 [])(ha:V.bq a0=true)(hv:v0.b5=true)(h:jy P K):jy P ((f0,a0,v0)::K):=by
 intro f k hk;simp only [Qf]at hk;split at hk;·rename_i hb;injection hk with hk;subst hk;have:=Nat.eq_of_beq_eq_true hb;rw [this];exact h0.am ha hv
 ·exact h f k hk
end
end Go.Ab

namespace Go.Dw
open Go.RowKit Go.Shelf
def j6(r:Option Nat):Fence:={Fence.wide with round:=r}
section
variable {P:Program}{ops:Array Oper}{md:Region.Mode}{w:World}{r:Option Nat}{m:Nat}
theorem qi{o:Oper}{a:Act}{K:Act->Prop}{K':Act->World->Prop}{Q':Exit->Act->World->Prop}(h:∀a,K a->K' a w)(hh:o.still P a w K):o.wpIn (j6 r) m P a w K' Q':=by
  refine⟨fun _ _=>trivial,?_⟩
  have hs:o.semAt (j6 r).round a.eval=execOp a.eval o\/∃c,o.op= .defer c:=by
    cases r with
    |none=>exact .inl rfl
    |some l=>
      by_cases hd:∃c,o.op= .defer c
      · exact .inr hd
      · exact .inl (Oper.semAt_some l a.eval o (fun c e=>hd ⟨c,e⟩))
  unfold Oper.still at hh
  rcases hs with hs | ⟨c,hc⟩
  · rw [hs]
    generalize (execOp a.eval o).run P w=x at*
    cases x with
    |ok n w'=>
      cases n <;> simp only [Oper.stillUpon]at hh <;> simp only [Oper.uponIn]
      case enter f args=>
        obtain⟨rfl,v,hc,hn⟩:=hh
        refine⟨fun h=>by simp [j6,Fence.wide]at h,?_⟩
        show CallsIn Fence.wide (m- 1) P f args w' _
        exact callsIn_wide.2 (hc.mono fun e w'' ⟨he,hw⟩=>by subst he;subst hw;exact h _ hn)
      all_goals (obtain⟨rfl,h2⟩:=hh;exact h _ h2)
    |halt x w'=>simp only [Oper.stillUpon]at hh
  · exfalso
    unfold execOp at hh
    rw [hc]at hh
    simp only [Sem.run_bind]at hh
    generalize (resolve a.eval c o.type).run P w=x at hh
    cases x with
    |ok d w'=>simp [Result.andThen,Oper.stillUpon]at hh
    |halt x w'=>simp [Result.andThen,Oper.stillUpon]at hh
theorem sI{i:Nat}{a:Act}{K:Act->Prop}{K':Act->World->Prop}{Q':Exit->Act->World->Prop}(h:∀a,K a->K' a w)(hh:stOp P ops w i K a):wpOpIn (j6 r) m P ops Q' i K' a w:=by
 unfold stOp at hh;unfold wpOpIn;split;·rename_i ho;simp only [ho]at hh;exact h _ hh
 ·rename_i o ho;simp only [ho]at hh;split;·rename_i hw;simp only [hw,if_true]at hh;exact qi h hh
  ·rename_i hw;simp only [hw]at hh;exact⟨fun _ _=>trivial,h _ hh⟩
theorem j7{n g:Nat}{L:Array Bool->Act->Prop}{Q':Exit->Act->World->Prop}(hL:∀listed a,L listed a->wpAnyIn (j6 r) m P md ops Q' g listed a w) : ∀(f:Nat) (listed:Array Bool) (a:Act),wpAnyL P md ops w n L f listed a->wpAnyIn (j6 r) m P md ops Q' (f+g) listed a w
 |0,listed,a,h=>by rw [Nat.zero_add];exact hL _ _ h
 |f+1,listed,a,h=>by rw [show f+1+g=(f+g)+1 by omega];exact⟨fun h0=>absurd h0 h.1,fun i hi=>sI (fun a' h'=>j7 hL f _ a' h') (h.2 i hi).2⟩
theorem lF{Q':Exit->Act->World->Prop}:∀(l:List Oper) (k:Nat) (listed:Array Bool) (a:Act) (w:World),(∀j,l[j]?=ops[k+j]?)-> Region.seqB md ops l.length k listed=true->wpListIn (j6 r) m P ops Q' l a w->wpAnyIn (j6 r) m P md ops Q' l.length listed a w
 | [],_,_,_,_,_,hB,h=>⟨by simpa [Region.seqB]using hB,h⟩
 |o::l,k,listed,a,w,hl,hB,h=>by
  have h0:ops[k]?=some o:=by simpa using (hl 0).symm
  simp only [List.length_cons,Region.seqB,Bool.and_eq_true,decide_eq_true_eq]at hB;refine⟨fun h1=>(by rw [hB.1]at h1;cases h1),fun i hi=> ?_⟩;rw [hB.1]at hi;have hik:i=k:=by simpa using hi
  subst hik;have hw:wpOpIn (j6 r) m P ops Q' i (wpListIn (j6 r) m P ops Q' l) a w:=by unfold wpOpIn;simp only [h0];exact h
  exact wpOpIn_mono (fun a' w' h'=>lF l (i+1) _ a' w' (fun j=>by have:=hl (j+1);simpa [Nat.add_assoc,Nat.add_comm 1 j]using this) hB.2 h') hw
theorem ju{id:Nat}{Q:Exit->Act->World->Prop}{a:Act}{w:World}{l:List Oper}(n:Nat)(hm:P.follows .mixedOrders=true)(hB:Region.lexTailB .any l.toArray n=true) (h:wpStill P l.toArray w.drew (fun a'=>wpListIn (j6 r) m P l.toArray Q (l.drop n) a' w.drew) (l.take n) a):(Code.region id l.toArray true).wpIn (j6 r) m P Q a w:=by
 simp only [Region.lexTailB,Bool.and_eq_true,decide_eq_true_eq]at hB;obtain⟨⟨⟨⟨hsel,hn⟩,hs⟩,hc⟩,hlex⟩:=hB;have hn':n< l.length:=by simpa using hn
 have htl:(l.take n).length=n:=by simp;omega
 have hdl:(l.drop n).length=l.toArray.size- n:=by simp
 have inv0:HeadInv .any l.toArray n (Array.replicate l.toArray.size false):= ⟨by simp,fun j oj _ hl=>(by rw [getD_replicate_false]at hl;cases hl),fun t _ ht=>getD_in (by simpa using ht) (getD_replicate_false _ _)⟩;have H:=wpAnyL_lex (md:= .any) (g:=l.toArray.size- n) hsel hs hc hn (l.take n) 0 _ a (fun j hj=>by
  have hj':j< n:=by rw [htl]at hj;exact hj
  simp [hj']) (by simpa using htl) inv0 (by rw [htl];exact hlex) h
 refine wpIn_region_any hm ?_;have:=j7 (r:=r) (m:=m) (Q':=Q) (g:=l.toArray.size- n) (fun listed a' hL=>by have:=lF (r:=r) (m:=m) (md:= .any) (Q':=Q) (l.drop n) n listed a' w.drew (fun j=>by simp [List.getElem?_drop]) (by rw [hdl];exact hL.1) hL.2;rwa [hdl]at this) _ _ _ H;rw [htl,show n+(l.toArray.size- n)=l.toArray.size by omega]at this;exact this
theorem ko{id lp:Nat}{Q:Exit->Act->World->Prop}{a:Act}{w:World}{l:List Oper}(n:Nat)(hm:P.follows .mixedOrders=true)(hB:Region.lexTailB .any l.toArray n=true)
 (h:wpStill P l.toArray w.drew (fun a'=>wpListIn (Fence.wide.inRound lp) m P l.toArray Q (l.drop n) a' w.drew) (l.take n) a):(Code.region id l.toArray true).wpIn (Fence.wide.inRound lp) m P Q a w:=
 ju (r:=some lp) n hm hB h
end
end Go.Dw
