/-
  Several texts in one: The step of an operation, kind by kind: the same function, cheaper to run. No condition. .. A region that draws its order, in a round of a range over a function: all its operations but the last few only read. The head is walked once, in the order of the text. No condition.
-/
import Derived.Test.YtjmbpjlojjgggaaGreatDoorX00
import Derived.Test.YtjmbpjlojjgggaaGreatDoorX01
import Derived.Test.YtjmbpjlojjgggaaGreatDoorX02
import Derived.Test.YtjmbpjlojjgggaaGreatDoorX03
import Derived.Test.YtjmbpjlojjgggaaGreatDoorMA
namespace Go.Ab
open Go.RowKit Go.Dw
def kO(v:V)(i:Nat):Option SR:=match v with
 | .tup cs=>match cs[i]? with
  |some v=>some (aH True v)
  |none=>none
 |_=>none
def I2(T:List TI)(wr:Bool)(op:BinOp)(t:Nat)(u v:V):Option SR:=match CG wr op u v with
 |some (c,v)=>some (aH c v)
 |none=>Iu T op t u v
def Qp(wr:Bool)(op:UnOp)(v:V):Option SR:=match op with
 | .not=>match v with
  | .c (.bool b)=>some (aH True (.b (!b)))
  |_=>none
 | .neg=>match v with
  | .c (.int k a)=>if wr then some (aH True (.c (.int k (k.wrap (0- a)))))else some (aH (xj k (-a)) (.c (.int k (-a))))
  |_=>none
 |_=>none
def Nw(T:List TI)(wr:Bool)(s t:Nat)(v:V):Option SR:=match v with
 | .c (.int _ a)=>match (T.getD t bB).kind with
  |some k=>if(T.getD s bB).some'=true then(if wr then some (aH True (.c (.int k (k.wrap a))))else some (aH (xj k a) (.c (.int k a))))else none
  |none=>none
 |_=>none
def FV(T:List TI)(s f:Nat)(v:V):Option SR:=match ((T.getD s bB).iT[f]?).join with
 |some off=>match v with
  | .ptr cs=>some (aH True (.ptr (cs.drop off)))
  | .ref id o=>some (aH True (.ref id (o+off)))
  | .oel id sz i o=>some (aH True (.oel id sz i (o+off)))
  |_=>none
 |none=>none
def FX(T:List TI)(t:Nat)(σ:Nat->Option Ob)(u v:V):Option SR:=match v with
 | .c (.int _ i)=>m8 T t σ u i
 |_=>none
def LM(T:List TI)(M:List Nat)(nx:Nat)(d:Option Tmp)(e:Operand->V)(σ:Nat->Option Ob)(t:Nat)(x:Operand)(lo hi mx:Option Operand):Option SR:=match mx with
 |none=>qu T M nx d e σ t x lo hi
 |some _=>none
def LI(T:List TI)(nx:Nat)(d:Option Tmp)(t:Nat):Option SR:=match (T.getD t bB).zero with
 |some zs=>some ⟨True,.ref (nx*100000+d.getD 0) 0,[],[nx*100000+d.getD 0],[(nx*100000+d.getD 0,some (.box t zs))]⟩
 |none=>none
def Pq(M:List Nat)(nx:Nat)(d:Option Tmp)(t:Nat)(v:V):Option SR:=match bX v with
 |some us=>if M.contains (d.getD 0)then some ⟨True,.ref (nx*100000+d.getD 0) 0,[],[nx*100000+d.getD 0],[(nx*100000+d.getD 0,some (.box t us))]⟩
  else if V.bw us=true then some (aH True (.ptr us))else none
 |none=>none
def LJ(T:List TI)(t:Nat)(parts:List (Nat×V)):Option SR:=match (T.getD t bB).zero,(T.getD t bB).pl with
 |some zs,some pl=>match ia (pl[·]?) zs parts with
  |some us=>some (aH True (.agg us))
  |none=>none
 |_,_=>none
def I3(T:List TI)(M:List Nat)(nx:Nat)(d:Option Tmp)(t n:Nat)(parts:List (Nat×V)):Option SR:=match (T.getD t bB).elem with
 |some el=>match (T.getD el bB).zero,(T.getD el bB).size with
  |some zs,some sz=>match ia (fun i=>some (i*sz,sz)) (mI n zs) parts with
   |some cs=>if zs.length=sz/\0< sz/\n*sz<=4096/\cs.length=n*sz then(if M.contains (d.getD 0)then
    some ⟨True,.own (nx*100000+d.getD 0),[],[nx*100000+d.getD 0],[(nx*100000+d.getD 0,some (.row el sz n fun i=>(cs.drop (i*sz)).take sz))]⟩
    else if V.bw cs=true then some (aH True (.sl sz n fun i=>(cs.drop (i*sz)).take sz))else none)else none
   |none=>none
  |_,_=>none
 |none=>none
def Ny(T:List TI)(nx:Nat)(d:Option Tmp)(t:Nat)(u v:V):Option SR:=match u,v with
 | .c (.int _ l),.c (.int _ c)=>match (T.getD t bB).elem with
  |some el=>match (T.getD el bB).zero,(T.getD el bB).size with
   |some zs,some sz=>if mD T el sz zs then some ⟨0<=l/\l<=c/\c<=1099511627776,.own (nx*100000+d.getD 0),[],[nx*100000+d.getD 0],[(nx*100000+d.getD 0,some (.row el sz l.toNat fun _=>zs))]⟩else none
   |_,_=>none
  |none=>none
 |_,_=>none
def Pr(T:List TI)(σ:Nat->Option Ob)(e:Operand->V)(c:Call):Option SR:=match c.args,c.argTypes with
 | ⟨[x]⟩,⟨[t]⟩=>Bl T t σ (e x)
 |_,_=>none
def Pp(T:List TI)(nx:Nat)(d:Option Tmp)(ty:Nat)(σ:Nat->Option Ob)(e:Operand->V)(c:Call):Option SR:=match c.args,c.argTypes with
 | ⟨[s,x]⟩,⟨[t,t']⟩=>match mR T t (nx*100000+d.getD 0) σ (e s) (e x)with
  |some r=>if t'=t/\ty=t then some r else none
  |none=>none
 |_,_=>none
def Pu(e:Operand->V)(c:Call):Option SR:=match c.args with
 | ⟨[x,y]⟩=>match e x,e y with
  | .c (.int k a),.c (.int k' b)=>if k=k' then some (aH True (.c (.int k (max a b))))else none
  |_,_=>none
 | ⟨[x,y,z]⟩=>match e x,e y,e z with
  | .c (.int k a),.c (.int k' b),.c (.int k'' q)=>if k=k'/\k=k'' then some (aH True (.c (.int k (max (max a b) q))))else none
  |_,_,_=>none
 | ⟨[x,y,z,u]⟩=>match e x,e y,e z,e u with
  | .c (.int k a),.c (.int k' b),.c (.int k'' q),.c (.int k3 p)=>if k=k'/\k=k''/\k=k3 then some (aH True (.c (.int k (max (max (max a b) q) p))))else none
  |_,_,_,_=>none
 |_=>none
def Pv(e:Operand->V)(c:Call):Option SR:=match c.args with
 | ⟨[x,y]⟩=>match e x,e y with
  | .c (.int k a),.c (.int k' b)=>if k=k' then some (aH True (.c (.int k (min a b))))else none
  |_,_=>none
 |_=>none
def Nv(T:List TI)(nx:Nat)(d:Option Tmp)(ty:Nat)(σ:Nat->Option Ob)(e:Operand->V)(c:Call):Option SR:=match c.callee with
 | .builtin .len=>Pr T σ e c
 | .builtin .append=>Pp T nx d ty σ e c
 | .builtin .max=>Pu e c
 | .builtin .min=>Pv e c
 |_=>none
def zx(T:List TI)(wr:Bool)(M:List Nat)(nx:Nat)(o:Oper)(e:Operand->V)(σ:Nat->Option Ob):Option SR:=
 match o.op with
  | .move x=>some (aH True (e x))
  | .assign x=>some (aH True (e x))
  | .extract x i=>kO (e x) i
  | .binOp op t x y _=>I2 T wr op t (e x) (e y)
  | .unOp op _ x=>Qp wr op (e x)
  | .convert s t x=>Nw T wr s t (e x)
  | .fieldAddr s x f=>FV T s f (e x)
  | .indexAddr t x ix=>FX T t σ (e x) (e ix)
  | .load t x=>kP T t σ (e x)
  | .store t x y=>iP T t σ (e x) (e y)
  | .slice t x lo hi mx=>LM T M nx o.dst e σ t x lo hi mx
  | .alloc t=>LI T nx o.dst t
  | .box t y=>Pq M nx o.dst t (e y)
  | .build t parts=>LJ T t (parts.toList.map fun p=>(p.1,e p.2))
  | .buildSlice t n parts=>I3 T M nx o.dst t n (parts.toList.map fun p=>(p.1,e p.2))
  | .makeSlice t x y=>Ny T nx o.dst t (e x) (e y)
  | .makeFunc f first caps=>some (aH True (.fn f (first.toList.map e) (caps.toList.map e)))
  | .call c=>Nv T nx o.dst o.type σ e c
  |_=>none
theorem Dc(T:List TI)(wr:Bool)(M:List Nat)(nx:Nat)(o:Oper)(e:Operand->V)(σ:Nat->Option Ob):zx T wr M nx o e σ=AO T wr M nx o e σ:=by
 obtain⟨d,op,ty,pos,af,gd⟩:=o;cases op <;> try rfl
 case unOp op t x=>cases op <;> rfl
def Nu(T:List TI)(t:Nat)(u v:V):Option SR:=match u,v with
 | .agg cs,.c (.int _ i)=>match (T.getD t bB).arr with
  |some (n,el)=>match (T.getD el bB).size with
   |some sz=>match iL T el (cs.drop (i.toNat*sz))with
    |some v=>some (aH (0<=i/\i< n) v)
    |none=>none
   |none=>none
  |none=>none
 |_,_=>none
def IZ(T:List TI)(t:Nat)(parts:List (Nat×V)):Option SR:=match (T.getD t bB).zero,(T.getD t bB).arr with
 |some zs,some (_,el)=>match (T.getD el bB).size with
  |some sz=>match ia (fun i=>some (i*sz,sz)) zs parts with
   |some us=>some (aH True (.agg us))
   |none=>none
  |none=>none
 |_,_=>none
def I1(T:List TI)(t:Nat)(v:V)(lo hi mx:Option Operand):Option SR:=match lo,hi,mx with
 |none,none,none=>match v,(T.getD t bB).arr with
  | .ptr cs,some (n,el)=>match (T.getD el bB).size with
   |some sz=>if cs.length=n*sz then some (aH True (.sl sz n fun i=>(cs.drop (i*sz)).take sz))else none
   |none=>none
  |_,_=>none
 |_,_,_=>none
def LH(T:List TI)(σ:Nat->Option Ob)(e:Operand->V)(c:Call):Option SR:=match c.args,c.argTypes with
 | ⟨[x,y]⟩,⟨[t,_]⟩=>match (T.getD t bB).elem with
  |some el=>if(T.getD el bB).size=some 1 then(match e x,e y with
   | .own id,.sl sz m row'=>match σ id with
    |some (.row e' sz' n row)=>if sz=1/\sz'=1 then some ⟨0< n/\0< m,.i ((min m n:Nat):Int),[(id,.row e' sz' n row)],[],[(id,some (.row e' sz' n fun j=>if j< min m n then row' j else row j))]⟩else none
    |_=>none
   |_,_=>none)else none
  |none=>none
 |_,_=>none
def Pn(T:List TI)(t:Nat)(u v:V):Option SR:=match u,v with
 | .c (.bool a),.c (.bool b)=>if(T.getD t bB).sG=some 1000000 then some (aH True (.b (a == b)))else none
 | .c (.string a),.c (.string b)=>some (aH True (.b (a.toList == b.toList)))
 |u,.c (.pointer none)=>match oA u with
  |some b=>if(T.getD t bB).sG=some 1000002 then some (aH True (.b b))else none
  |none=>none
 |_,_=>match (T.getD t bB).elem with
  |some _=>match Dn u v with
   |some (c,b)=>some (aH c (.b (b)))
   |none=>none
  |none=>none
def Po(T:List TI)(t:Nat)(u v:V):Option SR:=match u,v with
 | .c (.bool a),.c (.bool b)=>if(T.getD t bB).sG=some 1000000 then some (aH True (.b (!(a == b))))else none
 | .c (.string a),.c (.string b)=>some (aH True (.b (!(a.toList == b.toList))))
 |u,.c (.pointer none)=>match oA u with
  |some b=>if(T.getD t bB).sG=some 1000002 then some (aH True (.b (!b)))else none
  |none=>none
 |_,_=>match (T.getD t bB).elem with
  |some _=>match Dn u v with
   |some (c,b)=>some (aH c (.b (!b)))
   |none=>none
  |none=>none
def Nt(T:List TI)(op:BinOp)(t:Nat)(u v:V):Option SR:=match op with
 | .eql=>Pn T t u v
 | .neq=>Po T t u v
 |_=>none
def LG(T:List TI)(σ:Nat->Option Ob)(e:Operand->V)(c:Call):Option SR:=match c.callee with
 | .builtin .copy=>LH T σ e c
 |_=>none
def pg(v:V):Option SR:=match v.tQ with
 |true=>some (aH True v)
 |false=>none
def vh(T:List TI)(o:Oper)(e:Operand->V)(σ:Nat->Option Ob):Option SR:=
 match o.op with
  | .index t x ix=>Nu T t (e x) (e ix)
  | .build t parts=>IZ T t (parts.toList.map fun p=>(p.1,e p.2))
  | .slice t x lo hi mx=>I1 T t (e x) lo hi mx
  | .call c=>LG T σ e c
  | .nilCheck x=>pg (e x)
  | .binOp op t x y _=>Nt T op t (e x) (e y)
  |_=>none
theorem Dd(T:List TI)(o:Oper)(e:Operand->V)(σ:Nat->Option Ob):vh T o e σ=uD T o e σ:=by
 obtain⟨d,op,ty,pos,af,gd⟩:=o;cases op <;> try rfl
 case binOp op t x y t'=>cases op <;> rfl
 case slice t x lo hi mx=>cases lo <;> cases hi <;> cases mx <;> rfl
 case nilCheck x=>
  show pg (e x)=if(e x).tQ=true then some (aH True (e x))else none
  unfold pg
  cases (e x).tQ <;> rfl
def pq(T:List TI)(wr:Bool)(M:List Nat)(nx:Nat)(o:Oper)(e:Operand->V)(σ:Nat->Option Ob):Option SR:=
 match zx T wr M nx o e σ with
  |some r=>some r
  |none=>match vh T o e σ with
   |some r=>some r
   |none=>match uF T nx o e σ with
    |some r=>some r
    |none=>uH T o e
theorem F1(T:List TI)(wr:Bool)(M:List Nat)(nx:Nat)(o:Oper)(e:Operand->V)(σ:Nat->Option Ob):pq T wr M nx o e σ=kE T wr M nx o e σ:=by unfold pq kE;rw [Dc,Dd];rfl
def Qr(wr:Bool)(op:BinOp)(k:IntKind)(a b:Int):PQ:=match op with
 | .add=>match wr with |true=> .tt |false=>vf k (a+b)
 | .sub=>match wr with |true=> .tt |false=>vf k (a- b)
 | .mul=>match wr with |true=> .tt |false=>vf k (a*b)
 | .quo=>match wr with |true=> .ne b 0 |false=> .and (.lt 0 b) (vf k a)
 | .rem=> .ne b 0
 | .shl=>match wr with |true=> .le 0 b |false=> .and (.le 0 b) (.and (.le b k.bits) (vf k (a*2 ^ b.toNat)))
 | .shr=> .le 0 b
 |_=> .tt
def PE(wr:Bool)(op:BinOp)(u v:V):PQ:=match u,v with
 | .c (.int k a),.c (.int _ b)=>Qr wr op k a b
 | .sl _ n _,.nil=> .nlt 0 n
 | .nil,.sl _ n _=> .nlt 0 n
 |_,_=> .tt
def PG(wr:Bool)(v:V):PQ:=match v with
 | .c (.int k a)=>match wr with |true=> .tt |false=>vf k (-a)
 |_=> .tt
def NT(T:List TI)(wr:Bool)(t:Nat)(v:V):PQ:=match v with
 | .c (.int _ a)=>match (T.getD t bB).kind with
  |some k=>match wr with |true=> .tt |false=>vf k a
  |none=> .tt
 |_=> .tt
def Dy(T:List TI)(t:Nat)(i:Int):PQ:=match (T.getD t bB).arr with
 |some (n,_)=>IW i n
 |none=> .tt
def Jp(T:List TI)(t:Nat)(σ:Nat->Option Ob)(u v:V):PQ:=match v with
 | .c (.int _ i)=>match u with
  | .sl _ n _=>IW i n
  | .own id=>match σ id with
   |some (.row _ _ n _)=>IW i n
   |_=> .tt
  |_=>Dy T t i
 |_=> .tt
def PF(T:List TI)(t:Nat)(u v:V):PQ:=match v with
 | .c (.int _ i)=>match u with
  | .c (.string b)=>IW i b.size
  |_=>Dy T t i
 |_=> .tt
def BF(σ:Nat->Option Ob)(v:V):PQ:=match v with
 | .ref id o=>match σ id with
  |some (.box _ cs)=> .nle o cs.length
  |_=> .tt
 | .oel id _ i o=>match σ id with
  |some (.row _ _ n row)=> .and (.nlt i n) (.nle o (row i).length)
  |_=> .tt
 |_=> .tt
def vn(σ:Nat->Option Ob)(u v:V):PQ:=match bX v with
 |some us=>match u with
  | .ref id o=>match σ id with
   |some (.box _ cs)=> .nle (o+us.length) cs.length
   |_=> .tt
  | .oel id _ i o=>match σ id with
   |some (.row _ _ n row)=> .and (.nlt i n) (.nle (o+us.length) (row i).length)
   |_=> .tt
  |_=> .tt
 |none=> .tt
def L9(σ:Nat->Option Ob)(e:Operand->V)(v:V)(lo hi:Option Operand):PQ:=match v with
 | .sl _ n _=>MV e lo hi n false
 | .own id=>match σ id with
  |some (.row _ _ n _)=>MV e lo hi n true
  |_=> .tt
 | .c (.string b)=>MV e lo hi b.size false
 |_=> .tt
def NW(u v:V):PQ:=match u,v with
 | .c (.int _ l),.c (.int _ c)=> .and (.le 0 l) (.and (.le l c) (.le c 1099511627776))
 |_,_=> .tt
def PD(σ:Nat->Option Ob)(e:Operand->V)(c:Call):PQ:=match c.args with
 | ⟨[s,x]⟩=>match e x with
  | .sl _ m _=>match e s with
   | .nil=> .nle m 1099511627776
   | .own id=>match σ id with
    |some (.row _ _ n _)=> .nle (n+m) 1099511627776
    |_=> .tt
   |_=> .tt
  | .own id1=>match σ id1 with
   |some (.row _ _ m _)=>match e s with
    | .nil=> .nle m 1099511627776
    | .own id=>match σ id with
     |some (.row _ _ n _)=> .nle (n+m) 1099511627776
     |_=> .tt
    |_=> .tt
   |_=> .tt
  |_=> .tt
 |_=> .tt
def NU(σ:Nat->Option Ob)(e:Operand->V)(c:Call):PQ:=match c.args with
 | ⟨[x,y]⟩=>match e x,e y with
  | .own id,.sl _ m _=>match σ id with
   |some (.row _ _ n _)=> .and (.nlt 0 n) (.nlt 0 m)
   |_=> .tt
  |_,_=> .tt
 |_=> .tt
def NS(σ:Nat->Option Ob)(e:Operand->V)(c:Call):PQ:=match c.callee with
 | .builtin .append=>PD σ e c
 | .builtin .copy=>NU σ e c
 |_=> .tt
def NV(T:List TI)(t:Nat)(σ:Nat->Option Ob)(u v:V):PQ:=match pz T t,u,Dl v with
 |some (_,et),.own id,some key=>match σ id with
  |some (.mp _ f)=>match Hq T et with
   |some vz=>match (T.getD et bB).kind with
    |some _=> .re (nk f key vz)
    |none=> .tt
   |none=> .tt
  |_=> .tt
 |_,_,_=> .tt
def BG(T:List TI)(wr:Bool)(o:Oper)(e:Operand->V)(σ:Nat->Option Ob):PQ:=
 match o.op with
  | .binOp op _ x y _=>PE wr op (e x) (e y)
  | .unOp .neg _ x=>PG wr (e x)
  | .convert _ t x=>NT T wr t (e x)
  | .indexAddr t x ix=>Jp T t σ (e x) (e ix)
  | .index t x ix=>PF T t (e x) (e ix)
  | .load _ x=>BF σ (e x)
  | .store _ x y=>vn σ (e x) (e y)
  | .slice _ x lo hi none=>L9 σ e (e x) lo hi
  | .makeSlice _ x y=>NW (e x) (e y)
  | .lookup t m k _=>NV T t σ (e m) (e k)
  | .call c=>NS σ e c
  |_=> .tt
def OK(id:Nat)(v0:V):Ob->Ob->Prop
 | .box t cs,.box t' cs'=>t=t'/\(cs'=V.nP id v0 cs\/cs'=cs)
 | .row e sz n f,.row e' sz' n' f'=>e=e'/\sz=sz'/\n=n'/\∀i,i< n->f' i=V.nP id v0 (f i)\/f' i=f i
 | .mp s f,.mp s' f'=>s=s'/\(f'=f.map (V.fz id v0)\/f'=f)
 |_,_=>False
theorem JY{w:World}{L:Nat->Prop}{ρ:Nat->Option Value}{id:Nat}{v0:V}(h0:∀y,ρ id=some y->R w L ρ v0 y){us:List V}{xs:List Value}(h:RL w L ρ us xs):RL w L ρ (V.nP id v0 us) xs:=by
 refine⟨by rw [<-h.1,V.fc],fun i u x hu hx=> ?_⟩;rw [V.gM]at hu;cases hc:us[i]? with
 |none=>rw [hc]at hu;cases hu
 |some u'=>rw [hc]at hu;injection hu with hu;subst hu;obtain⟨q1,q2⟩:=h.2 i u' x hc hx;exact⟨mO h0 _ _ q1,q2⟩
theorem Real.z{W L:Nat->Prop}{w:World}{ρ:Nat->Option Value}{id j:Nat}{v0:V}{o o':Ob}(h0:∀y,ρ id=some y->R w L ρ v0 y)(h:Real W w L ρ j o)(hz:OK id v0 o o'):Real W w L ρ j o':=by
 cases o with
 |box t cs=>
  cases o' with
  |box t' cs'=>
   obtain⟨rfl,rfl |rfl⟩:=hz;·obtain⟨b,xs,h1,h2,h3,h4,h5⟩:=h;exact⟨b,xs,h1,h2,h3,h4,JY h0 h5⟩
   ·exact h
  |row _ _ _ _=>exact hz.elim
  |mp _ _=>exact hz.elim
 |row e sz n f=>
  cases o' with
  |row e' sz' n' f'=>
   obtain⟨rfl,rfl,rfl,hf⟩:=hz;obtain⟨v,xs,h1,h2,h3,h4,h5⟩:=h;have hlen:∀i,i< n->(f' i).length=(f i).length:=fun i hi=>by
    rcases hf i hi with e |e <;> rw [e]
    exact V.fc _ _ _
   refine⟨v,xs,h1,h2,fun i hi=>(hlen i hi).trans (h3 i hi),?_,h5⟩;have key:∀(m:Nat),m<=n->∀xs,RL w L ρ (aG m f).flatten xs->RL w L ρ (aG m f').flatten xs:=by
    intro m;induction m with
    |zero=>intro _ xs h;exact h
    |succ m ih=>
     intro hm xs h;have e1:∀g:Nat->List V,(aG (m+1) g).flatten=(aG m g).flatten++g m:=fun g=>by simp [aG,List.range_succ]
     rw [e1]at h ⊢;have hl:=h.1;rw [List.length_append]at hl;have ex:xs=xs.take (aG m f).flatten.length++xs.drop (aG m f).flatten.length:=by simp
     have ha:RL w L ρ (aG m f).flatten (xs.take (aG m f).flatten.length):=by have:=h.sub 0 (aG m f).flatten.length;simpa using this
     have hb:RL w L ρ (f m) (xs.drop (aG m f).flatten.length):=by have:=h.sub (aG m f).flatten.length (f m).length;rw [List.drop_left,List.take_length,List.take_of_length_le (by rw [List.length_drop];omega)]at this;exact this
     rw [ex];refine(ih oM _ ha).append ?_;rcases hf m oM with e |e <;> rw [e]
     ·exact JY h0 hb
     ·exact hb
   exact key n (Nat.le_refl _) xs h4
  |box _ _=>exact hz.elim
  |mp _ _=>exact hz.elim
 |mp s f=>
  cases o' with
  |mp s' f'=>
   obtain⟨rfl,rfl |rfl⟩:=hz;·obtain⟨B,es,cl,hv',hBW,hBL,hh,hl⟩:=h;exact⟨B,es,cl,hv',hBW,hBL,hh,hl.NC (fun v=>by rw [V.fz]) fun i u x _ hr=>mO h0 _ _ hr⟩
   ·exact h
  |box _ _=>exact hz.elim
  |row _ _ _ _=>exact hz.elim
theorem Le.Qo{s:S}(id:Nat){ob:Ob}(hσ:s.σ id=some ob)(v0:V){σ':Nat->Option Ob}(hs:∀i o',σ' i=some o'->i≠id/\∃o,s.σ i=some o/\OK id v0 o o') (h0:∀(W:Nat->Prop) (w:World) (L:Nat->Prop) (ρ:Nat->Option Value),Real W w L ρ id ob->∀y,ρ id=some y->R w (fun b=>L b\/blk y=some b) ρ v0 y):Le s ⟨fun t=>V.fz id v0 (s.tm t),σ',s.nx⟩:=by
 intro P N C a w ⟨L,ρ,h⟩;have hr:=h.g.ob id _ hσ;obtain⟨v,hv,hlt⟩:=hr.lt;have ex:Ext w L ρ w (fun b=>L b\/blk v=some b) ρ:=⟨fun b hb=>⟨.inl hb,rfl⟩,fun _ _ h=>h⟩;have h0':∀y,ρ id=some y->R w (fun b=>L b\/blk v=some b) ρ v0 y:=fun y hy=>by
  have hy':=hy;rw [hv]at hy';injection hy' with hy';subst hy'
  exact h0 _ _ _ _ hr _ hy
 refine⟨fun b=>L b\/blk v=some b,ρ,⟨⟨fun b hbl=> ?_,h.g.new,fun id' o' (ho:σ' id'=some o')=> ?_,fun i j x y k hij (hi:σ' i≠none) (hj:σ' j≠none)=> ?_,h.g.sH ex⟩,h.fr,fun t=>mO h0' _ _ ((h.tm t).ext ex),h.size,?_,h.pin⟩⟩
 ·rcases hbl with hbl |hbl;·exact h.g.ll b hbl
  ·exact⟨(hlt b hbl).1,C.wl b (hlt b hbl).2.1⟩
 ·obtain⟨hne,o,ho',hz⟩:=hs id' o' ho;have k:=(h.g.ob id' o ho').keep ex fun x k hx hk=>⟨rfl,by
   rintro(hL |hL)
   ·obtain⟨y,hy,hy2⟩:=(h.g.ob id' o ho').lt;rw [hx]at hy;injection hy with hy;subst hy
    exact(hy2 k hk).2.2 hL
   ·exact h.g.sep id' id x v k hne (by rw [ho'];simp) (by rw [hσ];simp) hx hv hk hL⟩
  exact k.z h0' hz
 ·obtain⟨o1,ho1⟩:=Option.ne_none_iff_exists'.1 hi;obtain⟨o2,ho2⟩:=Option.ne_none_iff_exists'.1 hj;obtain⟨_,p1,hp1,_⟩:=hs i o1 ho1;obtain⟨_,p2,hp2,_⟩:=hs j o2 ho2;exact h.g.sep i j x y k hij (by rw [hp1];simp) (by rw [hp2];simp)
 ·obtain⟨Ds,h4,h5,h6⟩:=h.defers;refine⟨Ds,h4,h5,fun D hD=> ?_⟩;obtain⟨h7,h8,h9⟩:=h6 D hD;refine⟨h7,h8,?_⟩;rintro(hL |hL);·exact h9 hL
  ·exact hr.fZ hv hL h7
theorem EF{P:Program}{W LB:Nat->Prop}{d:Option Tmp}{ty:TypeId}{pos:String}{af:Array Edge}{gd:Option (Nat×Bool)}{ev:Operand->V}(t t':TypeId)(x y:Operand){e0 sz n id el:Nat}{row:Nat->List V}(he:cZ P t=some el)(hx:ev x= .own id)(hy:ev y= .nil)(hn:0< n) : aT P W LB ⟨d,.binOp .eql t x y t',ty,pos,af,gd⟩ ev (.b false) [(id,.row e0 sz n row)] [] []/\aT P W LB ⟨d,.binOp .neq t x y t',ty,pos,af,gd⟩ ev (.b true) [(id,.row e0 sz n row)] [] []:=by
 have hu:=bG he;have run:∀w A c',(Op.equalIn Op.maxDepth t (.slice (some A) n c') (.slice none 0 0)).run P w= .ok false w:=by intro w A c';show(Op.equalIn (_+1) t _ _).run P w=_;unfold Op.equalIn;simp [az hu]
 have key:∀ {σ:Nat->Option Ob}{w:World}{L:Nat->Prop}{ρ:Nat->Option Value}{g:Operand->Value},G W LB σ w L ρ->R w L ρ (ev x) (g x)->R w L ρ (ev y) (g y)->σ id=some (.row e0 sz n row)->∃A c',g x= .slice (some A) n c'/\g y= .slice none 0 0:=by
  intro σ w L ρ g hG h1 h2 hσ;rw [hx]at h1;rw [hy]at h2;have hρ:=h1.cR;obtain⟨v,xs,hv,hown,_⟩:=hG.ob id _ hσ;rw [hρ]at hv;injection hv with hv
  rcases hown.2 with⟨_,h0⟩ | ⟨g',cap,cur,h3,_⟩;·omega
  ·refine⟨_,_,hv.trans h3,?_⟩;generalize g y=Y at h2;cases h2;rfl
 constructor;·intro σ w L ρ g hG hr hpre _;obtain⟨A,c',e1,e2⟩:=key hG (hr x (by simp [Op.operands])) (hr y (by simp [Op.operands])) (hpre _ (List.mem_cons_self ..));exact aW.value (v:= .bool false) (w':=w) rfl (by simp [execOp,e1,e2,eqGuard,binOp,Op.equal,run w A c']) ⟨L,ρ,hG,.c _ _,aZ.refl _ _,Ext.refl _ _ _,fun _ _=>rfl,dn.refl _ _⟩
 ·intro σ w L ρ g hG hr hpre _;obtain⟨A,c',e1,e2⟩:=key hG (hr x (by simp [Op.operands])) (hr y (by simp [Op.operands])) (hpre _ (List.mem_cons_self ..));exact aW.value (v:= .bool true) (w':=w) rfl (by simp [execOp,e1,e2,eqGuard,binOp,Op.equal,run w A c']) ⟨L,ρ,hG,.c _ _,aZ.refl _ _,Ext.refl _ _ _,fun _ _=>rfl,dn.refl _ _⟩
theorem Ey{P:Program}{d:Option Tmp}{ty:TypeId}{pos:String}{af:Array Edge}{gd:Option (Nat×Bool)}{ev:Operand->V}(t:Nat)(x:Operand)(h:kY P t=some true):aD P ⟨d,.makeInterface t x,ty,pos,af,gd⟩ ev (.ifc t (ev x)):= aD.same rfl fun w L ρ g hr=>by
 have h1:=hr x (by simp [Op.operands]);refine⟨.iface t (g x),?_,.ifc _ _ _ _ h1⟩;unfold kY at h;cases hu:P.underlying t with
 |none=>rw [hu]at h;cases h
 |some u=>
  rw [hu]at h;have hr':=fun w=>az (w:=w) hu;cases u <;> first
   | (simp at h;done)
   |simp [execOp,Instr.makeInterface,hr']
theorem Cq{P:Program}{d:Option Tmp}{ty:TypeId}{pos:String}{af:Array Edge}{gd:Option (Nat×Bool)}{ev:Operand->V}(x:Operand){t:Nat}{v:V}(hx:ev x= .ifc t v):aD P ⟨d,.nilCheck x,ty,pos,af,gd⟩ ev (.ifc t v):= aD.same rfl fun w L ρ g hr=>by
 have h1:=hr x (by simp [Op.operands]);rw [hx]at h1;have h2:∃y,g x= .iface t y:=by generalize g x=y at h1;cases h1;exact⟨_,rfl⟩
 refine⟨g x,?_,h1⟩;obtain⟨y,hy⟩:=h2;simp [execOp,hy]
def vS(P:Program)(name:String)(t:Nat)(f:FuncId):Prop:=∀(v:Value) (w:World),(method (P.types.size+Made.depth) t v name).run P w= .ok (f,v) w
def Gi(P:Program)(name:String)(t:Nat):Option FuncId:=match P.info? t with
 |some i=>match i.methods.find? (·.name == name)with
  |some m=>match m.path.toList with
   | []=>match m.func with
    |some (f,false)=>match kY P t with
     |some true=>some f
     |_=>none
    |_=>none
   |_::_=>none
  |none=>none
 |none=>none
theorem Gj{P:Program}{name:String}{t:Nat}{f:FuncId}(h:Gi P name t=some f):vS P name t f:=by
 intro v w;unfold Gi at h;split at h
 ·rename_i i hi;split at h
  ·rename_i m hm;split at h
   ·rename_i hp;split at h
    ·rename_i f' hf;split at h
     ·rename_i ha;injection h with h;subst h;have hti:(typeInfo t).run P w= .ok i w:=by simp [typeInfo,go_sem,hi]
      unfold kY at ha;cases hu:P.underlying t with
      |none=>rw [hu]at ha;cases ha
      |some u=>
       rw [hu]at ha;have hr':=fun w=>az (w:=w) hu;show(method ((P.types.size+99)+1) t v name).run P w=_;unfold method;cases u <;> first
        | (simp at ha;done)
        |simp [hti,hm,hp,hf,follow,receiverAt,hr',Place.get]
     ·cases h
    ·cases h
   ·cases h
  ·cases h
 ·cases h
noncomputable section
inductive TR where
  |e
  |n (v:V) (l r:TR)
def TR.get:TR->Nat->V:=TR.rec (motive:=fun _=>Nat->V) (fun _=> .any) (fun v _ _ gl gr t=>Nat.rec (motive:=fun _=>V) v (fun t' _=>Bool.rec (motive:=fun _=>V) (gr (Nat.div t' 2)) (gl (Nat.div t' 2)) (Nat.beq (Nat.mod t' 2) 0)) t)
def TR.put:Nat->TR->Nat->V->TR:=Nat.rec (motive:=fun _=>TR->Nat->V->TR) (fun tr _ _=>tr) (fun _ ih tr t v=>TR.rec (motive:=fun _=>TR)
 (Nat.rec (motive:=fun _=>TR) (.n v .e .e) (fun t' _=>Bool.rec (motive:=fun _=>TR) (.n .any .e (ih .e (Nat.div t' 2) v)) (.n .any (ih .e (Nat.div t' 2) v) .e) (Nat.beq (Nat.mod t' 2) 0)) t)
 (fun u l r _ _=>Nat.rec (motive:=fun _=>TR) (.n v l r) (fun t' _=>Bool.rec (motive:=fun _=>TR) (.n u l (ih r (Nat.div t' 2) v)) (.n u (ih l (Nat.div t' 2) v) r) (Nat.beq (Nat.mod t' 2) 0)) t) tr)
theorem TR.jh(t:Nat):TR.get .e t= .any:=rfl
theorem TR.lX(v:V)(l r:TR):TR.get (.n v l r) 0=v:=rfl
theorem uK(t:Nat):Nat.beq (Nat.mod t 2) 0=decide (t% 2=0):=by show Nat.beq (t% 2) 0=_;rcases Nat.mod_two_eq_zero_or_one t with h |h <;> rw [h] <;> rfl
theorem TR.kL(v:V)(l r:TR)(t:Nat):TR.get (.n v l r) (t+1)=if t% 2=0 then l.get (t / 2)else r.get (t / 2):=by
 show Bool.rec (motive:=fun _=>V) (r.get (Nat.div t 2)) (l.get (Nat.div t 2)) (Nat.beq (Nat.mod t 2) 0)=_;rw [uK];by_cases h:t% 2=0;·rw [if_pos h,decide_eq_true h];rfl
 ·rw [if_neg h,decide_eq_false h];rfl
theorem TR.L3(d:Nat)(v:V):TR.put (d+1) .e 0 v= .n v .e .e:=rfl
theorem TR.L6(d:Nat)(u:V)(l r:TR)(v:V):TR.put (d+1) (.n u l r) 0 v= .n v l r:=rfl
theorem TR.L4(d:Nat)(t:Nat)(v:V):TR.put (d+1) .e (t+1) v=if t% 2=0 then .n .any (TR.put d .e (t / 2) v) .e else .n .any .e (TR.put d .e (t / 2) v):=by
 show Bool.rec (motive:=fun _=>TR) _ _ (Nat.beq (Nat.mod t 2) 0)=_;rw [uK];by_cases h:t% 2=0;·rw [if_pos h,decide_eq_true h];rfl
 ·rw [if_neg h,decide_eq_false h];rfl
theorem TR.L7(d:Nat)(u:V)(l r:TR)(t:Nat)(v:V):TR.put (d+1) (.n u l r) (t+1) v=if t% 2=0 then .n u (TR.put d l (t / 2) v) r else .n u l (TR.put d r (t / 2) v):=by
 show Bool.rec (motive:=fun _=>TR) _ _ (Nat.beq (Nat.mod t 2) 0)=_;rw [uK];by_cases h:t% 2=0;·rw [if_pos h,decide_eq_true h];rfl
 ·rw [if_neg h,decide_eq_false h];rfl
theorem TR.nF:∀(d:Nat) (tr:TR) (t t':Nat) (v:V),t+1< 2 ^ d->(TR.put d tr t v).get t'=if t'=t then v else tr.get t'
  |0,_,t,_,_,h=>by simp at h
  |d+1,.e,0,t',v,h=>by
    rw [TR.L3]
    cases t' with
    |zero=>rw [TR.lX,if_pos rfl]
    |succ t'=>rw [TR.kL,TR.jh,TR.jh,if_neg (by omega:¬t'+1=0)];split <;> rfl
  |d+1,.n u l r,0,t',v,h=>by
    rw [TR.L6]
    cases t' with
    |zero=>rw [TR.lX,if_pos rfl]
    |succ t'=>rw [TR.kL,TR.kL,if_neg (by omega:¬t'+1=0)]
  |d+1,.e,t+1,t',v,h=>by
    have hd:t / 2+1< 2 ^ d:=by rw [Nat.pow_succ]at h;omega
    rw [TR.L4]
    by_cases hm:t% 2=0
    · rw [if_pos hm]
      cases t' with
      |zero=>rw [TR.lX,if_neg oM,TR.jh]
      |succ t'=>
        rw [TR.kL,TR.jh,TR.jh,TR.nF d .e _ _ _ hd,TR.jh]
        by_cases he:t'=t
        · subst he;rw [if_pos hm,if_pos rfl,if_pos rfl]
        · rw [if_neg (by omega:¬t'+1=t+1)]
          split
          · rw [if_neg oM]
          · rfl
    · rw [if_neg hm]
      cases t' with
      |zero=>rw [TR.lX,if_neg oM,TR.jh]
      |succ t'=>
        rw [TR.kL,TR.jh,TR.jh,TR.nF d .e _ _ _ hd,TR.jh]
        by_cases he:t'=t
        · subst he;rw [if_neg hm,if_pos rfl,if_pos rfl]
        · rw [if_neg (by omega:¬t'+1=t+1)]
          split
          · rfl
          · rw [if_neg oM]
  |d+1,.n u l r,t+1,t',v,h=>by
    have hd:t / 2+1< 2 ^ d:=by rw [Nat.pow_succ]at h;omega
    rw [TR.L7]
    by_cases hm:t% 2=0
    · rw [if_pos hm]
      cases t' with
      |zero=>rw [TR.lX,TR.lX,if_neg oM]
      |succ t'=>
        rw [TR.kL,TR.kL,TR.nF d l _ _ _ hd]
        by_cases he:t'=t
        · subst he;rw [if_pos hm,if_pos rfl,if_pos rfl]
        · rw [if_neg (by omega:¬t'+1=t+1)]
          split
          · rw [if_neg oM]
          · rfl
    · rw [if_neg hm]
      cases t' with
      |zero=>rw [TR.lX,TR.lX,if_neg oM]
      |succ t'=>
        rw [TR.kL,TR.kL,TR.nF d r _ _ _ hd]
        by_cases he:t'=t
        · subst he;rw [if_neg hm,if_pos rfl,if_pos rfl]
        · rw [if_neg (by omega:¬t'+1=t+1)]
          split
          · rfl
          · rw [if_neg oM]
theorem TR.jL{tr:TR}{t:Nat}{v:V}(h:t< 1000):(TR.put 10 tr t v).get=bK tr.get t v:=by funext t';rw [TR.nF 10 tr t t' v oM];rfl
def fH:List (Nat×Option Ob)->Nat->Option Ob
 | [],_=>none
 | (k,o)::l,i=>match Nat.beq i k with
  |true=>o
  |false=>fH l i
def CV:List (Nat×Option Ob)->Nat->List (Nat×Option Ob)
 | [],_=>[]
 | (k',o')::l,k=>match Nat.beq k k' with
  |true=>CV l k
  |false=>(k',o')::CV l k
def G2:List (Nat×Option Ob)->Nat->Option Ob->List (Nat×Option Ob)
 | [],k,o=>[(k,o)]
 | (k',o')::l,k,o=>match Nat.beq k k' with
  |true=>(k,o)::l
  |false=>(k',o')::G2 l k o
def LZ(l:List (Nat×Option Ob))(k:Nat)(o:Option Ob):List (Nat×Option Ob):=match o with
 |none=>CV l k
 |some o=>G2 l k (some o)
theorem zA:∀(l:List (Nat×Option Ob)) (k i:Nat),fH (CV l k) i=if i=k then none else fH l i
 | [],k,i=>by simp only [CV,fH];split <;> rfl
 | (k',o')::l,k,i=>by
  simp only [CV];split
  ·rename_i h;have h:=Nat.eq_of_beq_eq_true h;subst h;rw [zA l k i];simp only [fH];split;·rfl
   ·rename_i h2;split;·rename_i h3;exact absurd (Nat.eq_of_beq_eq_true h3) h2
    ·rfl
  ·rename_i h;have h:=Nat.ne_of_beq_eq_false h;simp only [fH];split;·rename_i h2;have h2:=Nat.eq_of_beq_eq_true h2;rw [if_neg oM]
   ·exact zA l k i
theorem F8:∀(l:List (Nat×Option Ob)) (k:Nat) (o:Option Ob) (i:Nat),fH (G2 l k o) i=if i=k then o else fH l i
 | [],k,o,i=>by
  simp only [G2,fH];split;·rename_i h;rw [if_pos (Nat.eq_of_beq_eq_true h)]
  ·rename_i h;rw [if_neg (Nat.ne_of_beq_eq_false h)]
 | (k',o')::l,k,o,i=>by
  simp only [G2];split
  ·rename_i h;have h:=Nat.eq_of_beq_eq_true h;subst h;simp only [fH];split;·rename_i h;rw [if_pos (Nat.eq_of_beq_eq_true h)]
   ·rename_i h;rw [if_neg (Nat.ne_of_beq_eq_false h)]
  ·rename_i h;have h:=Nat.ne_of_beq_eq_false h;simp only [fH];split;·rename_i h2;have h2:=Nat.eq_of_beq_eq_true h2;rw [if_neg oM]
   ·exact F8 l k o i
theorem LP(l:List (Nat×Option Ob))(k:Nat)(o:Option Ob)(i:Nat):fH (LZ l k o) i=if i=k then o else fH l i:=by
 cases o with
 |none=>exact zA l k i
 |some o=>exact F8 l k (some o) i
theorem Jc(l:List (Nat×Option Ob))(k:Nat)(o:Option Ob):fH (LZ l k o)=bK (fH l) k o:=by funext i;exact LP l k o i
def BE:List (Nat×Option Ob)->List (Nat×Option Ob)->List (Nat×Option Ob)
 |l,[]=>l
 |l,(k,o)::δ=>BE (LZ l k o) δ
theorem xz:∀(δ l:List (Nat×Option Ob)),fH (BE l δ)=bA (fH l) δ
 | [],l=>rfl
 | (k,o)::δ,l=>by rw [BE,xz,Jc,bA]
structure CS where
  tr:TR
  sl:List (Nat×Option Ob)
  nx:Nat
def CS.den(s:CS):S:=⟨s.tr.get,fH s.sl,s.nx⟩
def NR(tr:TR)(d:Option Tmp)(v:V):TR:=match d with
 |some t=>TR.put 10 tr t v
 |none=>tr
theorem GI{tr:TR}{d:Option Tmp}{v:V}(h:∀t,d=some t->t< 1000):(NR tr d v).get=eI tr.get d v:=by
 cases d with
 |none=>rfl
 |some t=>exact TR.jL (h t rfl)
inductive CT where
  |lf (l:List (CE×CE))
  |nd (a b:CT)
inductive CU where
  |lf (l:List CE)
  |nd (a b:CU)
def CT.l:CT->CU
 | .lf l=> .lf (l.map Prod.fst)
 | .nd a b=> .nd a.l b.l
def CT.r:CT->CU
 | .lf l=> .lf (l.map Prod.snd)
 | .nd a b=> .nd a.r b.r
def j8:CT->Prop
 | .lf l=>iG l
 | .nd a b=>j8 a/\j8 b
theorem zj:∀ {t:CT},t.l=t.r->j8 t
 | .lf l,h=>by simp only [CT.l,CT.r,CU.lf.injEq]at h;exact uX h
 | .nd a b,h=>by simp only [CT.l,CT.r,CU.nd.injEq]at h;exact⟨zj h.1,zj h.2⟩
mutual
def V.ids:V->List Nat
 | .agg cs=>V.oe cs
 | .tup cs=>V.oe cs
 | .fn _ a b=>V.oe a++V.oe b
 | .ifc _ v=>v.ids
 | .gd _ v=>v.ids
 | .alt _ v u=>v.ids++u.ids
 | .own i=>[i]
 | .ref i _=>[i]
 | .oel i _ _ _=>[i]
 | .osl i _ _ _=>[i]
 |_=>[]
def V.oe:List V->List Nat
 | []=>[]
 |v::l=>v.ids++V.oe l
end
def jF:List Nat->Nat->Bool
 | [],_=>false
 |k::l,i=>match Nat.beq i k with
  |true=>true
  |false=>jF l i
def Lw:List (List V)->List Nat->List Nat
 | [],t=>t
 |r::l,t=>match V.bw r with
  |true=>Lw l t
  |false=>V.oe r++Lw l t
def fK(σ:Nat->Option Ob):Nat->List Nat->List Nat->List Nat
 |0,_,seen=>seen
 |_+1,[],seen=>seen
 |k+1,i::todo,seen=>match jF seen i with
  |true=>fK σ k todo seen
  |false=>match σ i with
   |some (.box _ cs)=>fK σ k (V.oe cs++todo) (seen++[i])
   |some (.row _ _ n f)=>fK σ k (Lw ((List.range n).map f) todo) (seen++[i])
   |_=>fK σ k todo (seen++[i])
def xe:List Nat->Nat->Nat
 | [],_=>0
 |k::l,i=>match Nat.beq i k with
  |true=>0
  |false=>xe l i+1
def rowOf(l:List (List V))(i:Nat):List V:=l.getD i []
def yu(g:Nat->Nat):Ob->Option Ob
 | .box t cs=>some (.box t (V.aV g cs))
 | .row e sz n f=>match ((List.range n).map f).all V.bw with
  |true=>some (.row e sz n (rowOf ((List.range n).map f)))
  |false=>some (.row e sz n (rowOf (((List.range n).map f).map (V.aV g))))
 | .mp s f=>match f.l.all fun p=>p.2.b5 with
  |true=>some (.mp s f)
  |false=>none
def xk(σ:Nat->Option Ob)(g:Nat->Nat):List Nat->Option (List (Ob×Ob))
 | []=>some []
 |k::ns=>match σ k with
  |some o=>match yu g o with
   |some o'=>match xk σ g ns with
    |some l=>some ((o,o')::l)
    |none=>none
   |none=>none
  |none=>none
def OO(g:Nat->Nat)(n:Nat)(f f':Nat->List V):List (CE×CE):=match ((List.range n).map f).all V.bw with
 |true=>[]
 |false=>(List.range n).map fun i=>(.vs (f i),.vs (V.aV g (f' i)))
def yZ(g:Nat->Nat):Ob×Ob->List (CE×CE)
 | (.box _ cs,.box _ cs')=>[(.vs cs,.vs (V.aV g cs'))]
 | (.row _ _ n f,.row _ _ _ f')=>OO g n f f'
 |_=>[]
def eO(g:Nat->Nat):List (Ob×Ob)->List (CE×CE)
 | []=>[]
 |p::l=>yZ g p++eO g l
def Ly(k:Nat):Ob×Ob->Bool
 | (_,.box _ cs)=>V.cQ k cs
 | (.row _ _ n f,.row _ _ _ f')=>match ((List.range n).map f).all V.bw with
  |true=>true
  |false=>((List.range n).map f').all (V.cQ k)
 |_=>true
def sV(n:Nat):List (Ob×Ob)->Bool
 | []=>true
 |p::l=>Ly n p && sV n l
theorem dU{g:Nat->Nat}{l:List V}(h:V.bw l=true):V.aV g l=l:=V.dU g l h
theorem gZ{l:List (List V)}(h:l.all V.bw=true)(i:Nat):V.bw (rowOf l i)=true:=by
 unfold rowOf;rw [List.getD_eq_getElem?_getD];cases hi:l[i]? with
 |none=>rfl
 |some x=>exact List.all_eq_true.1 h x (List.mem_of_getElem? hi)
theorem lJ{f:Nat->List V}{n i:Nat}(h:i< n):rowOf ((List.range n).map f) i=f i:=by unfold rowOf;rw [List.getD_eq_getElem?_getD,List.getElem?_map,List.getElem?_range h];rfl
theorem Gk{f:MF}(h:(f.l.all fun p=>p.2.b5)=true)(g:Nat->Nat):f.map (V.bx g)=f:=by
 obtain⟨l,rest⟩:=f;show MF.mk (l.map fun p=>(p.1,V.bx g p.2)) rest=⟨l,rest⟩;congr 1
 have h':∀p∈l,p.2.b5=true:=fun p hp=>List.all_eq_true.1 h p hp;clear h;induction l with
 |nil=>rfl
 |cons p l ih=>rw [List.map_cons,ih fun q hq=>h' q (by simp [hq]),V.eL g _ (h' p (by simp))]
theorem Je{f:MF}(h:(f.l.all fun p=>p.2.b5)=true){k:MK}{u:V}(hu:f.look k=some u):u.b5=true:=by
 obtain⟨l,rest⟩:=f;have h':∀p∈l,p.2.b5=true:=fun p hp=>List.all_eq_true.1 h p hp;have hu':iq rest k l=some u:=hu;clear h hu;induction l with
 |nil=>simp only [iq,Option.map_eq_some_iff]at hu';obtain⟨v,_,rfl⟩:=hu';rfl
 |cons p l ih=>
  simp only [iq]at hu';split at hu';·injection hu' with hu';subst hu';exact h' p (by simp)
  ·exact ih (fun q hq=>h' q (by simp [hq])) hu'
theorem ot{g gi:Nat->Nat}{o o':Ob}(h:yu gi o=some o')(he:iG (eO g [(o,o')])):ef o (o'.bx g):=by
 have he:iG (yZ g (o,o')):=fun p hp=>he p (by simp only [eO,List.append_nil];exact hp);cases o with
 |box t cs=>simp only [yu,Option.some.injEq]at h;subst h;have h1:=he.hd;injection h1 with h1;exact⟨rfl,h1⟩
 |row e sz n f=>
  simp only [yu]at h;split at h;·rename_i hi;injection h with h;subst h;refine⟨rfl,rfl,rfl,fun i hi'=> ?_⟩;show f i=V.aV g (rowOf ((List.range n).map f) i);rw [dU (gZ hi i),lJ hi']
  ·rename_i hi;injection h with h;subst h;refine⟨rfl,rfl,rfl,fun i hi'=> ?_⟩;simp only [yZ,OO,hi]at he;have h1:=he (.vs (f i),.vs (V.aV g (rowOf (((List.range n).map f).map (V.aV gi)) i))) (List.mem_map.2 ⟨i,List.mem_range.2 hi',rfl⟩);injection h1 with h1
 |mp str f=>
  simp only [yu]at h;split at h;·rename_i hi;injection h with h;subst h;refine⟨rfl,fun k=> ?_⟩;show f.look k=(f.map (V.bx g)).look k;rw [Gk hi g]
  ·cases h
theorem LQ{n:Nat}{gi:Nat->Nat}{o o':Ob}(h:yu gi o=some o')(he:sV n [(o,o')]=true):o'.jX n:=by
 have he:Ly n (o,o')=true:=by simpa only [sV,Bool.and_true]using he
 cases o with
 |box t cs=>simp only [yu,Option.some.injEq]at h;subst h;exact he
 |row e sz m f=>
  simp only [yu]at h;split at h;·rename_i hi;injection h with h;subst h;exact fun i _=>ic n _ (gZ hi i)
  ·rename_i hi;injection h with h;subst h;intro i hi';simp only [Ly,hi]at he;exact List.all_eq_true.1 he _ (List.mem_map.2 ⟨i,List.mem_range.2 hi',rfl⟩)
 |mp str f=>
  simp only [yu]at h;split at h;·rename_i hi;injection h with h;subst h;exact fun k u hu=>lE n u (Je hi hu)
  ·cases h
def uh(g:Nat->Nat):Ob->List (CE×CE)
 | .box _ cs=>[(.vs cs,.vs (V.aV g cs))]
 | .row _ _ n f=>OO g n f f
 |_=>[]
theorem DF{l:List (List V)}{i:Nat}(h:l.length<=i):rowOf l i=[]:=by unfold rowOf;rw [List.getD_eq_getElem?_getD,List.getElem?_eq_none h];rfl
theorem xD{g gi:Nat->Nat}{o o':Ob}(h:yu gi o=some o')(he:iG (uh g o')):o'.bx g=o':=by
 cases o with
 |box t cs=>simp only [yu,Option.some.injEq]at h;subst h;have h1:=he.hd;injection h1 with h1;rw [Ob.bx,<-h1]
 |row e sz m f=>
  simp only [yu]at h;split at h
  ·rename_i hi;injection h with h;subst h;rw [Ob.bx];congr 1
   funext i;exact dU (gZ hi i)
  ·injection h with h;subst h;rw [Ob.bx];congr 1
   funext i;by_cases hlt:i< m
   ·generalize ((List.range m).map f).map (V.aV gi)=l at he;simp only [uh,OO]at he;split at he;·rename_i ha;exact dU (by have:=List.all_eq_true.1 ha _ (List.mem_map.2 ⟨i,List.mem_range.2 hlt,rfl⟩);exact this)
    ·have h1:=he (.vs (rowOf l i),.vs (V.aV g (rowOf l i))) (List.mem_map.2 ⟨i,List.mem_range.2 hlt,rfl⟩);injection h1 with h1;exact h1.symm
   ·rw [DF (by simp;omega)];rfl
 |mp str f=>
  simp only [yu]at h;split at h;·rename_i hi;injection h with h;subst h;show Ob.mp str (f.map (V.bx g))= .mp str f;rw [Gk hi g]
  ·cases h
theorem oX{g:Nat->Nat}{p:Ob×Ob}{l:List (Ob×Ob)}(h:iG (eO g (p::l))):iG (eO g [p])/\iG (eO g l):= ⟨fun q hq=>h q (List.mem_append.2 (.inl (by simpa only [eO,List.append_nil]using hq))),fun q hq=>h q (List.mem_append.2 (.inr hq))⟩
theorem tP{n:Nat}{p:Ob×Ob}{l:List (Ob×Ob)}(h:sV n (p::l)=true):sV n [p]=true/\sV n l=true:=by simp only [sV,Bool.and_eq_true,Bool.and_true]at h ⊢;exact h
theorem kN{σ:Nat->Option Ob}{gi:Nat->Nat}:∀ {ns:List Nat}{l:List (Ob×Ob)},xk σ gi ns=some l->l.length=ns.length/\∀(i:Nat) (p:Ob×Ob),l[i]?=some p->∃k,ns[i]?=some k/\σ k=some p.1/\yu gi p.1=some p.2
 | [],l,h=>by simp only [xk,Option.some.injEq]at h;subst h;exact⟨rfl,fun i p h=>by simp at h⟩
 |k::ns,l,h=>by
  simp only [xk]at h;split at h
  ·rename_i o ho;split at h
   ·rename_i o' ho';split at h
    ·rename_i l' hl;injection h with h;subst h;obtain⟨h1,h2⟩:=kN hl;refine⟨by simp [h1],fun i p hp=> ?_⟩;cases i with
     |zero=>simp at hp;subst hp;exact⟨k,rfl,ho,ho'⟩
     |succ i=>simpa using h2 i p (by simpa using hp)
    ·cases h
   ·cases h
  ·cases h
theorem fE{g:Nat->Nat}:∀ {l:List (Ob×Ob)},iG (eO g l)->∀ {i:Nat}{p:Ob×Ob},l[i]?=some p->iG (eO g [p])
 |q::l,h,0,p,hp=>by simp at hp;subst hp;exact(oX h).1
 |q::l,h,i+1,p,hp=>fE (oX h).2 (by simpa using hp)
theorem xh{n:Nat}:∀ {l:List (Ob×Ob)},sV n l=true->∀ {i:Nat}{p:Ob×Ob},l[i]?=some p->sV n [p]=true
 |q::l,h,0,p,hp=>by simp at hp;subst hp;exact(tP h).1
 |q::l,h,i+1,p,hp=>xh (tP h).2 (by simpa using hp)
structure CR where
  v:V
  outs:List (Option Ob)
  obs:List Ob
  e:CT
abbrev fm:Type:=FuncId->List V->List Ob->Option CR
def Gp:Nat:=999999999
def cX(P:Program)(call:fm):Prop:=(∀f args ins r,Nat.beq f Gp=false->call f args ins=some r->j8 r.e->AM P f args ins r.v r.outs r.obs)/\ ∀(name:String) (t:Nat) (r:CR) (n:Int),call Gp [.fn (.method name) [] [],.i (t:Int)] []=some r->r.v= .i n->vS P name t n.toNat
structure SX where
  v:V
  pre:List (Nat×Ob)
  δ:List (Nat×Option Ob)
  e:CT
def rK:List Nat->Bool
 | []=>true
 |k::l=>match jF l k with
  |true=>false
  |false=>rK l
def EO(call:fm)(nx:Nat)(d:Nat)(f:FuncId)(as0:List V)(ns:List Nat)(l:List (Ob×Ob)):Option SX:=
 match decide (d< 1000) && (rK ns && (V.cQ l.length (V.aV (fun i=>500+xe ns i) as0) && (sV l.length l && !Nat.beq f Gp)))with
  |true=>match call f (V.aV (fun i=>500+xe ns i) as0) (l.map Prod.snd)with
   |some r=>match Nat.ble r.obs.length 90 && Nat.beq r.outs.length l.length with
    |true=>some ⟨r.v.bx (aJ nx (some d) ns),i7 ns (l.map Prod.fst),gz (aJ nx (some d) ns) ns r.outs++b6 (aJ nx (some d) ns) 0 r.obs,
     .nd (.lf ((.vs as0,.vs (V.aV (aJ nx (some d) ns) (V.aV (fun i=>500+xe ns i) as0)))::eO (aJ nx (some d) ns) l)) r.e⟩
    |false=>none
   |none=>none
  |false=>none
def wF(call:fm)(nx:Nat)(σ:Nat->Option Ob)(o:Oper)(f:FuncId)(as0:List V):Option SX:=
 match o.dst with
  |some d=>match xk σ (fun i=>500+xe (fK σ 1000 (V.oe as0) []) i) (fK σ 1000 (V.oe as0) [])with
   |some l=>EO call nx d f as0 (fK σ 1000 (V.oe as0) []) l
   |none=>none
  |none=>none
def P9(M:List Nat)(tm:Nat->V)(o:Oper):List Nat:=match o.op with
 | .box _ y=>match bX (ug (ev tm y))with
  |some us=>match V.bw us with
   |true=>M
   |false=>[o.dst.getD 0]
  |none=>M
 | .buildSlice _ n parts=>match n with
  |0=>[o.dst.getD 0]
  |_+1=>match V.bw (parts.toList.map fun p=>ug (ev tm p.2))with
   |true=>M
   |false=>[o.dst.getD 0]
 |_=>M
def tK(o:Oper):Bool:=match o.dst with
 |some t=>Nat.ble t 999
 |none=>match o.op with
  | .store _ _ _=>true
  | .insert _ _ _ _=>true
  | .mapUpdate _ _ _ _=>true
  |_=>false
theorem ER{o:Oper}(h:tK o=true):jV o=true:=by
 unfold tK at h;unfold jV;split at h;·rename_i t ht;have:=Nat.le_of_ble_eq_true h;simp only [ht];exact decide_eq_true (Nat.lt_succ_of_le this)
 ·rename_i ht;simp only [ht];exact h
def Pb(T:List TI)(M:List Nat)(nx:Nat)(tm:Nat->V)(σ:Nat->Option Ob)(o:Oper):Option SX:=
 match o.op with
  | .pick x a b=>match ev tm x with
   | .c (.bool t)=>match mH t (ug (ev tm a)) (ug (ev tm b))with
    |some v=>match iM o with
     |true=>some ⟨v,[],[],.lf (GH (Fy (t == true) (ev tm a)++Fy (t == false) (ev tm b)))⟩
     |false=>none
    |none=>none
   |_=>none
  |_=>match tK o && rJ (opsV tm o)with
   |true=>match (BG T false o (fun x=>ug (ev tm x)) σ).dec with
    |true=>match pq T false (P9 M tm o) nx o (fun x=>ug (ev tm x)) σ with
     |some r=>some ⟨r.v,r.pre,r.δ,.lf [(.p r.c,.p (BG T false o (fun x=>ug (ev tm x)) σ).den)]⟩
     |none=>none
    |false=>match (BG T true o (fun x=>ug (ev tm x)) σ).dec with
     |true=>match pq T true (P9 M tm o) nx o (fun x=>ug (ev tm x)) σ with
      |some r=>some ⟨r.v,r.pre,r.δ,.lf [(.p r.c,.p (BG T true o (fun x=>ug (ev tm x)) σ).den)]⟩
      |none=>none
     |false=>none
   |false=>none
def zL(T:List TI)(tm:Nat->V)(σ:Nat->Option Ob)(o:Oper):Option SX:=match o.op with
 | .binOp op t x y _=>match ev tm x with
  | .own id=>match ev tm y with
   | .nil=>match (T.getD t bB).elem with
    |some _=>match σ id with
     |some (.row e sz n row)=>match n with
      |0=>none
      |k+1=>match iM o with
       |true=>match op with
        | .eql=>some ⟨.b false,[(id,.row e sz (k+1) row)],[],.lf []⟩
        | .neq=>some ⟨.b true,[(id,.row e sz (k+1) row)],[],.lf []⟩
        |_=>none
       |false=>none
     |_=>none
    |none=>none
   |_=>none
  |_=>none
 |_=>none
theorem rA:∀ {l:List Nat}{i:Nat},jF l i=false->i∉l
 | [],_,_=>by simp
 |k::l,i,h=>by
  simp only [jF]at h;split at h;·cases h
  ·rename_i hb;have hb:=Nat.ne_of_beq_eq_false hb;simp only [List.mem_cons,not_or];exact⟨hb,rA h⟩
theorem ov:∀ {l:List Nat},rK l=true->l.Nodup
 | [],_=> .nil
 |k::l,h=>by
  simp only [rK]at h;split at h;·cases h
  ·rename_i hb;exact List.nodup_cons.2 ⟨rA hb,ov h⟩
section
variable {P:Program}{W LB:Nat->Prop}{T:List TI}{M:List Nat}{nx:Nat}{tm:Nat->V}{σ:Nat->Option Ob}{o:Oper}{x:SX}{call:fm}
def HE(P:Program)(W LB:Nat->Prop)(nx:Nat)(tm:Nat->V)(σ:Nat->Option Ob)(o:Oper)(x:SX):Prop:= ∃nw,aT P W LB o (ev tm) x.v x.pre nw x.δ/\(∀p∈x.pre,σ p.1=some p.2)/\kg nx o.dst nw/\∀t,o.dst=some t->t< 1000
theorem kG(hT:aL T P){wr:Bool}{r:SR}(hd:(tK o && rJ (opsV tm o))=true)(h:pq T wr M nx o (fun x=>ug (ev tm x)) σ=some r)(hc:r.c){e:CT}:HE P W LB nx tm σ o ⟨r.v,r.pre,r.δ,e⟩:=by simp only [Bool.and_eq_true]at hd;have hd:jV o=true/\rJ (opsV tm o)=true:=⟨ER hd.1,hd.2⟩;rw [F1]at h;obtain⟨h1,h2,h3⟩:=gL (W:=W) (LB:=LB) hT o h hc (jB hd.1);exact⟨r.nw,h1.weaken fun x hx _ _ _ _ hy=>hy.ug (ou hd.2 _ (kT hx)),h2,Kk hd.1 h3,fun t ht=>wO hd.1 ht⟩
theorem BA{c:Prop}{q:PQ}(h:CE.p c=CE.p q.den)(hq:q.dec=true):c:=by injection h with h;rw [h];exact PQ.ok hq
theorem EZ(hT:aL T P)(h:Pb T M nx tm σ o=some x)(he:j8 x.e):HE P W LB nx tm σ o x:=by
 unfold Pb at h;split at h
 ·rename_i xx a b hop;split at h
  ·rename_i t hx;split at h
   ·rename_i v hv;split at h;·rename_i hd;injection h with h;subst h;have hp:=iG.ps he;obtain⟨d,op,ty,pos,af,gd⟩:=o;simp only at hop;subst hop;refine⟨[],(we xx a b hx (mZ hp.l) (mZ hp.r) (kV hv)).step,by simp,by simp [kg],fun t ht=> ?_⟩;simp only at ht;subst ht;simpa [iM]using hd
    ·cases h
   ·cases h
  ·cases h
 ·split at h
  ·rename_i hd;split at h
   ·rename_i hq;split at h;·rename_i r hr;injection h with h;subst h;exact kG hT hd hr (BA he.hd hq)
    ·cases h
   ·split at h
    ·rename_i hq;split at h;·rename_i r hr;injection h with h;subst h;exact kG hT hd hr (BA he.hd hq)
     ·cases h
    ·cases h
  ·cases h
theorem tJ(hcl:cX P call)(hwl:∀b,W b->LB b){f:FuncId}{as0:List V}(hpl:jJ o.op=true)(hex:P3 P o (ev tm) f as0)(h:wF call nx σ o f as0=some x)(he:j8 x.e):HE P W LB nx tm σ o x:=by
  unfold wF at h
  split at h
  · rename_i d hd
    split at h
    · rename_i l hl
      generalize fK σ 1000 (V.oe as0) []=ns at h hl
      unfold EO at h
      split at h
      · rename_i hb
        split at h
        · rename_i r hr
          split at h
          · rename_i hb2
            injection h with h;subst h
            simp only [Bool.and_eq_true,decide_eq_true_eq]at hb hb2
            obtain⟨hb0,hb1,hb3,hb4,hbm⟩:=hb
            obtain⟨hbo,hbl⟩:=hb2
            have hbl:=Nat.eq_of_beq_eq_true hbl
            have hbo:=Nat.le_of_ble_eq_true hbo
            obtain⟨hlen,hget⟩:=kN hl
            have hE:=he.1
            have h1:=hE.hd
            injection h1 with h1
            have hB:=hE.tl
            have am:=hcl.1 _ _ _ _ (by simpa using hbm) hr he.2
            refine⟨(List.range r.obs.length).map (ax nx (some d)),tE (W:=W) (LB:=LB) (d:=some d) (ins':=l.map Prod.fst) am hwl ns hpl hex nx h1 (by simpa using hb3) (by simpa using hb0) hbo (ov hb1) (by simp [hlen]) (by simpa using hbl) (by simp) (fun i o o' h2 h3=> ?_),fun p hp=> ?_,?_,?_⟩
            · simp only [List.getElem?_map,Option.map_eq_some_iff]at h2 h3
              obtain⟨p,hp,rfl⟩:=h2
              obtain⟨q,hq,rfl⟩:=h3
              rw [hp]at hq
              injection hq with hq
              subst hq
              obtain⟨k,_,_,hn⟩:=hget i p hp
              exact⟨ot hn (fE hB hp),by simpa using LQ hn (xh hb4 hp)⟩
            · have key:∀(ns:List Nat) (l:List (Ob×Ob)),(∀(i:Nat) (p:Ob×Ob),l[i]?=some p->∃k,ns[i]?=some k/\σ k=some p.1)->∀p∈i7 ns (l.map Prod.fst),σ p.1=some p.2:=by
                intro ns
                induction ns with
                |nil=>intro l _ p hp;simp [i7]at hp
                |cons k ns ih=>
                  intro l hl p hp
                  cases l with
                  |nil=>simp [i7]at hp
                  |cons q l=>
                    simp only [List.map_cons,i7,List.mem_cons]at hp
                    rcases hp with rfl |hp
                    · obtain⟨k',h1,h2⟩:=hl 0 q rfl
                      simp at h1;subst h1
                      exact h2
                    · exact ih l (fun i p hp=>by simpa using hl (i+1) p (by simpa using hp)) p hp
              exact key ns l (fun i p hp=>(hget i p hp).imp fun k h=>⟨h.1,h.2.1⟩) p hp
            · intro id hid
              obtain⟨j,hj,rfl⟩:=List.mem_map.1 hid
              have hj':j< r.obs.length:=by simpa using hj
              refine⟨d,hd,?_,?_,?_⟩ <;> simp only [ax,Option.getD_some] <;> omega
            · intro t ht
              rw [hd]at ht
              simp only [Option.some.injEq]at ht
              subst ht
              exact hb0
          · cases h
        · cases h
      · cases h
    · cases h
  · cases h
theorem w9{ar:Array Operand}{w:World}{L:Nat->Prop}{ρ:Nat->Option Value}{g:Operand->Value}{e:Operand->V}(hr:∀x∈ar,R w L ρ (e x) (g x)):RV w L ρ (ar.toList.map e) (ar.map g).toList:=by refine⟨by simp,fun i u x hu hx=> ?_⟩;simp only [List.getElem?_map,Option.map_eq_some_iff,Array.toList_map]at hu hx;obtain⟨p,hp,rfl⟩:=hu;obtain⟨q,hq,rfl⟩:=hx;rw [hp]at hq;injection hq with hq;subst hq;exact hr p (by simpa using List.mem_of_getElem? hp)
theorem EP(hcl:cX P call)(hwl:∀b,W b->LB b){f:FuncId}{as0:List V}(hq:qO (ev tm) o=some (f,as0))(h:wF call nx σ o f as0=some x)(he:j8 x.e):HE P W LB nx tm σ o x:=by
 obtain⟨d',fo,ar,ats,ty,pos,af,gd,first,caps,rfl,hf,ha⟩:=jz hq;refine tJ hcl hwl rfl (fun w L ρ g hr=> ?_) h he;have h1:=hr fo (by simp [Op.operands,Call.operands]);rw [hf]at h1;obtain⟨xs,ys,e1,hx,hy⟩:=h1.kJ;have hz:RV w L ρ (ar.toList.map (ev tm)) (ar.map g).toList:=w9 fun p hp=>hr p (by simp [Op.operands,Call.operands,hp]);refine⟨xs++ar.map g++ys,fun hcf=> ?_,?_⟩;·simp [execOp,resolve,Deferred.ofValue,invoke,e1,hcf]
 ·rw [<-ha];have:=(hx.append hz).append hy;simpa using this
def Gh(e:Operand->V)(o:Oper):Option (String×Nat×List V):=match o.op with
 | .call c=>match c.callee with
  | .value fo=>match e fo with
   | .fn (.method name) [.ifc t v] []=>some (name,t,v::c.args.toList.map e)
   |_=>none
  |_=>none
 |_=>none
def EX(call:fm)(nx:Nat)(σ:Nat->Option Ob)(o:Oper)(q:String×Nat×List V):Option SX:=match call Gp [.fn (.method q.1) [] [],.i (q.2.1:Int)] []with
 |some r=>match r.v with
  | .c (.int .i64 n)=>wF call nx σ o n.toNat q.2.2
  |_=>none
 |none=>none
theorem EY(hcl:cX P call)(hwl:∀b,W b->LB b){q:String×Nat×List V}(hq:Gh (ev tm) o=some q)(h:EX call nx σ o q=some x)(he:j8 x.e):HE P W LB nx tm σ o x:=by
 obtain⟨d,op,ty,pos,af,gd⟩:=o;unfold Gh at hq;simp only at hq;split at hq
 ·rename_i c;obtain⟨callee,ar,ats⟩:=c;simp only at hq;split at hq
  ·rename_i fo;split at hq
   ·rename_i name t v hf;injection hq with hq;subst hq;unfold EX at h;split at h
    ·rename_i r hr;split at h
     ·rename_i n hn;have hm:=hcl.2 name t r n hr hn;refine tJ hcl hwl rfl (fun w L ρ g hrr=> ?_) h he;have h1:=hrr fo (by simp [Op.operands,Call.operands]);rw [hf]at h1;obtain⟨xs,ys,e1,hx,hy⟩:=h1.kJ;have hy0:ys= #[]:=by have:=hy.1;simpa using this.symm
      subst hy0;obtain⟨x0,hx0,hr0⟩:=hx.get (i:=0) (u:= .ifc t v) rfl;have hl1:xs.size=1:=by have:=hx.1;simpa using this.symm
      obtain⟨y,e2,hy2⟩:∃y,x0= .iface t y/\R w L ρ v y:=by cases hr0;exact⟨_,rfl,by assumption⟩
      have e3:xs= #[.iface t y]:=by
       rw [e2]at hx0;apply Array.ext';have:xs.toList.length=1:=by simpa using hl1
       match hxl:xs.toList,this with
       | [a],_=>rw [hxl]at hx0;simp at hx0;rw [hx0]
      have hz:RV w L ρ (ar.toList.map (ev tm)) (ar.map g).toList:=w9 fun p hp=>hrr p (by simp [Op.operands,Call.operands,hp]);refine⟨#[y]++ar.map g,fun hcf=> ?_,?_⟩
      ·obtain⟨A,hA⟩:∃A,A= #[Value.iface t y]++ar.map g:=⟨_,rfl⟩;have hA0:A[0]?=some (.iface t y):=by rw [hA,Array.getElem?_append_left (by simp)];rfl
       have hA1:A.extract 1 A.size=ar.map g:=by rw [hA];apply Array.ext';simp [List.take_of_length_le]
       have e5:(method (P.types.size+100) t y name).run P w= .ok (n.toNat,y) w:=hm y w;have e6:(execOp g ⟨d,.call {callee:= .value fo,args:=ar,argTypes:=ats},ty,pos,af,gd⟩).run P w=(invoke (.fn (.method name) #[]) A).run P w:=by rw [hA];simp [execOp,resolve,Deferred.ofValue,e1,e3]
       rw [e6];simp only [invoke,hA0,hA1,callMethod];simp [go_sem,e5,hcf]
      ·have:=(RV.nil (w:=w) (L:=L) (ρ:=ρ)).cons hy2;have:=this.append hz;simpa using this
     ·cases h
    ·cases h
   ·cases hq
  ·cases hq
 ·cases hq
def Il(T:List TI)(tm:Nat->V)(o:Oper):Option SX:=match o.op with
 | .makeInterface t x=>match (T.getD t bB).agg with
  |some true=>match iM o with
   |true=>some ⟨.ifc t (ev tm x),[],[],.lf []⟩
   |false=>none
  |_=>none
 | .nilCheck x=>match ev tm x with
  | .ifc t v=>match iM o with
   |true=>some ⟨.ifc t v,[],[],.lf []⟩
   |false=>none
  |_=>none
 |_=>none
theorem A3(hT:aL T P)(h:Il T tm o=some x):HE P W LB nx tm σ o x:=by
 obtain⟨d,op,ty,pos,af,gd⟩:=o;unfold Il at h;split at h
 ·rename_i t xx hop;simp only at hop;subst hop;split at h
  ·rename_i ha;split at h;·rename_i hd;injection h with h;subst h;exact⟨[],(Ey t xx (hT.agg ha)).step,by simp,by simp [kg],fun t ht=>by simp only at ht;subst ht;simpa [iM]using hd⟩
   ·cases h
  ·cases h
 ·rename_i xx hop;simp only at hop;subst hop;split at h
  ·rename_i t v hx;split at h;·rename_i hd;injection h with h;subst h;exact⟨[],(Cq xx hx).step,by simp,by simp [kg],fun t ht=>by simp only at ht;subst ht;simpa [iM]using hd⟩
   ·cases h
  ·cases h
 ·cases h
theorem Dr(hT:aL T P)(h:zL T tm σ o=some x):HE P W LB nx tm σ o x:=by
  obtain⟨d,op,ty,pos,af,gd⟩:=o
  unfold zL at h
  split at h
  · rename_i bo t xx y t' hop
    simp only at hop
    subst hop
    split at h
    · rename_i id hx
      split at h
      · rename_i hy
        split at h
        · rename_i el hel
          split at h
          · rename_i e sz n row hσ
            split at h
            · cases h
            · split at h
              · rename_i hd
                have hd':∀t,d=some t->t< 1000:=fun t ht=>by
                  subst ht
                  simpa [iM]using hd
                split at h
                · injection h with h;subst h
                  exact⟨[],(EF t t' xx y (hT.elem hel) hx hy (Nat.succ_pos _)).1,by simpa using hσ,by simp [kg],hd'⟩
                · injection h with h;subst h
                  exact⟨[],(EF t t' xx y (hT.elem hel) hx hy (Nat.succ_pos _)).2,by simpa using hσ,by simp [kg],hd'⟩
                · cases h
              · cases h
          · cases h
        · cases h
      · cases h
    · cases h
  · cases h
end
def TR.map(f:V->V):TR->TR
 | .e=> .e
 | .n v l r=> .n (f v) (l.map f) (r.map f)
theorem TR.get_map{f:V->V}(hf:f .any= .any):∀(tr:TR) (t:Nat),(tr.map f).get t=f (tr.get t)
 | .e,t=>by rw [TR.map,TR.jh,hf]
 | .n v l r,0=>by rw [TR.map,TR.lX,TR.lX]
 | .n v l r,t+1=>by rw [TR.map,TR.kL,TR.kL,TR.get_map hf l,TR.get_map hf r];split <;> rfl
def NH(id:Nat)(v:V):Ob->Ob
 | .box t cs=>match V.bw cs with
  |true=> .box t cs
  |false=> .box t (V.nP id v cs)
 | .row e sz n f=>match ((List.range n).map f).all V.bw with
  |true=> .row e sz n f
  |false=> .row e sz n (rowOf (((List.range n).map f).map (V.nP id v)))
 | .mp s f=>match f.l.all fun p=>p.2.b5 with
  |true=> .mp s f
  |false=> .mp s (f.map (V.fz id v))
theorem zX{f:Nat->List V}{g:List V->List V}{n i:Nat}(h:i< n):rowOf (((List.range n).map f).map g) i=g (f i):=by unfold rowOf;rw [List.getD_eq_getElem?_getD,List.getElem?_map,List.getElem?_map,List.getElem?_range h];rfl
theorem LS(id:Nat)(v:V)(o:Ob):OK id v o (NH id v o):=by
 cases o with
 |box t cs=>
  simp only [NH];split;·exact⟨rfl,.inr rfl⟩
  ·exact⟨rfl,.inl rfl⟩
 |row e sz n f=>
  simp only [NH];split;·exact⟨rfl,rfl,rfl,fun _ _=> .inr rfl⟩
  ·exact⟨rfl,rfl,rfl,fun i hi=> .inl (zX hi)⟩
 |mp s f=>
  simp only [NH];split;·exact⟨rfl,.inr rfl⟩
  ·exact⟨rfl,.inl rfl⟩
def nP(id:Nat)(v:V):List (Nat×Option Ob)->List (Nat×Option Ob)
 | []=>[]
 | (k,o)::l=>match Nat.beq k id with
  |true=>nP id v l
  |false=>(k,o.map (NH id v))::nP id v l
theorem zz(id:Nat)(v:V):∀(l:List (Nat×Option Ob)) (i:Nat) (o':Ob),fH (nP id v l) i=some o'->i≠id/\∃o,fH l i=some o/\OK id v o o'
 | [],i,o',h=>by cases h
 | (k,o)::l,i,o',h=>by
  simp only [nP]at h;split at h
  ·rename_i hk;have hk:=Nat.eq_of_beq_eq_true hk;obtain⟨h1,o,h2,h3⟩:=zz id v l i o' h;refine⟨h1,o,?_,h3⟩;simp only [fH];split;·rename_i h4;exact absurd ((Nat.eq_of_beq_eq_true h4).trans hk) h1
   ·exact h2
  ·rename_i hk;have hk:=Nat.ne_of_beq_eq_false hk;simp only [fH]at h ⊢;split at h
   ·rename_i h4;have h4:=Nat.eq_of_beq_eq_true h4;refine⟨by omega,?_⟩;cases o with
    |none=>cases h
    |some o=>simp only [Option.map_some,Option.some.injEq]at h;subst h;exact⟨o,rfl,LS _ _ _⟩
   ·exact zz id v l i o' h
def Fu(s:CS)(id:Nat)(v:V):CS:=⟨s.tr.map (V.fz id v),nP id v s.sl,s.nx⟩
theorem u0(s:CS)(id:Nat)(v:V){ob:Ob}(hσ:fH s.sl id=some ob)(h0:∀(W:Nat->Prop) (w:World) (L:Nat->Prop) (ρ:Nat->Option Value),Real W w L ρ id ob->∀y,ρ id=some y->R w (fun b=>L b\/blk y=some b) ρ v y):Le s.den (Fu s id v).den:=by
 have h1:Le s.den ⟨fun t=>V.fz id v (s.tr.get t),fH (nP id v s.sl),s.nx⟩:=Le.Qo (s:=s.den) id hσ v (fun i o' h=>zz id v s.sl i o' h) h0;have e1:(s.tr.map (V.fz id v)).get=fun t=>V.fz id v (s.tr.get t):=by funext t;exact TR.get_map (by rw [V.fz]) _ _
 simp only [Fu,CS.den];rw [e1];exact @h1
def Lm(s:CS)(id:Nat):CS:=match Nat.ble 0 id with
 |false=>s
 |true=>match fH s.sl id with
  |some (.row _ sz n f)=>match ((List.range n).map f).all V.bw with
   |true=>Fu s id (.sl sz n (rowOf ((List.range n).map f)))
   |false=>s
  |some (.box _ cs)=>match V.bw cs with
   |true=>Fu s id (.ptr cs)
   |false=>s
  |some (.mp p _)=>match Nat.beq p.2 0 with
   |true=>Fu s id .any
   |false=>s
  |none=>s
def Ft(s:CS):List Nat->CS
 | []=>s
 |id::l=>Lm (Ft s l) id
theorem IF(s:CS)(id:Nat):Le s.den (Lm s id).den:=by
 unfold Lm;split;·exact Le.refl _
 ·split
  ·rename_i e sz n f hσ;split
   ·rename_i hi;refine u0 s id _ hσ fun W w L ρ hr y hy=> ?_;have hi':∀i,i< n->V.bw (f i)=true:=fun i hi'=>by have:=gZ hi i;rwa [lJ hi']at this
    obtain⟨v,h1,_,h3⟩:=hr.slice hi';rw [hy]at h1;injection h1 with h1;subst h1
    exact yD h3 fun i hi''=>(lJ hi'').symm
   ·exact Le.refl _
  ·rename_i t0 cs hσ;split
   ·rename_i hi;refine u0 s id _ hσ fun W w L ρ hr y hy=> ?_;obtain⟨v,h1,_,h3⟩:=hr.ptr hi;rw [hy]at h1;injection h1 with h1;subst h1
    exact h3
   ·exact Le.refl _
  ·rename_i hσ;split;·exact u0 s id _ hσ fun W w L ρ _ y _=> .any _ _
   ·exact Le.refl _
  ·exact Le.refl _
theorem qh(s:CS):∀l:List Nat,Le s.den (Ft s l).den
 | []=>Le.refl _
 |id::l=>Le.trans (qh s l) (IF _ id)
def Qa:List (Nat×Operand)->Nat->Option Operand
 | [],_=>none
 | (k,y)::l,t=>match Nat.beq t k with
  |true=>some y
  |false=>Qa l t
def Gu(en:List (Nat×Operand))(x:Operand):Operand:=match x with
 | .tmp t=>match Qa en t with
  |some y=>y
  |none=> .tmp t
 |x=>x
def Ko(tm:Nat->V)(en:List (Nat×Operand)):List Operand->List Nat
 | []=>[]
 |x::l=>(ug (ev tm (Gu en x))).ids++Ko tm en l
def kB(mu:List Nat)(tm:Nat->V):List (Nat×Operand)->List Oper->List Nat
 |_,[]=>[]
 |en,o::os=>match o.op with
  | .call c=>match c.callee with
   | .value fo=>match ug (ev tm (Gu en fo))with
    | .fn (.func f) _ _=>match jF mu f with
     |true=>kB mu tm en os
     |false=>Ko tm en c.args.toList++kB mu tm en os
    |_=>kB mu tm en os
   |_=>kB mu tm en os
  | .move y=>match o.dst with
   |some t=>kB mu tm ((t,Gu en y)::en) os
   |none=>kB mu tm en os
  |_=>kB mu tm en os
def vb:List Oper->Bool
 | []=>false
 |o::os=>match o.op with
  | .call c=>match c.callee with
   | .value _=>true
   |_=>vb os
  | .binOp .eql _ _ _ _=>true
  | .binOp .neq _ _ _ _=>true
  |_=>vb os
def pS(mu:List Nat)(s:CS)(ol:List Oper):CS:=match vb ol with
 |false=>s
 |true=>Ft s (fK (fH s.sl) 1000 (kB mu s.tr.get [] ol) [])
theorem uZ(mu:List Nat)(s:CS)(ol:List Oper):Le s.den (pS mu s ol).den:=by
 unfold pS;split;·exact Le.refl _
 ·exact qh _ _
structure uy where
  call:fm
  M:List Nat
  nx:Nat
  tm:Nat->V
  σ:Nat->Option Ob
  o:Oper
def G1{α:Type}(b:Bool)(x:Option α):Option α:=Bool.rec (motive:=fun _=>Option α) none x b
def oE{α β:Type}(o:Option α)(els:Option β)(f:α->Option β):Option β:=Option.rec (motive:=fun _=>Option β) els f o
theorem dW{α:Type}{b:Bool}{x:Option α}{y:α}(h:G1 b x=some y):b=true/\x=some y:=by
 cases b with
 |true=>exact⟨rfl,h⟩
 |false=>cases h
def Kj:V->Bool
 | .gd _ _=>false
 |_=>true
def dB(d:Option Tmp):Bool:=Option.rec (motive:=fun _=>Bool) false (fun t=>Nat.ble t 999) d
def dZ(T:List TI)(p:uy):Option SX:=Pb T p.M p.nx p.tm p.σ p.o
def KB(p:uy)(x:Operand)(f:V->Option SX):Option SX:=G1 (Kj (ev p.tm x)) (f (ev p.tm x))
def OG(p:uy)(r:Option SR)(q:PQ):Option SX:=G1 (and q.dec (dB p.o.dst)) (oE r none fun r=>some ⟨r.v,r.pre,r.δ,(.lf [])⟩)
def JH:V->Option (IntKind×Int)
 | .c (.int k n)=>some (k,n)
 |_=>none
def FY:IntKind->Nat
 | .i8=>0
 | .i16=>1
 | .i32=>2
 | .i64=>3
 | .u8=>4
 | .u16=>5
 | .u32=>6
 | .u64=>7
theorem FZ{a b:IntKind}(h:Nat.beq (FY a) (FY b)=true):a=b:=by have h:=Nat.eq_of_beq_eq_true h;cases a <;> cases b <;> first |rfl | (simp [FY]at h)
def O7(op:BinOp):IntKind->Int->Int->Option (PQ×V):=match op with
 | .add=>fun k a b=>some (vf k (a+b),.c (.int k (a+b)))
 | .sub=>fun k a b=>some (vf k (a- b),.c (.int k (a- b)))
 | .mul=>fun k a b=>some (vf k (a*b),.c (.int k (a*b)))
 | .quo=>fun k a b=>some (.and (.lt 0 b) (vf k a),.c (.int k (a.tdiv b)))
 | .rem=>fun k a b=>some (.ne b 0,.c (.int k (a.tmod b)))
 | .eql=>fun _ a b=>some (.tt,.b (decide (a=b)))
 | .neq=>fun _ a b=>some (.tt,.b (!decide (a=b)))
 | .lss=>fun _ a b=>some (.tt,.b (decide (a< b)))
 | .leq=>fun _ a b=>some (.tt,.b (decide (a<=b)))
 | .gtr=>fun _ a b=>some (.tt,.b (decide (b< a)))
 | .geq=>fun _ a b=>some (.tt,.b (decide (b<=a)))
 |_=>fun _ _ _=>none
theorem IU(k:IntKind)(n:Int):(vf k n).den=xj k n:=by cases k <;> rfl
theorem K0{op:BinOp}{k:IntKind}{a b:Int}{q:PQ}{v:V}(h:O7 op k a b=some (q,v)):∃c,CG false op (.c (.int k a)) (.c (.int k b))=some (c,v)/\(q.dec=true->c):=by refine⟨q.den,?_,PQ.ok⟩;cases op <;> simp only [O7,Option.some.injEq,Prod.mk.injEq,reduceCtorEq]at h <;> (rw [<-h.1,<-h.2];simp [CG,Ik,PQ.den,IU])
def Hs(_:Call)(T:List TI)(p:uy):Option SX:=match qO (ev p.tm) p.o with
 |some (f,as0)=>wF p.call p.nx p.σ p.o f as0
 |none=>match Gh (ev p.tm) p.o with
  |some q=>EX p.call p.nx p.σ p.o q
  |none=>dZ T p
def PZ(_:TypeId)(_:Operand)(T:List TI)(p:uy):Option SX:=Il T p.tm p.o
def O2(T:List TI)(p:uy):Option SX:=oE (zL T p.tm p.σ p.o) (dZ T p) some
def Qv(T:List TI)(p:uy)(op:BinOp)(u v:IntKind×Int):Option SX:=oE (G1 (Nat.beq (FY u.1) (FY v.1)) (O7 op u.1 u.2 v.2)) (O2 T p) fun r=>G1 (and r.1.dec (dB p.o.dst)) (some ⟨r.2,[],[],(.lf [])⟩)
def PY(op:BinOp)(_:TypeId)(x y:Operand)(_:TypeId)(T:List TI)(p:uy):Option SX:=oE (JH (ev p.tm x)) (O2 T p) fun u=>oE (JH (ev p.tm y)) (O2 T p) fun v=>Qv T p op u v
def KC(x:Operand)(T:List TI)(p:uy):Option SX:=G1 (and (Kj (ev p.tm x)) (dB p.o.dst)) (some ⟨ev p.tm x,[],[],(.lf [])⟩)
def Ht(t:TypeId)(x:Operand)(T:List TI)(p:uy):Option SX:=KB p x fun v=>OG p (kP T t p.σ v) (BF p.σ v)
def Am(t:TypeId)(x y:Operand)(T:List TI)(p:uy):Option SX:=KB p x fun u=>KB p y fun v=>G1 (and (vn p.σ u v).dec (Option.rec (motive:=fun _=>Bool) true (fun _=>false) p.o.dst)) (oE (iP T t p.σ u v) none fun r=>some ⟨r.v,r.pre,r.δ,(.lf [])⟩)
def My(t:TypeId)(x:Operand)(f:Nat)(T:List TI)(p:uy):Option SX:=KB p x fun v=>OG p (FV T t f v) .tt
def xIdx(t:TypeId)(x y:Operand)(T:List TI)(p:uy):Option SX:=KB p x fun u=>KB p y fun v=>OG p (FX T t p.σ u v) (Jp T t p.σ u v)
def Mz(x:Operand)(T:List TI)(p:uy):Option SX:=oE (pg (ev p.tm x)) (Il T p.tm p.o) fun r=>G1 (and (Kj (ev p.tm x)) (dB p.o.dst)) (some ⟨r.v,r.pre,r.δ,(.lf [])⟩)
def Mx(x:Operand)(i:Nat)(T:List TI)(p:uy):Option SX:=KB p x fun v=>OG p (kO v i) .tt
def KE(op:Op):List TI->uy->Option SX:=Op.rec (motive:=fun _=>List TI->uy->Option SX) KC KC (fun _ _ _=>dZ) (fun _=>dZ) (fun _ _=>dZ) (fun _ _=>dZ) (fun _ _ _=>dZ) (fun _ _ _ _=>dZ) Ht Am (fun _=>dZ) (fun _=>dZ) Mz PY (fun _ _ _=>dZ) (fun _ _ _=>dZ) (fun _ _=>dZ) PZ (fun _ _ _=>dZ) (fun _ _=>dZ) (fun _ _=>dZ) (fun _ _ _=>dZ) (fun _ _ _ _ _=>dZ) My (fun _ _ _=>dZ) xIdx (fun _ _ _=>dZ) (fun _ _ _ _=>dZ) (fun _ _ _ _=>dZ) (fun _ _ _=>dZ) (fun _ _ _ _=>dZ) (fun _ _=>dZ) (fun _ _=>dZ) (fun _=>dZ) (fun _ _ _ _=>dZ) Mx Hs (fun _=>dZ) (fun _=>dZ) (fun _=>dZ) (fun _ _=>dZ) (fun _ _ _=>dZ) (fun _ _=>dZ) op
theorem lG{α β:Type}{o:Option α}{els:Option β}{f:α->Option β}{y:β}(h:oE o els f=some y):(∃a,o=some a/\f a=some y)\/(o=none/\els=some y):=by
 cases o with
 |none=>exact .inr ⟨rfl,h⟩
 |some a=>exact .inl ⟨a,rfl,h⟩
theorem dc{α β:Type}{o:Option α}{f:α->Option β}{y:β}(h:oE o none f=some y):∃a,o=some a/\f a=some y:=by
 rcases lG h with h | ⟨_,h⟩;·exact h
 ·cases h
theorem i5{v:V}(h:Kj v=true):ug v=v:=by cases v <;> first |rfl |cases h
theorem iD{p:uy}{x:Operand}{f:V->Option SX}{y:SX}(h:KB p x f=some y):Kj (ev p.tm x)=true/\f (ev p.tm x)=some y:=dW h
theorem mG{v:V}(h:Kj v=true):rJ [v]=true:=by cases v <;> first |rfl |cases h
theorem zD{u v:V}(h:Kj u=true)(k:Kj v=true):rJ [u,v]=true:=by cases u <;> first |exact mG k |cases h
theorem o5{o:Oper}(h:dB o.dst=true):tK o=true:=by
 unfold dB at h;unfold tK;cases hd:o.dst with
 |none=>rw [hd]at h;cases h
 |some t=>rw [hd]at h;exact h
theorem nM{p:uy}{r:Option SR}{q:PQ}{y:SX}(h:OG p r q=some y):q.dec=true/\dB p.o.dst=true/\∃r',r=some r'/\y=⟨r'.v,r'.pre,r'.δ,.lf []⟩:=by obtain⟨h1,h2⟩:=dW h;simp only [Bool.and_eq_true]at h1;obtain⟨r',h3,h4⟩:=dc h2;injection h4 with h4;exact⟨h1.1,h1.2,r',h3,h4.symm⟩
theorem F9{T:List TI}{t:Nat}{σ:Nat->Option Ob}{v:V}{r:SR}(h:kP T t σ v=some r)(hq:(BF σ v).dec=true):r.c:=by
 have hq:=PQ.ok hq;unfold kP at h;unfold BF at hq;split at h
 ·split at h;·injection h with h;subst h;trivial
  ·cases h
 ·split at h
  ·rename_i hσ;simp only [hσ]at hq;split at h;·injection h with h;subst h;exact hq
   ·cases h
  ·cases h
 ·split at h
  ·rename_i hσ;simp only [hσ]at hq;split at h
   ·split at h;·injection h with h;subst h;exact hq
    ·cases h
   ·cases h
  ·cases h
 ·cases h
theorem DP{T:List TI}{t:Nat}{σ:Nat->Option Ob}{u v:V}{r:SR}(h:iP T t σ u v=some r)(hq:(vn σ u v).dec=true):r.c:=by
 have hq:=PQ.ok hq;unfold iP at h;unfold vn at hq;split at h
 ·rename_i us hus;simp only [hus]at hq;split at h
  ·split at h
   ·rename_i hσ;simp only [hσ]at hq;split at h;·injection h with h;subst h;exact hq
    ·cases h
   ·cases h
  ·split at h
   ·rename_i hσ;simp only [hσ]at hq;split at h;·injection h with h;subst h;exact hq
    ·cases h
   ·cases h
  ·cases h
 ·cases h
theorem LL{T:List TI}{t:Nat}{σ:Nat->Option Ob}{u v:V}{r:SR}(h:FX T t σ u v=some r)(hq:(Jp T t σ u v).dec=true):r.c:=by
 have hq:=PQ.ok hq;unfold FX at h;split at h
 ·rename_i _ i _;unfold m8 at h;split at h
  ·split at h
   ·split at h;·injection h with h;subst h;exact hq
    ·cases h
   ·cases h
  ·split at h
   ·rename_i n el ha;have hq:(Dy T t i).den:=hq;unfold Dy at hq;simp only [ha]at hq;split at h;·injection h with h;subst h;exact hq
    ·cases h
   ·cases h
  ·split at h
   ·rename_i n el ha;have hq:(Dy T t i).den:=hq;unfold Dy at hq;simp only [ha]at hq;split at h;·injection h with h;subst h;exact hq
    ·cases h
   ·cases h
  ·split at h
   ·split at h
    ·rename_i hσ;simp only [Jp,hσ]at hq;split at h;·injection h with h;subst h;exact hq
     ·cases h
    ·cases h
   ·cases h
  ·cases h
 ·cases h
theorem LK{T:List TI}{t f:Nat}{v:V}{r:SR}(h:FV T t f v=some r):r.c:=by
 unfold FV at h;split at h;·split at h <;> first | (injection h with h;subst h;trivial) |cases h
 ·cases h
theorem zw{v:V}{i:Nat}{r:SR}(h:kO v i=some r):r.c:=by
 unfold kO at h;split at h
 ·split at h;·injection h with h;subst h;trivial
  ·cases h
 ·cases h
theorem I0{v:V}{r:SR}(h:pg v=some r):r.c:=by
 unfold pg at h;split at h;·injection h with h;subst h;trivial
 ·cases h
theorem iK{T:List TI}{wr:Bool}{M:List Nat}{nx:Nat}{o:Oper}{e:Operand->V}{σ:Nat->Option Ob}{r:SR}(h:zx T wr M nx o e σ=some r):pq T wr M nx o e σ=some r:=by unfold pq;rw [h]
theorem uo{v:V}{k:IntKind}{n:Int}(h:JH v=some (k,n)):v= .c (.int k n):=by
 unfold JH at h;split at h;·injection h with h;injection h with h1 h2;subst h1 h2;rfl
 ·cases h
theorem Hu{P:Program}{W LB:Nat->Prop}{call:fm}{T:List TI}{M:List Nat}{nx:Nat}{tm:Nat->V}{σ:Nat->Option Ob}{o:Oper}{x:SX}(hT:aL T P)(hcl:cX P call)(hwl:∀b,W b->LB b)(h:KE o.op T ⟨call,M,nx,tm,σ,o⟩=some x)(he:j8 x.e):HE P W LB nx tm σ o x:=by
 obtain⟨d,op,ty,pos,af,gd⟩:=o;have old:∀ {x:SX},dZ T ⟨call,M,nx,tm,σ,⟨d,op,ty,pos,af,gd⟩⟩=some x->j8 x.e->HE P W LB nx tm σ ⟨d,op,ty,pos,af,gd⟩ x:=fun h he=>EZ hT h he;have oldB:∀ {x:SX},O2 T ⟨call,M,nx,tm,σ,⟨d,op,ty,pos,af,gd⟩⟩=some x->j8 x.e->HE P W LB nx tm σ ⟨d,op,ty,pos,af,gd⟩ x:=fun h he=>by
  rcases lG h with⟨y,hy,h⟩ | ⟨_,h⟩;·injection h with h;subst h;exact Dr hT hy
  ·exact EZ hT h he
 cases op;case move y=>
  obtain⟨h1,h2⟩:=dW h
  simp only [Bool.and_eq_true]at h1
  injection h2 with h2;subst h2
  have e1:=i5 h1.1
  have:=kG (W:=W) (LB:=LB) (M:=M) (wr:=false) (nx:=nx) (σ:=σ) (o:=⟨d,.move y,ty,pos,af,gd⟩) (e:= .lf []) hT (by simp only [Bool.and_eq_true];exact⟨o5 (o:=⟨d,.move y,ty,pos,af,gd⟩) h1.2,mG h1.1⟩) (iK rfl) trivial
  simp only [aH,e1]at this
  exact this
 case assign y=>
  obtain⟨h1,h2⟩:=dW h
  simp only [Bool.and_eq_true]at h1
  injection h2 with h2;subst h2
  have e1:=i5 h1.1
  have:=kG (W:=W) (LB:=LB) (M:=M) (wr:=false) (nx:=nx) (σ:=σ) (o:=⟨d,.assign y,ty,pos,af,gd⟩) (e:= .lf []) hT (by simp only [Bool.and_eq_true];exact⟨o5 (o:=⟨d,.assign y,ty,pos,af,gd⟩) h1.2,mG h1.1⟩) (iK rfl) trivial
  simp only [aH,e1]at this
  exact this
 case binOp bo t y z t'=>
  rcases lG h with⟨u,hu,h⟩ | ⟨_,h⟩
  ·rcases lG h with⟨v,hv,h⟩ | ⟨_,h⟩
   ·rcases lG h with⟨r,hr,h⟩ | ⟨_,h⟩;·obtain⟨hk,hr⟩:=dW hr;obtain⟨h1,h2⟩:=dW h;simp only [Bool.and_eq_true]at h1;injection h2 with h2;subst h2;obtain⟨k,a⟩:=u;obtain⟨k',b⟩:=v;have hk:=FZ hk;simp only at hk;subst hk;obtain⟨q,w⟩:=r;obtain⟨c,hc1,hc2⟩:=K0 hr;have eu:=uo hu;have ev':=uo hv;simp only at eu ev';have:=kG (W:=W) (LB:=LB) (M:=M) (wr:=false) (nx:=nx) (σ:=σ) (o:=⟨d,.binOp bo t y z t',ty,pos,af,gd⟩) (tm:=tm) (r:=aH c w) (e:= .lf []) hT (by simp only [Bool.and_eq_true];exact⟨o5 (o:=⟨d,.binOp bo t y z t',ty,pos,af,gd⟩) h1.2,zD (by rw [eu];rfl) (by rw [ev'];rfl)⟩) (iK (by show I2 T false bo t (ug (ev tm y)) (ug (ev tm z))=_;rw [eu,ev'];show I2 T false bo t (.c (.int k a)) (.c (.int k b))=_;unfold I2;rw [hc1])) (hc2 h1.1);exact this
    ·exact oldB h he
   ·exact oldB h he
  ·exact oldB h he
 case load t y=>
  have h:Ht t y T ⟨call,M,nx,tm,σ,⟨d,.load t y,ty,pos,af,gd⟩⟩=some x:=h
  unfold Ht at h
  obtain⟨h1,h2⟩:=iD h
  obtain⟨h3,h4,r,h5,rfl⟩:=nM h2
  exact kG (W:=W) (LB:=LB) (M:=M) (wr:=false) hT (by simp only [Bool.and_eq_true];exact⟨o5 h4,mG h1⟩) (iK (by show kP T t σ (ug (ev tm y))=_;rw [i5 h1];exact h5)) (F9 h5 h3)
 case store t y z=>
  have h:Am t y z T ⟨call,M,nx,tm,σ,⟨d,.store t y z,ty,pos,af,gd⟩⟩=some x:=h
  unfold Am at h
  obtain⟨h1,h2⟩:=iD h
  obtain⟨k1,k2⟩:=iD h2
  obtain⟨h3,h4⟩:=dW k2
  simp only [Bool.and_eq_true]at h3
  obtain⟨r,h5,h6⟩:=dc h4
  injection h6 with h6;subst h6
  have hd:d=none:=by
   cases d with
   |none=>rfl
   |some t=>exact absurd h3.2 (by simp)
  subst hd
  exact kG (W:=W) (LB:=LB) (M:=M) (wr:=false) hT (by simp only [Bool.and_eq_true];exact⟨rfl,zD h1 k1⟩) (iK (by show iP T t σ (ug (ev tm y)) (ug (ev tm z))=_;rw [i5 h1,i5 k1];exact h5)) (DP h5 h3.1)
 case fieldAddr t y f=>
  have h:My t y f T ⟨call,M,nx,tm,σ,⟨d,.fieldAddr t y f,ty,pos,af,gd⟩⟩=some x:=h
  unfold My at h
  obtain⟨h1,h2⟩:=iD h
  obtain⟨h3,h4,r,h5,rfl⟩:=nM h2
  exact kG (W:=W) (LB:=LB) (M:=M) (wr:=false) hT (by simp only [Bool.and_eq_true];exact⟨o5 h4,mG h1⟩) (iK (by show FV T t f (ug (ev tm y))=_;rw [i5 h1];exact h5)) (LK h5)
 case indexAddr t y z=>
  have h:xIdx t y z T ⟨call,M,nx,tm,σ,⟨d,.indexAddr t y z,ty,pos,af,gd⟩⟩=some x:=h
  unfold xIdx at h
  obtain⟨h1,h2⟩:=iD h
  obtain⟨k1,k2⟩:=iD h2
  obtain⟨h3,h4,r,h5,rfl⟩:=nM k2
  exact kG (W:=W) (LB:=LB) (M:=M) (wr:=false) hT (by simp only [Bool.and_eq_true];exact⟨o5 h4,zD h1 k1⟩) (iK (by show FX T t σ (ug (ev tm y)) (ug (ev tm z))=_;rw [i5 h1,i5 k1];exact h5)) (LL h5 h3)
 case nilCheck y=>
  have h:Mz y T ⟨call,M,nx,tm,σ,⟨d,.nilCheck y,ty,pos,af,gd⟩⟩=some x:=h
  unfold Mz at h
  rcases lG h with⟨r,h5,h⟩ | ⟨_,h⟩
  ·obtain⟨h1,h2⟩:=dW h;simp only [Bool.and_eq_true]at h1;injection h2 with h2;subst h2;have h5:pg (ev tm y)=some r:=h5;exact kG (W:=W) (LB:=LB) (M:=M) (wr:=false) hT (by simp only [Bool.and_eq_true];exact⟨o5 h1.2,mG h1.1⟩) (by unfold pq;show(match vh T ⟨d,.nilCheck y,ty,pos,af,gd⟩ (fun x=>ug (ev tm x)) σ with |some r=>some r |none=>_)=_;rw [show vh T ⟨d,.nilCheck y,ty,pos,af,gd⟩ (fun x=>ug (ev tm x)) σ=some r from by show pg (ug (ev tm y))=_;rw [i5 h1.1];exact h5]) (I0 h5)
  ·exact A3 hT h
 case extract y i=>
  have h:Mx y i T ⟨call,M,nx,tm,σ,⟨d,.extract y i,ty,pos,af,gd⟩⟩=some x:=h
  unfold Mx at h
  obtain⟨h1,h2⟩:=iD h
  obtain⟨h3,h4,r,h5,rfl⟩:=nM h2
  exact kG (W:=W) (LB:=LB) (M:=M) (wr:=false) hT (by simp only [Bool.and_eq_true];exact⟨o5 h4,mG h1⟩) (iK (by show kO (ug (ev tm y)) i=_;rw [i5 h1];exact h5)) (zw h5)
 case makeInterface t y=>exact A3 hT h
 case call c=>
  have h:Hs c T ⟨call,M,nx,tm,σ,⟨d,.call c,ty,pos,af,gd⟩⟩=some x:=h
  unfold Hs at h
  split at h
  ·exact EP hcl hwl (by assumption) h he
  ·split at h;·exact EY hcl hwl (by assumption) h he
   ·exact old h he
 all_goals exact old h he
def y4(a b:CT):CT:=match a with
 | .lf l=>match l with
  | []=>b
  |x::l=> .nd (.lf (x::l)) b
 | .nd c d=> .nd (.nd c d) b
theorem mw{a b:CT}(h:j8 (y4 a b)):j8 a/\j8 b:=by
 unfold y4 at h;split at h
 ·split at h;·exact⟨(fun p hp=>nomatch hp),h⟩
  ·exact h
 ·exact h
abbrev KS:Type:=List (List Nat×List Nat)
abbrev RK:Type:=CS->KS->Option (CS×KS×CT)
def PI(call:fm)(T:List TI)(M:List Nat)(o:Oper)(ih:RK)(s:CS)(ks:KS):Option (CS×KS×CT):= oE (KE o.op T ⟨call,M,s.nx,s.tr.get,fH s.sl,o⟩) none fun x=>oE (ih ⟨NR s.tr o.dst x.v,BE s.sl x.δ,s.nx⟩ ((aR x.δ,dJ x.pre++aR x.δ)::ks)) none fun r=>some (r.1,r.2.1,y4 x.e r.2.2)
def GO(call:fm)(T:List TI)(M:List Nat)(ol:List Oper)(o:Oper)(ih:RK)(s:CS)(ks:KS):Option (CS×KS×CT):=match o.guard with
 |none=>PI call T M o ih s ks
 |some _=>match eH (ol.map (·.dst)) s.tr.get o with
  |some (some g)=>match g with
   |true=>PI call T M o ih s ks
   |false=>match o.dst with
    |some t=>match Nat.ble t 999 with
     |true=>ih ⟨TR.put 10 s.tr t (.gd false (.b false)),s.sl,s.nx⟩ (([],[])::ks)
     |false=>none
    |none=>none
  |_=>none
def s8(call:fm)(T:List TI)(M:List Nat)(ol:List Oper)(os:List Oper):RK:=List.rec (motive:=fun _=>RK) (fun s ks=>some (s,ks,.lf [])) (fun o _ ih=>GO call T M ol o ih) os
theorem GN(call:fm)(T:List TI)(M:List Nat)(ol:List Oper)(s:CS)(ks:KS):s8 call T M ol [] s ks=some (s,ks,.lf []):=rfl
theorem Dz(call:fm)(T:List TI)(M:List Nat)(ol:List Oper)(o:Oper)(os:List Oper)(s:CS)(ks:KS):s8 call T M ol (o::os) s ks=GO call T M ol o (s8 call T M ol os) s ks:=rfl
theorem fQ{P:Program}{N:Nat}{C:Cx P N}{T:List TI}{M:List Nat}{call:fm}(hT:aL T P)(hcl:cX P call){ol:List Oper}{K:(Nat->V)->(Nat->Option Ob)->List (List Nat×List Nat)->Prop} : ∀ {os:List Oper}{s:CS}{ks:List (List Nat×List Nat)}{s':CS}{ks':List (List Nat×List Nat)}{e:CT},s8 call T M ol os s ks=some (s',ks',e)->j8 e->s'.nx=s.nx/\(K s'.tr.get (fH s'.sl) ks'.reverse->bD C ol.toArray s.nx os s.tr.get (fH s.sl) ks.reverse K)
 | [],s,ks,s',ks',e,h,he=>by simp only [GN,Option.some.injEq,Prod.mk.injEq]at h;obtain⟨rfl,rfl,rfl⟩:=h;exact⟨rfl,id⟩
 |o::os,s,ks,s',ks',e,h,he=>by
  have run:dA ol.toArray s.tr.get o=some true->PI call T M o (s8 call T M ol os) s ks=some (s',ks',e)->s'.nx=s.nx/\(K s'.tr.get (fH s'.sl) ks'.reverse->bD C ol.toArray s.nx (o::os) s.tr.get (fH s.sl) ks.reverse K):=by intro hw h;obtain⟨x,hx,h⟩:=dc h;obtain⟨r,h1,h⟩:=dc h;obtain⟨s1,ks1,e1⟩:=r;simp only [Option.some.injEq,Prod.mk.injEq]at h;obtain⟨rfl,rfl,rfl⟩:=h;have he:=mw he;obtain⟨nw,q1,q2,q3,q4⟩:=Hu (W:=C.W) (LB:=C.LB) hT hcl C.wl hx he.1;obtain⟨r1,r2⟩:=fQ hT hcl (C:=C) (K:=K) h1 he.2;refine⟨r1,fun hk=>⟨⟨true,x.v,x.pre,nw,x.δ⟩,⟨hw,fun _=>⟨q1,q2,q3⟩,by simp⟩,?_⟩⟩;have:=r2 hk;rw [GI q4,xz,List.reverse_cons]at this;exact this
  rw [Dz]at h;unfold GO at h;split at h;·rename_i hg;exact run (by unfold dA;rw [hg]) h
  ·rename_i gd' hg;split at h
   ·rename_i g hgv;have hw:=fX (ops:=ol.toArray) (r:=some g) (by simpa using hgv);split at h;·exact run hw h
    ·split at h
     ·rename_i t ht;split at h;·rename_i hlt;obtain⟨r1,r2⟩:=fQ hT hcl (C:=C) (K:=K) h he;refine⟨r1,fun hk=> ?_⟩;have:=r2 hk;rw [TR.jL (Nat.lt_succ_of_le (Nat.le_of_ble_eq_true hlt)),List.reverse_cons]at this;exact je (by simpa using hgv) ht this
      ·cases h
     ·cases h
   ·cases h
def NO(ops:List Oper):Bool:=
 decide ((ops.filterMap (·.dst)).Nodup) &&
 (List.range ops.length).all (fun i=>match ops[i]? with
  |some o=>(cy o).all (· < i) &&
   (List.range ops.length).all (fun j=>j == i || match ((ops.map (·.dst))[j]?).bind id with
    |some t=> !(looks (ops.map (·.dst)) o).contains t || (cy o).contains j || (reach ops ops.length [j]).contains i
    |none=>true)
  |none=>true)
def OX(ks:KS):Bool:=ks.all fun p=>p.1.isEmpty
def Jk(ops:List Oper)(ks:KS):Bool:=NO ops && (OX ks || fe ops ks.reverse)
theorem Br{ops:List Oper}{kr:KS}(h:Jk ops kr=true):fe ops kr.reverse=true:=by
 simp only [Jk,Bool.and_eq_true,Bool.or_eq_true]at h;have hm:OX kr=true->OX kr.reverse=true:=fun h=>by simpa [OX]using h
 generalize kr.reverse=ks at h hm ⊢;obtain⟨h1,h2 |h2⟩:=h
 ·simp only [NO,Bool.and_eq_true]at h1;obtain⟨h3,h4⟩:=h1;simp only [fe,Bool.and_eq_true];refine⟨h3,List.all_eq_true.2 fun i hi=> ?_⟩;have h5:=List.all_eq_true.1 h4 i hi;have h2:=hm h2;have hw:∀(j:Nat) (w f:List Nat),ks[j]?=some (w,f)->w=[]:=fun j w f hj=>by have:=List.all_eq_true.1 h2 _ (List.mem_of_getElem? hj);simpa using this
  cases ho:ops[i]? with
  |none=>rfl
  |some o=>
   rw [ho]at h5;simp only [Bool.and_eq_true]at h5 ⊢;refine⟨h5,?_⟩;cases hk:ks[i]? with
   |none=>rfl
   |some p=>
    obtain⟨wi,fi⟩:=p;simp only [Bool.or_eq_true];refine .inr (List.all_eq_true.2 fun j hj=> ?_);cases hkj:ks[j]? with
    |none=>rfl
    |some q=>obtain⟨wj,fj⟩:=q;have e1:=hw i wi fi hk;have e2:=hw j wj fj hkj;subst e1 e2;simp
 ·exact h2
inductive CC where
  |code (c:Code) (k:List Fr) (s:CS)
  |ops (ol:List Oper) (dr:Bool) (rest:List Oper) (s:CS) (ks:List (List Nat×List Nat)) (k:List Fr)
  |done (e:Exit) (k:List Fr) (s:CS)
def CC.den:CC->vR
 | .code c k s=> .code c k s.den
 | .ops ol dr rest s ks k=> .ops ol dr rest s.tr.get (fH s.sl) s.nx ks k
 | .done e k s=> .done e k s.den
def c0:CT:= .lf []
abbrev MR:Type:=Operand->Array Tmp->Code->Code->CS->Option (Exit×CS×CT)
def AD{P:Program}{N:Nat}(C:Cx P N)(rng:MR):Prop:=∀g ps as0 bd s e s' t,rng g ps as0 bd s=some (e,s',t)->j8 t->∀Q:Exit->S->Prop,Q e s'.den->AW C (.rangeFunc g ps as0 bd) Q s.den
def Mc:MR:=fun _ _ _ _ _=>none
theorem BK{P:Program}{N:Nat}{C:Cx P N}:AD C Mc:=fun _ _ _ _ _ _ _ _ h=>by cases h
abbrev EK:Type:=CS->Option (Exit×CS×CT)
def Lz:Exit->Bool
 | .normal=>true
 |_=>false
theorem LA{e:Exit}(h:Lz e=true):e= .normal:=by cases e <;> first |rfl |cases h
theorem FR{e:Exit}(h:Lz e=false):e≠ .normal:=by intro he;subst he;cases h
def Hi:V->Option Bool
 | .c (.bool t)=>some t
 |_=>none
theorem Hj{v:V}{t:Bool}(h:Hi v=some t):v= .b t:=by
 unfold Hi at h;split at h;·injection h with h;subst h;rfl
 ·cases h
def Nb(t:CT)(q:Exit×CS×CT):Option (Exit×CS×CT):=some (q.1,q.2.1,y4 t q.2.2)
def wP(b:EK)(r:Exit×CS×CT):Option (Exit×CS×CT):=Bool.rec (motive:=fun _=>Option (Exit×CS×CT)) (some r) (oE (b r.2.1) none (Nb r.2.2)) (Lz r.1)
def Ng(a b:EK):EK:=fun s=>oE (a s) none (wP b)
def Na(c:Operand)(a b:EK):EK:=fun s=>oE (Hi (ev s.tr.get c)) none fun t=>Bool.rec (motive:=fun _=>Option (Exit×CS×CT)) (b s) (a s) t
def M6(id:Nat):Exit->Exit
 | .exit id'=>match Nat.beq id' id with
  |true=> .normal
  |false=> .exit id'
 |e=>e
def La(id:Nat)(a:EK):EK:=fun s=>oE (a s) none fun r=>some (M6 id r.1,r.2)
def Bm(a:EK)(k:Nat):EK:=Nat.rec (motive:=fun _=>EK) a (fun _ ih s=>oE (ih s) none (wP ih)) k
def Nc(a:EK):EK:=fun s=>oE (Bm a 30 s) none fun r=>Bool.rec (motive:=fun _=>Option (Exit×CS×CT)) (some r) none (Lz r.1)
def NG:Exit->Bool
 | .goto _=>false
 |_=>true
def Lb(a:EK):EK:=fun s=>oE (a s) none fun r=>G1 (NG r.1) (some r)
def Ip(e:Exit):EK:=fun s=>some (e,s,c0)
def Nf(dr:Bool)(ol:List Oper)(r:CS×KS×CT):Option (Exit×CS×CT):=G1 (Bool.rec (motive:=fun _=>Bool) true (Jk ol r.2.1) dr) (some (.normal,⟨r.1.tr,r.1.sl,r.1.nx+1⟩,r.2.2))
def Nd(call:fm)(T:List TI)(M mu:List Nat)(N:Nat)(ops:Array Oper)(dr:Bool):EK:=fun s=>G1 (gH N ops.toList) (oE (s8 call T M ops.toList ops.toList (pS mu s ops.toList) []) none (Nf dr ops.toList))
def J9:EK:=fun _=>none
def wV(call:fm)(rng:MR)(T:List TI)(M mu:List Nat)(N:Nat)(c:Code):EK:=Code.rec (motive:=fun _=>EK) (Ip .normal) (fun _ ops dr=>Nd call T M mu N ops dr) (fun _ _ a b=>Ng a b) (fun c _ _ a b=>Na c a b) (fun id _ a=>La id a) (fun _ a=>Nc a) (fun f ps as0 bd _ _=>rng f ps as0 bd) (fun id=>Ip (.exit id)) (fun _ a=>Lb a) (fun _=>Ip .normal) (fun _=>J9) (Ip .ret) (fun _=>J9) c
section
variable {P:Program}{N:Nat}{C:Cx P N}{T:List TI}{M mu:List Nat}{call:fm}{rng:MR}
def CK(C:Cx P N)(c:Code)(f:EK):Prop:=∀s e s' t,f s=some (e,s',t)->j8 t->∀Q:Exit->S->Prop,Q e s'.den->AW C c Q s.den
theorem qU{b:EK}{r q:Exit×CS×CT}(h:wP b r=some q):(Lz r.1=false/\q=r)\/(r.1= .normal/\∃p,b r.2.1=some p/\q=(p.1,p.2.1,y4 r.2.2 p.2.2)):=by
 unfold wP at h;cases hn:Lz r.1 with
 |false=>rw [hn]at h;injection h with h;exact .inl ⟨rfl,h.symm⟩
 |true=>rw [hn]at h;obtain⟨p,hp,h⟩:=dc h;injection h with h;exact .inr ⟨LA hn,p,hp,h.symm⟩
theorem Ir{x y:Code}{a b:EK}(ha:CK C x a)(hb:CK C y b):CK C (.seq x y) (Ng a b):=by
 intro s e s' t h he Q hQ;obtain⟨r,hr,h⟩:=dc h;obtain⟨e1,s1,t1⟩:=r;rcases qU h with⟨h1,h2⟩ | ⟨h1,p,hp,h2⟩;·simp only [Prod.mk.injEq]at h2;obtain⟨rfl,rfl,rfl⟩:=h2;refine yT (ha _ _ _ _ hr he _ ?_);have:=FR h1;cases e <;> first |exact absurd rfl this |exact hQ
 ·simp only at h1 hp;subst h1;obtain⟨e2,s2,t2⟩:=p;simp only [Prod.mk.injEq]at h2;obtain⟨rfl,rfl,rfl⟩:=h2;have he:=mw he;exact yT (ha _ _ _ _ hr he.1 _ (hb _ _ _ _ hp he.2 _ hQ))
theorem ng{c:Code}{a:EK}(ha:CK C c a){Q:Exit->S->Prop}:∀(k:Nat) (s:CS) (e:Exit) (s':CS) (t:CT),Bm a k s=some (e,s',t)->j8 t->(e= .normal->∀m,JT C c Q m s'.den->∃m',JT C c Q m' s.den)/\(e≠ .normal->Q e s'.den->∃m',JT C c Q m' s.den)
 |0,s,e,s',t,h,he=>by
  have h:a s=some (e,s',t):=h;refine⟨fun hn m hm=>⟨m+1,?_⟩,fun hn hq=>⟨1,?_⟩⟩;·subst hn;exact ha _ _ _ _ h he _ hm
  ·refine ha _ _ _ _ h he _ ?_;cases e <;> first |exact absurd rfl hn |exact hq
 |k+1,s,e,s',t,h,he=>by
  have h:oE (Bm a k s) none (wP (Bm a k))=some (e,s',t):=h;obtain⟨r,hr,h⟩:=dc h;obtain⟨e1,s1,t1⟩:=r;rcases qU h with⟨h1,h2⟩ | ⟨h1,p,hp,h2⟩;·simp only [Prod.mk.injEq]at h2;obtain⟨rfl,rfl,rfl⟩:=h2;exact ng ha k _ _ _ _ hr he
  ·simp only at h1 hp;subst h1;obtain⟨e2,s2,t2⟩:=p;simp only [Prod.mk.injEq]at h2;obtain⟨rfl,rfl,rfl⟩:=h2;have he:=mw he;have q1:=ng (Q:=Q) ha k _ _ _ _ hr he.1;have q2:=ng (Q:=Q) ha k _ _ _ _ hp he.2;refine⟨fun hn m hm=> ?_,fun hn hq=> ?_⟩;·obtain⟨m1,h3⟩:=q2.1 hn m hm;exact q1.1 rfl m1 h3
   ·obtain⟨m1,h3⟩:=q2.2 hn hq;exact q1.1 rfl m1 h3
theorem Iq(hT:aL T P)(hcl:cX P call){id:Nat}{ops:Array Oper}{dr:Bool}:CK C (.region id ops dr) (Nd call T M mu N ops dr):=by
 intro s e s' t h he Q hQ;obtain⟨hok,h⟩:=dW h;obtain⟨r,hr,h⟩:=dc h;obtain⟨s1,ks,t1⟩:=r;obtain⟨hd,h⟩:=dW h;simp only [Option.some.injEq,Prod.mk.injEq]at h;obtain⟨rfl,rfl,rfl⟩:=h;have e0:ops=ops.toList.toArray:=by simp
 refine oV (uZ mu s ops.toList) ?_;cases dr with
 |false=>rw [e0];obtain⟨q1,q2⟩:=fQ hT hcl (C:=C) (K:=fun tm' σ' _=>Q .normal ⟨tm',σ',(pS mu s ops.toList).nx+1⟩) (by simpa using hr) he;refine nW (s:=(pS mu s ops.toList).den) (by simpa using hok) (q2 ?_);have hk':Q .normal ⟨s1.tr.get,fH s1.sl,s1.nx+1⟩:=hQ;rw [q1]at hk';exact hk'
 |true=>rw [e0];obtain⟨q1,q2⟩:=fQ hT hcl (C:=C) (K:=fun tm' σ' ks'=>fe ops.toList ks'=true/\Q .normal ⟨tm',σ',(pS mu s ops.toList).nx+1⟩) (by simpa using hr) he;refine mj (s:=(pS mu s ops.toList).den) (by simpa using hok) (q2 ⟨Br hd,?_⟩);have hk':Q .normal ⟨s1.tr.get,fH s1.sl,s1.nx+1⟩:=hQ;rw [q1]at hk';exact hk'
theorem mX(hT:aL T P)(hcl:cX P call)(hrg:AD C rng)(c:Code):CK C c (wV call rng T M mu N c):=by
 induction c with
 |skip=>intro s e s' t h he Q hQ;injection h with h;simp only [Prod.mk.injEq]at h;obtain⟨rfl,rfl,rfl⟩:=h;exact ak hQ
 |region id ops dr=>exact Iq hT hcl
 |seq a b iha ihb=>exact Ir iha ihb
 |cond c a b iha ihb=>
  intro s e s' t h he Q hQ;obtain⟨tt,ht,h⟩:=dc h;have ht:=Hj ht;cases tt with
  |true=>exact mT ht (fun _=>iha _ _ _ _ h he Q hQ) fun h=>by cases h
  |false=>exact mT ht (fun h=>by cases h) fun _=>ihb _ _ _ _ h he Q hQ
 |block id a iha=>
  intro s e s' t h he Q hQ;obtain⟨r,hr,h⟩:=dc h;obtain⟨e1,s1,t1⟩:=r;simp only [Option.some.injEq,Prod.mk.injEq]at h;obtain⟨rfl,rfl,rfl⟩:=h;refine au (iha _ _ _ _ hr he _ ?_);cases e1 with
  |exit id'=>
   simp only [M6]at hQ;split at hQ;·rename_i hb;have hb:=Nat.eq_of_beq_eq_true hb;subst hb;exact bC hQ
   ·rename_i hb;exact Hv (by simpa using Nat.ne_of_beq_eq_false hb) hQ
  |_=>exact hQ
 |loop a iha=>
  intro s e s' t h he Q hQ;obtain⟨r,hr,h⟩:=dc h;obtain⟨e1,s1,t1⟩:=r;cases hn:Lz e1 with
  |true=>simp only [hn]at h;cases h
  |false=>simp only [hn,Option.some.injEq,Prod.mk.injEq]at h;obtain⟨rfl,rfl,rfl⟩:=h;obtain⟨m,hm⟩:=(ng iha 30 _ _ _ _ hr he).2 (FR hn) hQ;exact lz m hm
 |rangeFunc f ps as0 bd _ _=>intro s e s' t h he Q hQ;exact hrg _ _ _ _ _ _ _ _ h he Q hQ
 |exit id=>intro s e s' t h he Q hQ;injection h with h;simp only [Prod.mk.injEq]at h;obtain⟨rfl,rfl,rfl⟩:=h;exact bg hQ
 |scope a iha=>intro s e s' t h he Q hQ;obtain⟨r,hr,h⟩:=dc h;obtain⟨e1,s1,t1⟩:=r;obtain⟨hg,h⟩:=dW h;simp only [Option.some.injEq,Prod.mk.injEq]at h;obtain⟨rfl,rfl,rfl⟩:=h;refine wv (iha _ _ _ _ hr he _ ?_);cases e1 <;> first |exact hQ |cases hg
 |label l=>intro s e s' t h he Q hQ;injection h with h;simp only [Prod.mk.injEq]at h;obtain⟨rfl,rfl,rfl⟩:=h;exact wq hQ
 |goto l=>intro s e s' t h;cases h
 |ret=>intro s e s' t h he Q hQ;injection h with h;simp only [Prod.mk.injEq]at h;obtain⟨rfl,rfl,rfl⟩:=h;exact ay hQ
 |refuse w=>intro s e s' t h;cases h
end
def Lv:List (Nat×V)->List Nat
 | []=>[]
 |p::l=>p.2.ids++Lv l
def FQ(nl:List Nat)(i:Nat):Nat:=match jF nl i with
 |true=>xe nl i
 |false=>i
def fJ:Nat->List Nat->List (Nat×Nat)
 |_,[]=>[]
 |j,k::l=>(j,k)::fJ (j+1) l
def jm(g:Nat->Nat):List (Nat×V)->List (Nat×V)
 | []=>[]
 |p::l=>(p.1,p.2.bx g)::jm g l
def vals:List (Nat×V)->List V
 | []=>[]
 |p::l=>p.2::vals l
theorem qc{α:Type}{p:α->Prop}:∀ {l:List α},(∀x∈l,p x)->lQ p l
 | [],_=> .nil
 |x::l,h=> .cons (h x (by simp)) (qc fun y hy=>h y (by simp [hy]))
theorem qt:∀ {os:List (Option Ob)}{k:Nat}{p:Nat×Ob},p∈j3 k os->∃i,p.1=k+i/\os[i]?=some (some p.2)
 | [],_,_,h=>by simp [j3]at h
 |none::os,k,p,h=>by obtain⟨i,h1,h2⟩:=qt (os:=os) h;exact⟨i+1,by omega,by simpa using h2⟩
 |some o::os,k,p,h=>by
  rcases List.mem_cons.1 h with rfl |h;·exact⟨0,rfl,rfl⟩
  ·obtain⟨i,h1,h2⟩:=qt (os:=os) h;exact⟨i+1,by omega,by simpa using h2⟩
theorem lF:∀ {nl:List Nat}{j i:Nat}{k:Nat},nl[i]?=some k->(fJ j nl).find? (·.1 == j+i)=some (j+i,k)
 |a::nl,j,0,k,h=>by simp at h;subst h;simp [fJ]
 |a::nl,j,i+1,k,h=>by
  have:=lF (j:=j+1) (i:=i) (nl:=nl) (by simpa using h);rw [fJ,List.find?_cons];have e:((j,a).1 == j+(i+1))=false:=by simp
  rw [e,show j+(i+1)=j+1+i by omega];exact this
theorem tZ:∀ {nl:List Nat}{j m:Nat},j+nl.length<=m->(fJ j nl).find? (·.1 == m)=none
 | [],_,_,_=>rfl
 |a::nl,j,m,h=>by
  simp only [List.length_cons]at h;rw [fJ,List.find?_cons];have e:((j,a).1 == m)=false:=by simp only [beq_eq_false_iff_ne];omega
  rw [e];exact tZ oM
theorem rR{g gi:Nat->Nat}{tm:Nat->V}:∀ {tl:List (Nat×V)},(∀p∈tl,tm p.1=p.2)->vals tl=V.aV g (vals (jm gi tl))->lQ (fun p=>tm p.1=p.2.bx g) (jm gi tl)
 | [],_,_=> .nil
 |p::tl,h,e=>by simp only [vals,jm,V.aV,List.cons.injEq]at e;exact .cons ((h p (by simp)).trans e.1) (rR (fun q hq=>h q (by simp [hq])) e.2)
end
end Go.Ab

namespace Go.Ab
open Go.RowKit Go.Dw Go.Shelf
structure OL(P:Program)(es:List (List V)) where
  l:Nat
  J:Nat->Bool->(Nat->Prop)->World->Prop
  L0:Nat->Prop
  B:Nat
  hY:∀k x A W1,k< es.length->O4 es k x W1->(∀b,A b->B<=b/\b< W1.heap.size)->B<=W1.heap.size->J k true A W1->YieldAt Fence.wide 0 P l x W1 fun e W2=>∃b:Bool,e= .returned (.bool b)/\aZ (fun i=>¬A i/\¬L0 i) W1 W2/\(b=true->J (k+1) true A W2)/\(b=false->J k false A W2)
  hJ:∀k g A W1 W2,J k g A W1->(∀b,A b->B<=b/\b< W1.heap.size)->B<=W1.heap.size->aZ A W1 W2->J k g (fun b=>A b\/(W1.heap.size<=b/\b< W2.heap.size)) W2
  hL:∀b,L0 b->b< B
structure O5{P:Program}{N:Nat}{es:List (List V)}(C:Cx P N)(Y:OL P es)(A:Nat->Prop)(w:World):Prop where
  F:C.F=Fence.wide
  d:C.dfs=o6
  W:∀b,C.W b<->A b\/w.heap.size<=b
  LB:∀b,C.LB b->Y.L0 b\/A b\/w.heap.size<=b
  A:∀b,A b->Y.B<=b/\b< w.heap.size
  B:Y.B<=w.heap.size
section
variable {P:Program}{N:Nat}{es:List (List V)}{Y:OL P es}{Q:Exit->S->Nat->Bool->Prop}{s:S}{k:Nat}{g:Bool}
theorem O5.later{C:Cx P N}{A:Nat->Prop}{w w':World}(h:O5 C Y A w)(t:aZ C.W w w'):O5 C Y (fun b=>A b\/(w.heap.size<=b/\b< w'.heap.size)) w'/\aZ A w w':=by
 have hs:=t.size;refine⟨⟨h.F,h.d,fun b=>(h.W b).trans ?_,fun b hb=> ?_,fun b hb=> ?_,Nat.le_trans h.B hs⟩,t.mono fun j hj hW=>by rcases(h.W j).1 hW with h |h;exact h;omega⟩
 ·constructor
  ·rintro(h |h);·exact .inl (.inl h)
   ·by_cases hb:b< w'.heap.size;·exact .inl (.inr ⟨h,hb⟩)
    ·exact .inr oM
  ·rintro((h |h) |h);·exact .inl h
   ·exact .inr h.1
   ·exact .inr oM
 ·rcases h.LB b hb with h |h |h;·exact .inl h
  ·exact .inr (.inl (.inl h))
  ·by_cases hb:b< w'.heap.size;·exact .inr (.inl (.inr ⟨h,hb⟩))
   ·exact .inr (.inr oM)
 ·rcases hb with hb |hb;·exact⟨(h.A b hb).1,Nat.lt_of_lt_of_le (h.A b hb).2 hs⟩
  ·exact⟨Nat.le_trans h.B hb.1,hb.2⟩
end
noncomputable section
section
variable {P:Program}(N:Nat){es:List (List V)}(Y:OL P es) (Q:Exit->S->Nat->Bool->Prop)
end
structure JX where
  g:CC
  y:Option (List V)
  side:Option CC
  e:CT
def Kh(tm:Nat->V)(ys:List Nat):Operand->Bool
 | .tmp t=>match jF ys t with
  |true=>true
  |false=>match tm t with
   | .c (.func (.yield _) _ _)=>true
   |_=>false
 |_=>false
def Hw(tm:Nat->V):List Nat->List Oper->Option Nat
  |_,[]=>none
  |ys,o::os=>match o.op with
    | .call c=>match c.callee with
      | .value fo=>match Kh tm ys fo with
        |true=>some 0
        |false=>match Hw tm ys os with
          |some n=>some (n+1)
          |none=>none
      |_=>match Hw tm ys os with
        |some n=>some (n+1)
        |none=>none
    | .move x=>match Hw tm (match Kh tm ys x with
        |true=>o.dst.getD 0::ys
        |false=>ys) os with
      |some n=>some (n+1)
      |none=>none
    |_=>match Hw tm ys os with
      |some n=>some (n+1)
      |none=>none
def OH(tm:Nat->V)(o:Oper):Option (V×List V):=match o.op with
 | .call c=>match c.callee with
  | .value fo=>match V.bw (c.args.toList.map (fun x=>ug (ev tm x))) && ((fo::c.args.toList).all fun x=>PU (ev tm x))with
   |true=>some (ug (ev tm fo),c.args.toList.map (fun x=>ug (ev tm x)))
   |false=>none
  |_=>none
 |_=>none
def Qm(gOk:Bool)(ol:List Oper)(tm:Nat->V)(o:Oper):Bool:=match o.guard with
 |none=>(opsV tm o).all fun v=>match v with
  | .gd _ _=>false
  |_=>true
 |some _=>match gOk with
  |false=>false
  |true=>match eH (ol.map (·.dst)) tm o with
   |some (some g)=>g
   |_=>false
def LD(gOk:Bool)(call:fm)(T:List TI)(M:List Nat)(l:Nat)(ol:List Oper)(k:List Fr)(s:CS)(n:Nat):Option JX:=
 match ol[n]? with
  |some o=>match o.dst with
   |some d=>match decide (d< 1000)with
    |true=>match s8 call T M ol (ol.take n) s []with
     |some (s1,_,e1)=>match Qm gOk ol s1.tr.get o with
      |true=>match OH s1.tr.get o with
       |some (fv,as0)=>match s8 call T M ol (ol.drop (n+1)) ⟨TR.put 10 s1.tr d (.b true),s1.sl,s1.nx⟩ []with
        |some (s2,_,e2)=>match s8 call T M ol (ol.drop (n+1)) ⟨TR.put 10 s1.tr d (.b false),s1.sl,s1.nx⟩ []with
         |some (s3,_,e3)=>some ⟨.done .normal k ⟨s2.tr,s2.sl,s2.nx+1⟩,some as0,some (.done .normal k ⟨s3.tr,s3.sl,s3.nx+1⟩),.nd (.lf [(.vs [fv],.vs [.c (.func (.yield l) #[] #[])])]) (.nd e1 (.nd e2 e3))⟩
         |none=>none
        |none=>none
       |none=>none
      |false=>none
     |none=>none
    |false=>none
   |none=>none
  |none=>none
def IY(gOk:Bool)(call:fm)(T:List TI)(M mu:List Nat)(N l:Nat):CC->Option JX
 | .done e k s=>match k with
  | []=>none
  | .c y::k=>match e with
   | .normal=>some ⟨.code y k s,none,none,c0⟩
   |e=>some ⟨.done e k s,none,none,c0⟩
  | .b id::k=>match e with
   | .exit id'=>match Nat.beq id' id with
    |true=>some ⟨.done .normal k s,none,none,c0⟩
    |false=>some ⟨.done (.exit id') k s,none,none,c0⟩
   |e=>some ⟨.done e k s,none,none,c0⟩
  | .l y m::k=>match e with
   | .normal=>match m with
    |0=>none
    |m+1=>some ⟨.code y (.l y m::k) s,none,none,c0⟩
   |e=>some ⟨.done e k s,none,none,c0⟩
  | .s::_=>none
 | .code c k s=>match c with
  | .skip=>some ⟨.done .normal k s,none,none,c0⟩
  | .exit id=>some ⟨.done (.exit id) k s,none,none,c0⟩
  | .ret=>some ⟨.done .ret k s,none,none,c0⟩
  | .seq x y=>some ⟨.code x (.c y::k) s,none,none,c0⟩
  | .block id x=>some ⟨.code x (.b id::k) s,none,none,c0⟩
  | .loop x=>some ⟨.code x (.l x 1000000::k) s,none,none,c0⟩
  | .cond c x y=>match ev s.tr.get c with
   | .c (.bool t)=>match t with
    |true=>some ⟨.code x k s,none,none,c0⟩
    |false=>some ⟨.code y k s,none,none,c0⟩
   |_=>none
  | .region _ ops dr=>match gH N ops.toList with
   |true=>match s8 call T M ops.toList ops.toList (pS mu s ops.toList) []with
    |some (s',ks,e)=>match dr with
     |false=>some ⟨.done .normal k ⟨s'.tr,s'.sl,s'.nx+1⟩,none,none,e⟩
     |true=>match Jk ops.toList ks with
      |true=>some ⟨.done .normal k ⟨s'.tr,s'.sl,s'.nx+1⟩,none,none,e⟩
      |false=>none
    |none=>match Hw s.tr.get [] ops.toList with
     |some n=>match dr with
      |false=>LD gOk call T M l ops.toList k s n
      |true=>none
     |none=>none
   |false=>none
  |_=>none
 | .ops _ _ _ _ _ _=>none
section
variable {P:Program}{N:Nat}{es:List (List V)}{Y:OL P es}{Q:Exit->S->Nat->Bool->Prop}{T:List TI}{M mu:List Nat}{call:fm}
theorem Av:∀l:List V,A2 l l
 | []=>trivial
 |_::l=>⟨cq.refl _,Av l⟩
end
def OS(gOk:Bool)(call:fm)(T:List TI)(M mu:List Nat)(N l:Nat):Nat->CC->Option CT
 |0,_=>none
 |m+1,g=>match IY gOk call T M mu N l g with
  |some x=>match x.y with
   |none=>match OS gOk call T M mu N l m x.g with
    |some e=>some (.nd x.e e)
    |none=>none
   |some _=>none
  |none=>match g with
   | .done e [] _=>match e with
    | .ret=>some c0
    | .normal=>some c0
    |_=>none
   |_=>none
def zv(gOk:Bool)(call:fm)(T:List TI)(M mu:List Nat)(N l:Nat):Nat->CC->Option (List (List V)×CT)
 |0,_=>none
 |m+1,g=>match IY gOk call T M mu N l g with
  |some x=>match x.y with
   |none=>match zv gOk call T M mu N l m x.g with
    |some (as0,e)=>some (as0,.nd x.e e)
    |none=>none
   |some a=>match x.side with
    |some sd=>match OS gOk call T M mu N l 5000 sd with
     |some e0=>match zv gOk call T M mu N l m x.g with
      |some (as0,e)=>some (a::as0,.nd x.e (.nd e0 e))
      |none=>none
     |none=>none
    |none=>none
  |none=>match g with
   | .done e [] _=>match e with
    | .ret=>some ([],c0)
    | .normal=>some ([],c0)
    |_=>none
   |_=>none
def CT.Oz:CT->List (CE×CE)
 | .lf l=>l
 | .nd a b=>a.Oz++b.Oz
theorem CT.Ac:∀ {t:CT},iG t.Oz->j8 t
 | .lf _,h=>h
 | .nd _ _,h=>⟨CT.Ac h.l,CT.Ac h.r⟩
def LF(r:Option (List (List V)×CT)):Option (List (List V)):=match r with
 |some (as0,_)=>some as0
 |none=>none
def OT(r:Option (List (List V)×CT)):CT:=match r with
 |some (_,e)=>e
 |none=>c0
def TR.keys(f:Nat->Nat):TR->List Nat
 | .e=>[]
 | .n _ l r=>f 0::(TR.keys (fun i=>f (2*i+1)) l++TR.keys (fun i=>f (2*i+2)) r)
def vD(tr:TR):List Nat->List (Nat×V)
 | []=>[]
 |t::l=>(t,tr.get t)::vD tr l
theorem B0{tr:TR}:∀ {l:List Nat},∀p∈vD tr l,tr.get p.1=p.2
 | [],p,h=>by simp [vD]at h
 |t::l,p,h=>by
  rcases List.mem_cons.1 h with rfl |h;·rfl
  ·exact B0 (l:=l) p h
def Kz:List (Nat×V)->TR
 | []=> .e
 |p::l=>TR.put 10 (Kz l) p.1 p.2
theorem vE:∀ {l:List (Nat×V)},(∀p∈l,p.1< 1000)->(Kz l).get=gy l
 | [],_=>by funext t;exact TR.jh t
 |p::l,h=>by rw [Kz,TR.jL (h p (by simp)),vE fun q hq=>h q (by simp [hq])];rfl
def setTR(tr:TR):List Nat->List V->TR
 |p::ps,v::vs=>setTR (TR.put 10 tr p v) ps vs
 |_,_=>tr
theorem uf:∀(ps:List Nat) (vs:List V) (tr:TR),(∀p∈ps,p< 1000)->(setTR tr ps vs).get=oB tr.get ps vs
 | [],vs,tr,_=>by cases vs <;> rfl
 |p::ps,[],tr,_=>rfl
 |p::ps,v::vs,tr,h=>by rw [setTR,oB,uf ps vs _ fun q hq=>h q (by simp [hq]),TR.jL (h p (by simp))]
def yp:List Nat->List Ob->List (Nat×Option Ob)
 |n::ns,o::l=>(n,some o)::yp ns l
 |_,_=>[]
theorem sE:∀(ns:List Nat) (l:List Ob),fH (yp ns l)=dj (ns.zip l)
 | [],l=>by cases l <;> (funext i;rfl)
 |n::ns,[]=>by funext i;rfl
 |n::ns,o::l=>by
  funext i;show fH ((n,some o)::yp ns l) i=bK (dj (ns.zip l)) n (some o) i;rw [<-sE ns l];simp only [fH];split;·rename_i h;rw [Nat.eq_of_beq_eq_true h,aq]
  ·rename_i h;rw [ag _ _ (Nat.ne_of_beq_eq_false h)]
def nr(pn:List Nat):List Nat->List Nat
 | []=>[]
 |k::l=>match jF pn k with
  |true=>nr pn l
  |false=>k::nr pn l
def pW(np:Nat):List Nat:=(List.range np).map (500+ ·)
inductive RO where
  |nor (l:List Ob) (e:CT)
  |ext (c:Exit) (l:List Ob) (e:CT)
  |bad
@[irreducible] def Qw:List Nat:=List.range 90
def NX(l:List Ob)(t:CT):Exit->RO
 | .normal=> .nor l t
 | .ret=> .ext .ret l t
 | .exit id=> .ext (.exit id) l t
 |_=> .bad
def Fi:Exit->Code
 | .exit id=> .exit id
 |_=> .ret
theorem vK{α β:Type}:∀ {l:List α}{m:List β}{p:α×β},p∈l.zip m->∃i:Nat,l[i]?=some p.1/\m[i]?=some p.2
 | [],_,p,h=>by simp at h
 |_::_,[],p,h=>by simp at h
 |a::l,b::m,p,h=>by
  rw [List.zip_cons_cons]at h;rcases List.mem_cons.1 h with rfl |h;·exact⟨0,rfl,rfl⟩
  ·obtain⟨i,h1,h2⟩:=vK h;exact⟨i+1,by simpa using h1,by simpa using h2⟩
theorem Bq:∀ {nl:List Nat}{j m:Nat},m< j->(fJ j nl).find? (·.1 == m)=none
 | [],_,_,_=>rfl
 |a::nl,j,m,h=>by
  rw [fJ,List.find?_cons];have e:((j,a).1 == m)=false:=by simp only [beq_eq_false_iff_ne];omega
  rw [e];exact Bq oM
section
variable {P:Program}{N:Nat}{T:List TI}{M mu:List Nat}{call:fm}{pn:List Nat}{tl:List (Nat×V)}{ps:List Nat}{as0 bd:Code}
end
def JL(rd:List V->List Ob->RO):List (List V)->List Ob->Option (Exit×List Ob×CT)
 | [],l=>some (.normal,l,c0)
 |x::es,l=>match rd x l with
  | .nor l' e=>match JL rd es l' with
   |some (c,lf,e')=>some (c,lf,.nd e e')
   |none=>none
  | .ext c lf e=>match c with
   | .ret=>some (.ret,lf,e)
   | .exit id=>some (.exit id,lf,e)
   |_=>none
  | .bad=>none
def mz(rd:List V->List Ob->RO)(es:List (List V))(l0:List Ob):Nat->Option (List Ob)
 |0=>some l0
 |k+1=>match mz rd es l0 k,es[k]? with
  |some l,some x=>match rd x l with
   | .nor l' _=>some l'
   |_=>none
  |_,_=>none
theorem Hr{rd:List V->List Ob->RO}{es:List (List V)}{l0:List Ob}{c:Exit}{lf:List Ob}{e:CT}(h:JL rd es l0=some (c,lf,e))(he:j8 e):∀k l,mz rd es l0 k=some l->k<=es.length/\∃t,JL rd (es.drop k) l=some (c,lf,t)/\j8 t
 |0,l,hl=>by simp only [mz,Option.some.injEq]at hl;subst hl;exact⟨Nat.zero_le _,e,h,he⟩
 |k+1,l,hl=>by
  simp only [mz]at hl;split at hl
  ·rename_i l1 x h1 hx;obtain⟨hk,t,h2,ht⟩:=Hr h he k l1 h1;have hlt:=(List.getElem?_eq_some_iff.1 hx).1;have hdr:es.drop k=x::es.drop (k+1):=by
    rw [List.drop_eq_getElem_cons hlt];congr 1
    exact(List.getElem?_eq_some_iff.1 hx).2
   rw [hdr]at h2;unfold JL at h2;split at hl
   ·rename_i l' e' hr;injection hl with hl;subst hl;rw [hr]at h2;simp only at h2;split at h2;·rename_i c1 lf1 e1 hw;simp only [Option.some.injEq,Prod.mk.injEq]at h2;obtain⟨rfl,rfl,rfl⟩:=h2;exact⟨hlt,_,hw,ht.2⟩
    ·cases h2
   ·cases hl
  ·cases hl
def vP(np n:Nat):List Nat:=pW np++(List.range n).map (500+np+ ·)
def og(np:Nat)(nl:List Nat)(i:Nat):Nat:=match jF nl i with
 |true=>500+np+xe nl i
 |false=>i
theorem xS{g:Nat->Nat}:∀ {l:List (Nat×V)}{p:Nat×V},p∈jm g l->∃q∈l,q.1=p.1
 | [],p,h=>by simp [jm]at h
 |q::l,p,h=>by
  rcases List.mem_cons.1 h with rfl |h;·exact⟨q,by simp,rfl⟩
  ·obtain⟨q',h1,h2⟩:=xS (l:=l) h;exact⟨q',by simp [h1],h2⟩
theorem BZ{tr:TR}:∀ {l:List Nat}{p:Nat×V},p∈vD tr l->p.1∈l
 | [],p,h=>by simp [vD]at h
 |t::l,p,h=>by
  rcases List.mem_cons.1 h with rfl |h;·simp
  ·exact List.mem_cons_of_mem _ (BZ h)
theorem xH:∀ {nl:List Nat}{j:Nat}{p:Nat×Nat},p∈fJ j nl->j<=p.1/\p.1< j+nl.length
 | [],_,_,h=>by simp [fJ]at h
 |a::nl,j,p,h=>by
  rcases List.mem_cons.1 h with rfl |h;·simp
  ·have:=xH h;simp only [List.length_cons];omega
end
end Go.Ab

namespace Go.Ab
open Go.RowKit Go.Dw Go.Shelf
noncomputable section
def vQ{P:Program}(N:Nat){es:List (List V)}(Y:vL P es)(c:Code)(Q:Exit->S->Nat->Bool->Prop):Nat->S->Nat->Bool->Prop
 |0,_,_,_=>False
 |m+1,s,k,g=>fy N Y c (jx (vQ N Y c Q m) Q) s k g
theorem wA{P:Program}{N:Nat}{es:List (List V)}{Y:vL P es}{Q:Exit->S->Nat->Bool->Prop}{c:Code}{s:S}{k:Nat}{g:Bool}(m:Nat)(h:vQ N Y c Q m s k g):fy N Y (.loop c) Q s k g:=by
 intro C A F a w yc gm hj;refine wpIn_loop_rounds m ?_;have key:∀(m:Nat) (s:S) (k:Nat) (g:Bool) (C:Cx P N) (A F:Nat->Prop) (a:Act) (w:World),vQ N Y c Q m s k g->yG C Y A F w->Gm C s a w->Y.J k g A F w->Code.roundsIn Fence.wide 0 P c (fun e a' w'=>∃(s':S) (k':Nat) (g':Bool) (C':Cx P N) (A' F':Nat->Prop),Q e s' k' g'/\yG C' Y A' F' w'/\Gm C' s' a' w'/\Y.J k' g' A' F' w') m a w:=by
  intro m;induction m with
  |zero=>intro s k g C A F a w h;exact h.elim
  |succ m ih=>
   intro s k g C A F a w h yc gm hj;refine wpIn_mono (h C A F a w yc gm hj) ?_;rintro e a' w' ⟨s',k',g',C',A',F',q,yc',gm',hj'⟩;cases e with
   |normal=>exact ih s' k' g' C' A' F' a' w' q yc' gm' hj'
   |_=>exact⟨s',k',g',C',A',F',q,yc',gm',hj'⟩
 exact key m s k g C A F a w h yc gm hj
section
variable {P:Program}(N:Nat){es:List (List V)}(Y:vL P es) (Q:Exit->S->Nat->Bool->Prop)
def sJ:List Fr->Exit->S->Nat->Bool->Prop
 | []=>Q
 | .c y::k=>jx (fun s' n g=>fy N Y y (sJ k) s' n g) (sJ k)
 | .b id::k=>gK id (sJ k)
 | .l y m::k=>jx (vQ N Y y (sJ k) m) (sJ k)
 | .s::_=>fun _ _ _ _=>False
def Az:CC->Nat->Bool->Prop
 | .code c k s,n,g=>fy N Y c (sJ N Y Q k) s.den n g
 | .done e k s,n,g=>sJ N Y Q k e s.den n g
 | .ops _ _ _ _ _ _,_,_=>False
end
section
variable {P:Program}{N:Nat}{es:List (List V)}{Y:vL P es}{Q:Exit->S->Nat->Bool->Prop}{T:List TI}{M mu:List Nat}{call:fm}
theorem Mv{y:Code}{k:List Fr}{e:Exit}{s:S}{n:Nat}{g:Bool}(hne:e≠ .normal)(h:sJ N Y Q k e s n g):sJ N Y Q (.c y::k) e s n g:=by cases e <;> first |exact absurd rfl hne |exact h
theorem Mw{y:Code}{m:Nat}{k:List Fr}{e:Exit}{s:S}{n:Nat}{g:Bool}(hne:e≠ .normal)(h:sJ N Y Q k e s n g):sJ N Y Q (.l y m::k) e s n g:=by cases e <;> first |exact absurd rfl hne |exact h
theorem Mu{id:Nat}{k:List Fr}{e:Exit}{s:S}{n:Nat}{g:Bool}(hne:∀i,e≠ .exit i)(h:sJ N Y Q k e s n g):sJ N Y Q (.b id::k) e s n g:=by cases e <;> first |exact absurd rfl (hne _) |exact h
theorem uJ{c:Code}{s:S}{k:Nat}{g:Bool}(u:Nat)(h:fy N Y c (jx (vQ N Y c Q u) Q) s k g):fy N Y (.loop c) Q s k g:=wA (u+1) h
def yz{P:Program}{es:List (List V)}(N:Nat)(Y:vL P es)(Q:Exit->S->Nat->Bool->Prop)(g:CC)(x:JX):Prop:=
 (x.y=none->∀n b,Az N Y Q x.g n b->Az N Y Q g n b)/\
 ∀as0,x.y=some as0->∃sd,x.side=some sd/\∀n,es[n]?=some as0->Az N Y Q x.g (n+1) true->Az N Y Q sd n false->Az N Y Q g n true
theorem dR{g g':CC}{e:CT}(h:∀n b,Az N Y Q g' n b->Az N Y Q g n b):yz N Y Q g ⟨g',none,none,e⟩:=⟨fun _=>h,fun as0 h=>by cases h⟩
theorem FU(hT:aL T P)(hcl:cX P call){id n:Nat}{ops:Array Oper}{k:List Fr}{s:CS}{x:JX}(hok:gH N ops.toList=true)(h:LD true call T M Y.l ops.toList k s n=some x)(he:j8 x.e):yz N Y Q (.code (.region id ops false) k s) x:=by
 have eo:ops=ops.toList.toArray:=by simp
 unfold LD at h;split at h
 ·rename_i o ho;split at h
  ·rename_i d hd;split at h
   ·rename_i hlt;have hlt:=of_decide_eq_true hlt;split at h
    ·rename_i s1 ks1 e1 h1;split at h
     ·rename_i hgd;split at h
      ·rename_i fv as0 hy;split at h
       ·rename_i s2 ks2 e2 h2;split at h
        ·rename_i s3 ks3 e3 h3;injection h with h;subst h;obtain⟨he0,he1,he2,he3⟩:=he;refine⟨fun h=>(by cases h),fun as1 has=> ?_⟩;injection has with has;subst has;refine⟨_,rfl,fun m hm hk1 hk2=> ?_⟩;obtain⟨d',op,ty,pos,af,gd⟩:=o;simp only at hd;subst hd;unfold OH at hy;simp only at hy;split at hy
         ·rename_i c;obtain⟨callee,args,ats⟩:=c;simp only at hy;split at hy
          ·rename_i fo;split at hy
           ·rename_i hfl0;simp only [Bool.and_eq_true]at hfl0;simp only [Option.some.injEq,Prod.mk.injEq]at hy;obtain⟨rfl,rfl⟩:=hy;have hf:=iG.hd he0;injection hf with hf;simp only [List.cons.injEq,and_true]at hf;have ht:∀C:Cx P N,bD C ops.toList.toArray s.nx (ops.toList.drop (n+1)) (bK s1.tr.get d (.b true)) (fH s1.sl) [] (fun tm' σ' _=>sJ N Y Q k .normal ⟨tm',σ',s.nx+1⟩ (m+1) true)/\bD C ops.toList.toArray s.nx (ops.toList.drop (n+1)) (bK s1.tr.get d (.b false)) (fH s1.sl) [] (fun tm' σ' _=>sJ N Y Q k .normal ⟨tm',σ',s.nx+1⟩ m false):=fun C=>by
             have q1:=(fQ hT hcl (C:=C) (K:=fun _ _ _=>True) h1 he1).1;constructor;·obtain⟨r1,r2⟩:=fQ hT hcl (C:=C) (K:=fun tm' σ' _=>sJ N Y Q k .normal ⟨tm',σ',s.nx+1⟩ (m+1) true) h2 he2;simp only at r1 r2;rw [TR.jL hlt,q1]at r2;exact r2 (by have:=hk1;unfold Az CS.den at this;simp only at this;rw [r1,q1]at this;exact this)
             ·obtain⟨r1,r2⟩:=fQ hT hcl (C:=C) (K:=fun tm' σ' _=>sJ N Y Q k .normal ⟨tm',σ',s.nx+1⟩ m false) h3 he3;simp only at r1 r2;rw [TR.jL hlt,q1]at r2;exact r2 (by have:=hk2;unfold Az CS.den at this;simp only at this;rw [r1,q1]at this;exact this)
            show fy N Y (.region id ops false) (sJ N Y Q k) s.den m true;rw [eo];have hgw:dA ops.toList.toArray s1.tr.get ⟨some d,.call {callee:= .value fo,args:=args,argTypes:=ats},ty,pos,af,gd⟩=some true:=by
             unfold Qm at hgd;simp only at hgd;split at hgd;·rfl
             ·split at hgd;·rename_i g hg;subst hgd;exact fX (ops:=ops.toList.toArray) (r:=some true) (by simpa using hg)
              ·cases hgd
            refine mq n (by simpa using hok) ho fun C _ _=> ?_;obtain⟨q1,q2⟩:=fQ hT hcl (C:=C) (K:=fun tm1 σ1 _=>OM N Y ops.toList.toArray s.nx (ops.toList.drop (n+1)) fo args d ⟨some d,.call {callee:= .value fo,args:=args,argTypes:=ats},ty,pos,af,gd⟩ (sJ N Y Q k) m tm1 σ1) h1 he1;exact q2 ⟨hgw,hfl0.2,hf,⟨_,hm,Av _⟩,hfl0.1,fun C _ _=>(ht C).1,fun C _ _=>(ht C).2⟩
           ·cases hy
          ·cases hy
         ·cases hy
        ·cases h
       ·cases h
      ·cases h
     ·cases h
    ·cases h
   ·cases h
  ·cases h
 ·cases h
theorem rC(hT:aL T P)(hcl:cX P call){g:CC}{x:JX}(h:IY true call T M mu N Y.l g=some x)(he:j8 x.e):yz N Y Q g x:=by
 unfold IY at h;split at h
 ·rename_i e k s;split at h;·cases h
  ·split at h;·injection h with h;subst h;exact dR fun n b hk=>hk
   ·rename_i hne;injection h with h;subst h;exact dR fun n b hk=>Mv hne hk
  ·split at h
   ·split at h;·rename_i hb;injection h with h;subst h;have hb:=Nat.eq_of_beq_eq_true hb;subst hb;exact dR fun n b hk=>js hk
    ·rename_i hb;injection h with h;subst h;exact dR fun n b hk=>MA (by simpa using Nat.ne_of_beq_eq_false hb) hk
   ·rename_i hne;injection h with h;subst h;exact dR fun n b hk=>Mu hne hk
  ·split at h
   ·split at h;·cases h
    ·injection h with h;subst h;exact dR fun n b hk=>hk
   ·rename_i hne;injection h with h;subst h;exact dR fun n b hk=>Mw hne hk
  ·cases h
 ·rename_i c k s;split at h;·injection h with h;subst h;exact dR fun n b hk=>fD hk
  ·injection h with h;subst h;exact dR fun n b hk=>tG hk
  ·injection h with h;subst h;exact dR fun n b hk=>mU hk
  ·injection h with h;subst h;exact dR fun n b hk=>cP hk
  ·injection h with h;subst h;exact dR fun n b hk=>cE hk
  ·injection h with h;subst h;exact dR fun n b hk=>uJ 1000000 hk
  ·split at h
   ·rename_i t ht;split at h;·injection h with h;subst h;exact dR fun n b hk=>dg ht (fun _=>hk) fun h=>by cases h
    ·injection h with h;subst h;exact dR fun n b hk=>dg ht (fun h=>by cases h) fun _=>hk
   ·cases h
  ·rename_i id ops dr;split at h
   ·rename_i hok;split at h
    ·rename_i s' ks e hr;have e0:ops=ops.toList.toArray:=by simp
     split at h;·injection h with h;subst h;refine dR fun n b hk=>fO fun C _ _=> ?_;refine oV (uZ mu s ops.toList) ?_;rw [e0];obtain⟨q1,q2⟩:=fQ hT hcl (C:=C) (K:=fun tm' σ' _=>sJ N Y Q k .normal ⟨tm',σ',(pS mu s ops.toList).nx+1⟩ n b) (by simpa using hr) he;refine nW (s:=(pS mu s ops.toList).den) (by simpa using hok) (q2 ?_);have:=hk;unfold Az CS.den at this;simp only at this;rw [q1]at this;exact this
     ·split at h;·rename_i hdr;injection h with h;subst h;refine dR fun n b hk=>fO fun C _ _=> ?_;refine oV (uZ mu s ops.toList) ?_;rw [e0];obtain⟨q1,q2⟩:=fQ hT hcl (C:=C) (K:=fun tm' σ' ks'=>fe ops.toList ks'=true/\sJ N Y Q k .normal ⟨tm',σ',(pS mu s ops.toList).nx+1⟩ n b) (by simpa using hr) he;refine mj (s:=(pS mu s ops.toList).den) (by simpa using hok) (q2 ⟨Br hdr,?_⟩);have:=hk;unfold Az CS.den at this;simp only at this;rw [q1]at this;exact this
      ·cases h
    ·split at h
     ·split at h;·exact FU hT hcl hok h he
      ·cases h
     ·cases h
   ·cases h
  ·cases h
 ·cases h
end
theorem Bh{P:Program}{N:Nat}{es:List (List V)}{Y:vL P es}{T:List TI}{M mu:List Nat}{call:fm}(hT:aL T P)(hcl:cX P call){n:Nat}(hn:n< es.length):∀ {m:Nat}{g:CC}{e:CT},OS true call T M mu N Y.l m g=some e->j8 e->Az N Y (tC es.length) g n false
 |0,_,_,h,_=>by cases h
 |m+1,g,e,h,he=>by
  unfold OS at h;split at h
  ·rename_i x hx;split at h
   ·rename_i hy;split at h;·rename_i e1 h1;injection h with h;subst h;exact(rC (Q:=tC es.length) hT hcl hx he.1).1 hy n false (Bh hT hcl hn h1 he.2)
    ·cases h
   ·cases h
  ·split at h
   ·rename_i e0 s;split at h;·exact⟨.inr rfl,(fun h=>nomatch h),fun _=>hn⟩
    ·exact⟨.inl rfl,(fun h=>nomatch h),fun _=>hn⟩
    ·cases h
   ·cases h
theorem rB{P:Program}{N:Nat}{es:List (List V)}{Y:vL P es}{T:List TI}{M mu:List Nat}{call:fm}(hT:aL T P)(hcl:cX P call):∀ {m:Nat}{g:CC}{as0:List (List V)}{e:CT}{n:Nat},zv true call T M mu N Y.l m g=some (as0,e)->j8 e->es.drop n=as0->n<=es.length->Az N Y (tC es.length) g n true
 |0,_,_,_,_,h,_,_,_=>by cases h
 |m+1,g,as0,e,n,h,he,hd,hn=>by
  unfold zv at h;split at h
  ·rename_i x hx;split at h
   ·rename_i hy;split at h;·rename_i as1 e1 h1;simp only [Option.some.injEq,Prod.mk.injEq]at h;obtain⟨rfl,rfl⟩:=h;exact(rC (Q:=tC es.length) hT hcl hx he.1).1 hy n true (rB hT hcl h1 he.2 hd hn)
    ·cases h
   ·rename_i a hy;split at h
    ·rename_i sd hsd;split at h
     ·rename_i e0 h0;split at h
      ·rename_i as1 e1 h1;simp only [Option.some.injEq,Prod.mk.injEq]at h;obtain⟨rfl,rfl⟩:=h;have hlt:n< es.length:=by have:=congrArg List.length hd;simp only [List.length_drop,List.length_cons]at this;omega
       have hget:es[n]?=some a:=by have:=congrArg (·[0]?) hd;simpa using this
       have hdr:es.drop (n+1)=as1:=by have h2:=congrArg List.tail hd;simpa using h2
       obtain⟨sd',hs',hall⟩:=(rC (Q:=tC es.length) hT hcl hx he.1).2 a hy;rw [hsd]at hs';injection hs' with hs';subst hs';exact hall n hget (rB hT hcl h1 he.2.2 hdr oM) (Bh hT hcl hlt h0 he.2.1)
      ·cases h
     ·cases h
    ·cases h
  ·split at h
   ·rename_i e0 s;have fin:as0=[]->n=es.length:=fun h0=>by rw [h0]at hd;have:=congrArg List.length hd;simp only [List.length_drop,List.length_nil]at this;omega
    split at h;·simp only [Option.some.injEq,Prod.mk.injEq]at h;exact⟨.inr rfl,fun _=>fin h.1.symm,(fun h=>nomatch h)⟩
    ·simp only [Option.some.injEq,Prod.mk.injEq]at h;exact⟨.inl rfl,fun _=>fin h.1.symm,(fun h=>nomatch h)⟩
    ·cases h
   ·cases h
theorem HQ{P:Program}{N:Nat}{T:List TI}{M mu:List Nat}{call:fm}{f:FuncId}{fn:Func}{c:Code}{caps:List V}{ins:List Ob}{es:List (List V)}(hT:aL T P)(hmx:P.follows .mixedOrders=true)(hcl:cX P call)(hk:qy P f fn c N)(hres:fn.results= #[])(hargs:caps.length+1<=N)(hins:ins.length<=400) (s0:Nat->CS) (h0:∀l,(s0 l).den=⟨fun t=>((V.c (.func (.yield l) #[] #[]))::caps).getD t .any,eX ins,1⟩) (hv:∀l,LF (zv true call T M mu N l 20000 (.code c [] (s0 l)))=some es) (he:∀l,j8 (OT (zv true call T M mu N l 20000 (.code c [] (s0 l))))):B4 P f caps ins es:=by
 refine qF hT hmx hk hres hargs (fun Y=> ?_) hins;have h1:=hv Y.l;have h2:=he Y.l;unfold LF at h1;unfold OT at h2;split at h1;·rename_i as0 e hr;rw [hr]at h2;injection h1 with h1;subst h1;have:=rB (Y:=Y) (n:=0) hT hcl hr h2 rfl (Nat.zero_le _);unfold Az at this;simp only at this;rw [h0]at this;exact this
 ·cases h1
def Pg(pn:List Nat):Ob->Bool
 | .box _ cs=>V.dw pn cs
 | .row _ _ n f=>((List.range n).map f).all (V.dw pn)
 | .mp _ _=>false
theorem Fj{pn:List Nat}{o:Ob}(h:Pg pn o=true):o.cY pn:=by
 cases o with
 |box t cs=>exact h
 |row e sz n f=>intro i hi;exact List.all_eq_true.1 h _ (List.mem_map.2 ⟨i,List.mem_range.2 hi,rfl⟩)
 |mp _ _=>cases h
def GL(pn:List Nat)(s:CS):Option (List Ob×CT):=
 match xk (fH s.sl) (fun i=>i) pn with
  |some l=>match decide (((pn.zip (l.map Prod.snd)).map fun p=>aI [] s.nx p.1).Nodup) && (l.map Prod.snd).all (Pg pn)with
   |true=>some (l.map Prod.snd,.lf (eO (aI [] s.nx) l))
   |false=>none
  |none=>none
theorem GM{pn:List Nat}{s:CS}{l':List Ob}{e:CT}(hpn:∀p∈pn,500<=p/\p< 1000)(h:GL pn s=some (l',e))(he:j8 e):Le s.den ⟨fun _=> .any,dj (pn.zip l'),1⟩/\l'.length=pn.length/\∀o∈l',o.cY pn:=by
 unfold GL at h;split at h
 ·rename_i l hl;split at h
  ·rename_i hb;simp only [Option.some.injEq,Prod.mk.injEq]at h;obtain⟨rfl,rfl⟩:=h;simp only [Bool.and_eq_true]at hb;obtain⟨hb1,hb2⟩:=hb;obtain⟨hlen,hget⟩:=kN hl;have hE:iG _:=he;refine⟨?_,by simp [hlen],fun o ho=>Fj (List.all_eq_true.1 hb2 o ho)⟩;show Le ⟨s.tr.get,fH s.sl,s.nx⟩ ⟨gy [],dj (pn.zip (l.map Prod.snd)),1⟩;refine aC (tm:=s.tr.get) (σ:=fH s.sl) (nx:=s.nx) [] (tl:=[]) .nil (qc fun p hp=> ?_) hb1 rfl;obtain⟨i,h1,h2⟩:=vK hp;simp only [List.getElem?_map,Option.map_eq_some_iff]at h2;obtain⟨q,hq,hq2⟩:=h2;obtain⟨k,hk,hσ,hno⟩:=hget i q hq;rw [hk]at h1;injection h1 with h1;have hg:aI [] s.nx p.1=k:=by have:=hpn k (List.mem_of_getElem? hk);unfold aI;rw [<-h1];exact if_pos this
   refine⟨q.1,by rw [hg];exact hσ,?_⟩;rw [<-hq2];exact ot hno (fE hE hq)
  ·cases h
 ·cases h
def rU(call:fm)(T:List TI)(M mu:List Nat)(N:Nat)(pn:List Nat)(tl:List (Nat×V))(ps:List Nat)(as0 bd:Code)(x:List V)(l:List Ob):RO:=
 match wV call Mc T M mu N as0 ⟨setTR (Kz tl) ps x,yp pn l,1⟩with
  |some (.normal,s1,t1)=>match wV call Mc T M mu N bd s1 with
   |some (e,s2,t2)=>match GL pn s2 with
    |some (l',t3)=>NX l' (y4 t1 (y4 t2 t3)) e
    |none=> .bad
   |none=> .bad
  |_=> .bad
def KM(pn:List Nat)(ok:Nat->Prop)(sl:Nat->List Ob)(X:Nat->Code->List Ob->Prop)(k:Nat):RO->Prop
 | .nor l' e=>j8 e/\(l'.length=pn.length->(∀o∈l',o.cY pn)->ok (k+1)/\sl (k+1)=l')
 | .ext c l' e=>j8 e/\(l'.length=pn.length->(∀o∈l',o.cY pn)->X k (Fi c) l')
 | .bad=>False
theorem xT{pn:List Nat}{tl:List (Nat×V)}{ps:List Nat}{x:List V}{l:List Ob}(htl:∀p∈tl,p.1< 1000)(hps:∀p∈ps,p< 1000):(CS.mk (setTR (Kz tl) ps x) (yp pn l) 1).den=⟨oB (gy tl) ps x,dj (pn.zip l),1⟩:=by unfold CS.den;rw [uf _ _ _ hps,vE htl,sE]
section
variable {P:Program}{N:Nat}{T:List TI}{M mu:List Nat}{call:fm}{pn:List Nat}{tl:List (Nat×V)}{ps:List Nat}{as0 bd:Code}
theorem DE(hT:aL T P)(hcl:cX P call)(hpn:∀p∈pn,500<=p/\p< 1000)(htl:∀p∈tl,p.1< 1000)(hps:∀p∈ps,p< 1000){ok:Nat->Prop}{sl:Nat->List Ob}{X:Nat->Code->List Ob->Prop}{k:Nat}{x:List V}{l:List Ob} (h:KM pn ok sl X k (rU call T M mu N pn tl ps as0 bd x l)) (C':Cx P N):AW C' as0 (eK (fun s'=>AW C' bd (oU pn ok sl X k) s') (fun _ _=>False)) ⟨oB (gy tl) ps x,dj (pn.zip l),1⟩:=by
 rw [<-xT htl hps];unfold rU at h;split at h
 ·rename_i s1 t1 h1;split at h
  ·rename_i e s2 t2 h2;split at h
   ·rename_i l' t3 h3;have key:j8 (y4 t1 (y4 t2 t3))->(Le s2.den ⟨fun _=> .any,dj (pn.zip l'),1⟩->l'.length=pn.length->(∀o∈l',o.cY pn)->oU pn ok sl X k e s2.den)->
     AW C' as0 (eK (fun s'=>AW C' bd (oU pn ok sl X k) s') (fun _ _=>False)) (CS.mk (setTR (Kz tl) ps x) (yp pn l) 1).den:=by
     intro hE hR
     have hE:=mw hE
     have hE2:=mw hE.2
     obtain⟨z1,z2,z3⟩:=GM hpn h3 hE2.2
     have a2:=mX (C:=C') (mu:=mu) hT hcl BK bd _ _ _ _ h2 hE2.1 (oU pn ok sl X k) (hR z1 z2 z3)
     exact mX (C:=C') (mu:=mu) hT hcl BK as0 _ _ _ _ h1 hE.1 (eK (fun s'=>AW C' bd (oU pn ok sl X k) s') (fun _ _=>False)) a2
    unfold NX at h;split at h;·obtain⟨q1,q2⟩:=h;exact key q1 fun hle a b=>⟨(q2 a b).1,by rw [(q2 a b).2];exact hle⟩
    ·obtain⟨q1,q2⟩:=h;exact key q1 fun hle a b=>⟨_,q2 a b,hle⟩
    ·obtain⟨q1,q2⟩:=h;exact key q1 fun hle a b=>⟨_,q2 a b,hle⟩
    ·exact h.elim
   ·exact h.elim
  ·exact h.elim
 ·exact h.elim
end
def IC(pn:List Nat)(l:List Ob):Bool:=Nat.beq l.length pn.length && l.all (Pg pn)
theorem Lh{pn:List Nat}{l:List Ob}(h:IC pn l=true):l.length=pn.length/\∀o∈l,o.cY pn:=by simp only [IC,Bool.and_eq_true]at h;exact⟨Nat.eq_of_beq_eq_true h.1,fun o ho=>Fj (List.all_eq_true.1 h.2 o ho)⟩
def Mb(pn:List Nat):RO->RO
 | .nor l e=>match IC pn l with
  |true=> .nor l e
  |false=> .bad
 | .ext c l e=>match IC pn l with
  |true=> .ext c l e
  |false=> .bad
 | .bad=> .bad
theorem BH{pn:List Nat}{r:RO}{l:List Ob}{e:CT}(h:Mb pn r= .nor l e):r= .nor l e/\IC pn l=true:=by
 unfold Mb at h;split at h
 ·split at h;·rename_i hf;injection h with h1 h2;subst h1 h2;exact⟨rfl,hf⟩
  ·cases h
 ·split at h <;> cases h
 ·cases h
theorem Jr{pn:List Nat}{r:RO}{c:Exit}{l:List Ob}{e:CT}(h:Mb pn r= .ext c l e):r= .ext c l e/\IC pn l=true:=by
 unfold Mb at h;split at h;·split at h <;> cases h
 ·split at h;·rename_i hf;injection h with h1 h2 h3;subst h1 h2 h3;exact⟨rfl,hf⟩
  ·cases h
 ·cases h
theorem DC{P:Program}{N:Nat}{C:Cx P N}{Q:Exit->S->Prop}{tm:Nat->V}{σ:Nat->Option Ob}{nx:Nat}{g:Operand}{ps:Array Tmp}{as0 bd:Code}{gf:FuncId}{caps:List V}{ins:List Ob}{es:List (List V)}(ns:List Nat)(hF:C.F=Fence.wide)(hd:C.dfs=o6)(pn:List Nat)(gl:List (Nat×Nat)) (it:B4 P gf caps ins es) (hg:ev tm g= .fn (.func gf) [] (V.aV (yw ns) caps)) (hidf:V.cQ ins.length caps=true) (hns:ns.length=ins.length) (hnd:ns.Nodup) (hins:∀(i k:Nat) (o:Ob),ns[i]?=some k->ins[i]?=some o->σ k=some o/\FL o=true) (hlen:∀x∈es,x.length=ps.size) (hps:ps.toList.all (fun p=>decide (p< N))=true) (tl:List (Nat×V)) (rd:List V->List Ob->RO) (l0:List Ob) (hl0:IC pn l0=true) (hrd:∀ok sl X k x l,KM pn ok sl X k (rd x l)->∀C':Cx P N,AW C' as0 (eK (fun s'=>AW C' bd (oU pn ok sl X k) s') (fun _ _=>False)) ⟨oB (gy tl) ps.toList x,dj (pn.zip l),1⟩) (hpn:∀p∈pn,500<=p/\p< 1000) (htl:tl.all (fun p=>p.2.rI pn)=true) (hid:∀p∈gl,p.1< 1000) (htm:lQ (fun p=>tm p.1=p.2.bx (aI gl nx)) tl) (hσ:lQ (fun p=>∃ob,σ (aI gl nx p.1)=some ob/\ef ob (p.2.bx (aI gl nx))) (pn.zip l0)) (hinj:decide (((pn.zip l0).map fun p=>aI gl nx p.1).Nodup)=true) (hdis:∀p∈pn.zip l0,aI gl nx p.1∉ns){c:Exit}{lf:List Ob}{e:CT}(hw:JL (fun x l=>Mb pn (rd x l)) es l0=some (c,lf,e)) (he:j8 e) (hQ:Q c ⟨gy tl,dj (pn.zip lf),1⟩):AW C (.rangeFunc g ps as0 bd) Q ⟨tm,σ,nx⟩:=by
 have hat:=Hr hw he;generalize hR:(fun x l=>Mb pn (rd x l))=rr at hw hat;have hst0:∀k l,mz rr es l0 k=some l->IC pn l=true:=by
  intro k;cases k with
  |zero=>intro l hl;simp only [mz,Option.some.injEq]at hl;subst hl;exact hl0
  |succ k=>
   intro l hl;simp only [mz]at hl;split at hl
   ·rename_i l1 x h1 hx;split at hl;·rename_i l' e' hr;injection hl with hl;subst hl;rw [<-hR]at hr;exact(BH hr).2
    ·cases hl
   ·cases hl
 have W:= @sq P N C Q tm σ nx g ps as0 bd gf caps ins es ns hF pn [] gl (fun _ _ h=>by rw [hd]at h;cases h) it hg hidf hns hnd hins hlen hps tl (fun k=>(mz rr es l0 k).isSome=true) (fun k=>(mz rr es l0 k).getD []) (fun k c sx=>∃l x c' e',mz rr es l0 k=some l/\es[k]?=some x/\rr x l= .ext c' sx e'/\Fi c'=c);simp only [List.append_nil]at W;refine W (by simp [mz]) (List.all_eq_true.2 fun p hp=>by simpa using hpn p hp) (by simpa [mz]using (Lh hl0).1) htl (List.all_eq_true.2 fun p hp=>decide_eq_true (hid p hp)) htm hσ hinj (by simpa [mz]using hdis) (fun C' _ k x hx hok=> ?_) (fun hok=> ?_) (fun k c sx hk hX=> ?_)
 ·obtain⟨l,hl⟩:=Option.isSome_iff_exists.1 hok;rw [hl,Option.getD_some];obtain⟨hk,t,ht,htE⟩:=hat k l hl;have hlt:=(List.getElem?_eq_some_iff.1 hx).1;have hdr:es.drop k=x::es.drop (k+1):=by
   rw [List.drop_eq_getElem_cons hlt];congr 1
   exact(List.getElem?_eq_some_iff.1 hx).2
  rw [hdr]at ht;refine hrd _ _ _ k x l ?_ C';unfold JL at ht;split at ht
  ·rename_i l' e' hr;split at ht
   ·simp only [Option.some.injEq,Prod.mk.injEq]at ht;obtain⟨_,_,rfl⟩:=ht;have hst:mz rr es l0 (k+1)=some l':=by simp only [mz,hl,hx,hr]
    rw [<-hR]at hr;rw [(BH hr).1];exact⟨htE.1,fun _ _=>⟨by simp only [hst,Option.isSome_some],by simp only [hst,Option.getD_some]⟩⟩
   ·cases ht
  ·rename_i c' l' e' hr;have hr':=hr;rw [<-hR]at hr';rw [(Jr hr').1];split at ht;·simp only [Option.some.injEq,Prod.mk.injEq]at ht;obtain⟨_,_,rfl⟩:=ht;exact⟨htE,fun _ _=>⟨l,x,_,_,hl,hx,hr,rfl⟩⟩
   ·simp only [Option.some.injEq,Prod.mk.injEq]at ht;obtain⟨_,_,rfl⟩:=ht;exact⟨htE,fun _ _=>⟨l,x,_,_,hl,hx,hr,rfl⟩⟩
   ·cases ht
  ·cases ht
 ·obtain⟨l,hl⟩:=Option.isSome_iff_exists.1 hok;rw [hl,Option.getD_some];obtain⟨hk,t,ht,htE⟩:=hat _ l hl;rw [List.drop_length]at ht;simp only [JL,Option.some.injEq,Prod.mk.injEq]at ht;obtain⟨rfl,rfl,_⟩:=ht;exact hQ
 ·obtain⟨l,x,c',e',hl,hx,hr,rfl⟩:=hX;obtain⟨hk',t,ht,htE⟩:=hat k l hl;have hdr:es.drop k=x::es.drop (k+1):=by
   rw [List.drop_eq_getElem_cons hk];congr 1
   exact(List.getElem?_eq_some_iff.1 hx).2
  rw [hdr]at ht;unfold JL at ht;rw [hr]at ht;simp only at ht;split at ht;·simp only [Option.some.injEq,Prod.mk.injEq]at ht;obtain⟨rfl,rfl,_⟩:=ht;exact ay hQ
  ·simp only [Option.some.injEq,Prod.mk.injEq]at ht;obtain⟨rfl,rfl,_⟩:=ht;exact bg hQ
  ·cases ht
abbrev mN:Type:=FuncId->List V->List Ob->Option (List (List V)×CT)
def nR(P:Program)(itr:mN):Prop:=∀f caps ins es e,itr f caps ins=some (es,e)->j8 e->B4 P f caps ins es
def FP(σ:Nat->Option Ob):List Nat->Option (List Ob)
 | []=>some []
 |k::l=>match σ k with
  |some o=>match FL o with
   |true=>match FP σ l with
    |some r=>some (o::r)
    |none=>none
   |false=>none
  |none=>none
def CQ:List Nat->List Nat
 | []=>[]
 |k::l=>match jF (CQ l) k with
  |true=>CQ l
  |false=>k::CQ l
structure HJ where
  caps:List V
  ns:List Nat
  ins:List Ob
  e:CT
def J8(caps caps':List V)(ns:List Nat)(ins:List Ob):Option HJ:=match rK ns && (V.cQ ins.length caps' && Nat.ble ins.length 400)with
 |true=>some ⟨caps',ns,ins,.lf [(.vs caps,.vs (V.aV (yw ns) caps'))]⟩
 |false=>none
def J7(σ:Nat->Option Ob)(caps:List V)(ns:List Nat):Option HJ:=match FP σ ns with
 |some ins=>J8 caps (V.aV (fun i=>500+xe ns i) caps) ns ins
 |none=>none
def K7(σ:Nat->Option Ob)(caps:List V):Option HJ:=match V.bw caps with
 |true=>some ⟨caps,[],[],c0⟩
 |false=>J7 σ caps (CQ (V.oe caps))
theorem xo{σ:Nat->Option Ob}:∀ {ns:List Nat}{ins:List Ob},FP σ ns=some ins->ns.length=ins.length/\∀(i k:Nat) (o:Ob),ns[i]?=some k->ins[i]?=some o->σ k=some o/\FL o=true
 | [],ins,h=>by simp only [FP,Option.some.injEq]at h;subst h;exact⟨rfl,fun i k o h=>by simp at h⟩
 |k::l,ins,h=>by
  simp only [FP]at h;split at h
  ·rename_i o ho;split at h
   ·rename_i hb;split at h
    ·rename_i r hr;injection h with h;subst h;obtain⟨h1,h2⟩:=xo hr;refine⟨by simp [h1],fun i k' o' hk ho'=> ?_⟩;cases i with
     |zero=>simp at hk ho';subst hk ho';exact⟨ho,hb⟩
     |succ i=>exact h2 i k' o' (by simpa using hk) (by simpa using ho')
    ·cases h
   ·cases h
  ·cases h
theorem Im{σ:Nat->Option Ob}{caps:List V}{u:HJ}(h:K7 σ caps=some u)(he:j8 u.e):caps=V.aV (yw u.ns) u.caps/\V.cQ u.ins.length u.caps=true/\u.ns.length=u.ins.length/\u.ns.Nodup/\(∀(i k:Nat) (o:Ob),u.ns[i]?=some k->u.ins[i]?=some o->σ k=some o/\FL o=true)/\u.ins.length<=400:=by
 unfold K7 at h;split at h;·rename_i hi;injection h with h;subst h;exact⟨(V.dU _ _ hi).symm,ic 0 caps hi,rfl,.nil,(fun i k o h=>by simp at h),Nat.zero_le _⟩
 ·generalize CQ _=ns at h;unfold J7 at h;split at h
  ·rename_i ins hins;obtain⟨h1,h2⟩:=xo hins;unfold J8 at h;split at h;·rename_i hb;injection h with h;subst h;simp only [Bool.and_eq_true]at hb;have hE:iG _:=he;have e1:=hE.hd;injection e1 with e1;exact⟨e1,hb.2.1,h1,ov hb.1,h2,Nat.le_of_ble_eq_true hb.2.2⟩
   ·cases h
  ·cases h
def Dq(σ:Nat->Option Ob):List V->List Nat
 | []=>[]
 |v::l=>match v with
  | .ref i o=>match o with
   |0=>match σ i with
    |some (.box _ cs)=>match cs.all V.zq with
     |true=>i::Dq σ l
     |false=>Dq σ l
    |_=>Dq σ l
   |_+1=>Dq σ l
  |_=>Dq σ l
def Nz(mu:List Nat)(σ:Nat->Option Ob)(v:V):List Nat:=match v with
 | .fn (.func gf) _ caps=>match jF mu gf with
  |true=>Dq σ caps
  |false=>[]
 |_=>[]
def OW:List (Nat×Option Ob)->List Nat
 | []=>[]
 | (k,o)::l=>match o with
  |some (.box _ cs)=>match V.bw cs && !V.dw [] cs with
   |true=>k::OW l
   |false=>OW l
  |_=>OW l
def rT(mu:List Nat)(s:CS)(g:Operand):CS:=Ft s (nr (Nz mu (fH s.sl) (ev s.tr.get g)) (fK (fH s.sl) 1000 (ev s.tr.get g).ids [])++OW s.sl)
def M9(l:List Nat):List Nat->Bool
 | []=>true
 |k::ns=>match jF l k with
  |true=>false
  |false=>M9 l ns
def F0(tr:TR)(ns:List Nat):List Nat->List Nat
 | []=>[]
 |t::l=>match M9 (tr.get t).ids ns with
  |true=>t::F0 tr ns l
  |false=>F0 tr ns l
def E4(v:V):List V:=match v with
 | .fn _ _ caps=>caps
 |_=>[]
def Py(v:V):List Nat:=match V.bw (E4 v)with
 |true=>[]
 |false=>CQ (V.oe (E4 v))
def Ki(tr:TR)(ns:List Nat)(ks:List Nat):List Nat:=match ns with
 | []=>ks
 |k::l=>F0 tr (k::l) ks
def Kw(call:fm)(T:List TI)(M mu:List Nat)(N np:Nat)(ps:List Nat)(as0 bd:Code)(s:CS)(nl:List Nat)(ks ns:List Nat)(es:List (List V))(obs:List (Ob×Ob)):Option (Exit×CS×CT):=
 match (es.all fun x=>Nat.beq x.length ps.length) && (ps.all (fun p=>decide (p< N)) && (ps.all (fun p=>decide (p< 1000)) && (ks.all (fun p=>decide (p< 1000)) && (decide (500+np+nl.length<=1000) && (IC (vP np nl.length) (obs.map Prod.snd) && (decide ((((vP np nl.length).zip (obs.map Prod.snd)).map fun p=>aI (fJ (500+np) nl) s.nx p.1).Nodup) && ((((vP np nl.length).zip (obs.map Prod.snd)).all fun p=> !jF ns (aI (fJ (500+np) nl) s.nx p.1)) && (jm (og np nl) (vD s.tr ks)).all fun p=>p.2.rI (vP np nl.length))))))))with
  |true=>match JL (fun x l=>Mb (vP np nl.length) (rU call T M mu N (vP np nl.length) (jm (og np nl) (vD s.tr ks)) ps as0 bd x l)) es (obs.map Prod.snd)with
   |some (c,lf,e)=>some (c,⟨Kz (jm (og np nl) (vD s.tr ks)),yp (vP np nl.length) lf,1⟩,.nd (.lf ((.vs (vals (vD s.tr ks)),.vs (V.aV (aI (fJ (500+np) nl) s.nx) (vals (jm (og np nl) (vD s.tr ks)))))::eO (aI (fJ (500+np) nl) s.nx) obs)) e)
   |none=>none
  |false=>none
def Kv(call:fm)(itr:mN)(T:List TI)(M mu:List Nat)(N np:Nat)(g:Operand)(ps:List Nat)(as0 bd:Code)(s:CS)(ks nl:List Nat):Option (Exit×CS×CT):=
 match ev s.tr.get g with
  | .fn (.func gf) [] caps=>match K7 (fH s.sl) caps with
   |some u=>match itr gf u.caps u.ins with
    |some (es,e0)=>match xk (fH s.sl) (og np nl) (pW np++nl)with
     |some obs=>match Kw call T M mu N np ps as0 bd s nl ks u.ns es obs with
      |some (c,s',e)=>some (c,s',.nd u.e (.nd e0 e))
      |none=>none
     |none=>none
    |none=>none
   |none=>none
  |_=>none
def Ku(call:fm)(itr:mN)(T:List TI)(M mu:List Nat)(N np:Nat)(g:Operand)(ps:List Nat)(as0 bd:Code)(s:CS)(ks:List Nat):Option (Exit×CS×CT):= Kv call itr T M mu N np g ps as0 bd s ks (nr (pW np) (fK (fH s.sl) 1000 (Lv (vD s.tr ks)++pW np) []))
def GR(call:fm)(itr:mN)(T:List TI)(M mu:List Nat)(N np:Nat):MR:=fun g ps as0 bd s=> Ku call itr T M mu N np g ps.toList as0 bd (rT mu s g) (Ki (rT mu s g).tr (Py (ev (rT mu s g).tr.get g)) (TR.keys id (rT mu s g).tr))
theorem GU{P:Program}{N:Nat}{C:Cx P N}{T:List TI}{M mu:List Nat}{call:fm}{itr:mN}{np:Nat}(hT:aL T P)(hcl:cX P call)(hit:nR P itr)(hF:C.F=Fence.wide)(hd:C.dfs=o6):AD C (GR call itr T M mu N np):=by
 intro g ps as0 bd s e s' t h he Q hQ;have hle:∀ {P:Program}{N:Nat}(C:Cx P N) a w,Gm C s.den a w->Gm C (rT mu s g).den a w:=qh s _;refine oV (s':=(rT mu s g).den) hle ?_;clear hle;unfold GR at h;generalize rT mu s g=s0 at h ⊢;generalize Ki _ _ _=ks at h;unfold Ku at h;generalize nr _ _=nl at h;unfold Kv at h;split at h
 ·rename_i gf caps hg;split at h
  ·rename_i u hu;split at h
   ·rename_i es e0 hes;split at h
    ·rename_i obs hobs;split at h
     ·rename_i c s1 e1 h2;simp only [Option.some.injEq,Prod.mk.injEq]at h;obtain⟨rfl,rfl,rfl⟩:=h;obtain⟨heu,he0,he⟩:=he;obtain⟨u1,u2,u3,u4,u5,u6⟩:=Im hu heu;unfold Kw at h2;split at h2
      ·rename_i hb;split at h2
       ·rename_i c1 lf e2 hw;simp only [Option.some.injEq,Prod.mk.injEq]at h2;obtain⟨rfl,rfl,rfl⟩:=h2;simp only [Bool.and_eq_true,decide_eq_true_eq]at hb;obtain⟨hb1,hb2,hb3,hb4,hb5,hb6,hb7,hb8,hb9⟩:=hb;obtain⟨hE,hew⟩:=he;have hE':iG _:=hE;have e1:=hE'.hd;injection e1 with e1;have hB:=hE'.tl;obtain⟨hlen,hget⟩:=kN hobs;have hps:∀p∈ps.toList,p< 1000:=fun p hp=>of_decide_eq_true (List.all_eq_true.1 hb3 p hp);have htl:∀p∈jm (og np nl) (vD s0.tr ks),p.1< 1000:=fun p hp=>by obtain⟨q,hq,hq2⟩:=xS hp;rw [<-hq2];exact of_decide_eq_true (List.all_eq_true.1 hb4 _ (BZ hq))
        have hpn:∀p∈vP np nl.length,500<=p/\p< 1000:=fun p hp=>by unfold vP pW at hp;simp only [List.mem_append,List.mem_map,List.mem_range]at hp;rcases hp with⟨a,ha,rfl⟩ | ⟨a,ha,rfl⟩ <;> omega
        have hs1:(CS.mk (Kz (jm (og np nl) (vD s0.tr ks))) (yp (vP np nl.length) lf) 1).den=⟨gy (jm (og np nl) (vD s0.tr ks)),dj ((vP np nl.length).zip lf),1⟩:=by unfold CS.den;rw [vE htl,sE]
        rw [hs1]at hQ;have H1:∀ok sl X k x l,KM (vP np nl.length) ok sl X k (rU call T M mu N (vP np nl.length) (jm (og np nl) (vD s0.tr ks)) ps.toList as0 bd x l)->∀C':Cx P N,AW C' as0 (eK (fun s'=>AW C' bd (oU (vP np nl.length) ok sl X k) s') (fun _ _=>False)) ⟨oB (gy (jm (og np nl) (vD s0.tr ks))) ps.toList x,dj ((vP np nl.length).zip l),1⟩:=fun ok sl X k x l hr C'=>DE hT hcl hpn htl hps hr C';have H2:∀p∈fJ (500+np) nl,p.1< 1000:=fun p hp=>by have:=xH hp;omega
        have H3:=rR (g:=aI (fJ (500+np) nl) s0.nx) (gi:=og np nl) (tm:=s0.tr.get) (tl:=vD s0.tr ks) B0 e1;generalize rU call T M mu N (vP np nl.length) (jm (og np nl) (vD s0.tr ks)) ps.toList as0 bd=rd at hw H1;generalize jm (og np nl) (vD s0.tr ks)=tl at*;refine DC u.ns hF hd (vP np nl.length) (fJ (500+np) nl) (hit _ _ _ _ _ hes he0) (by rw [<-u1];exact hg) u2 u3 u4 u5 (fun x hx=> ?_) hb2 tl rd (obs.map Prod.snd) hb6 H1 hpn hb9 H2 H3 (qc fun p hp=> ?_) (decide_eq_true hb7) (fun p hp=>by have:=List.all_eq_true.1 hb8 p hp;simp only [Bool.not_eq_true']at this;exact rA this) hw hew hQ;·have:=List.all_eq_true.1 hb1 x hx;have:=Nat.eq_of_beq_eq_true this;simpa using this
        ·obtain⟨i,h1,h2⟩:=vK hp;simp only [List.getElem?_map,Option.map_eq_some_iff]at h2;obtain⟨q,hq,hq2⟩:=h2;obtain⟨k,hk,hσ,hno⟩:=hget i q hq;have hil:=(List.getElem?_eq_some_iff.1 hq).1;rw [hlen]at hil;have hpl:(pW np).length=np:=by simp [pW]
         simp only [List.length_append,hpl]at hil;have hlk:aI (fJ (500+np) nl) s0.nx p.1=k:=by
          unfold vP at h1;unfold aI;by_cases hi:i< np
          ·rw [List.getElem?_append_left oM]at h1 hk;rw [hk]at h1;injection h1 with h1;have hkk:k=500+i:=by unfold pW at hk;rw [List.getElem?_map,List.getElem?_range hi]at hk;simp at hk;omega
           rw [<-h1,Bq oM];exact if_pos oM
          ·rw [List.getElem?_append_right oM]at h1 hk;rw [hpl]at h1 hk;rw [List.getElem?_map,List.getElem?_range oM]at h1;simp only [Option.map_some,Option.some.injEq]at h1;rw [<-h1,lF hk]
         refine⟨q.1,by rw [hlk];exact hσ,?_⟩;rw [<-hq2];exact ot hno (fE hB hq)
       ·cases h2
      ·cases h2
     ·cases h
    ·cases h
   ·cases h
  ·cases h
 ·cases h
end
end Go.Ab

namespace Go.Ab
open Go.RowKit Go.Dw Go.Shelf
noncomputable section
def EC:Nat->List V->TR->TR
 |_,[],tr=>tr
 |i,v::l,tr=>EC (i+1) l (TR.put 10 tr i v)
theorem wh:∀(l:List V) (i:Nat) (tr:TR) (t:Nat),i+l.length<=1000->(EC i l tr).get t=if i<=t/\t< i+l.length then l.getD (t- i) .any else tr.get t
 | [],i,tr,t,_=>by simp only [EC,List.length_nil];rw [if_neg oM]
 |v::l,i,tr,t,h=>by
  simp only [List.length_cons]at h;simp only [EC,List.length_cons];rw [wh l (i+1) _ t oM,TR.jL oM];by_cases h1:t=i;·subst h1;rw [if_neg oM,if_pos oM,aq,Nat.sub_self];rfl
  ·rw [ag _ _ h1];by_cases h2:i+1<=t/\t< i+1+l.length;·rw [if_pos h2,if_pos oM,show t- i=(t- (i+1))+1 by omega];rfl
   ·rw [if_neg h2,if_neg oM]
def FO:Nat->List Ob->List (Nat×Option Ob)
 |_,[]=>[]
 |k,o::l=>(k,some o)::FO (k+1) l
theorem xm:∀(l:List Ob) (k i:Nat),fH (FO k l) i=if k<=i then l[i- k]? else none
 | [],k,i=>by simp [FO,fH]
 |o::l,k,i=>by
  simp only [FO,fH];split;·rename_i h;have h:=Nat.eq_of_beq_eq_true h;subst h;rw [if_pos (Nat.le_refl _),Nat.sub_self];rfl
  ·rename_i h;have h:=Nat.ne_of_beq_eq_false h;rw [xm l (k+1) i];by_cases h2:k<=i;·rw [if_pos h2,if_pos oM,show i- k=(i- (k+1))+1 by omega];rfl
   ·rw [if_neg h2,if_neg oM]
def oC(args:List V)(ins:List Ob):CS:=⟨EC 0 args .e,FO 500 ins,1⟩
theorem mL{args:List V}{ins:List Ob}(h:args.length<=1000):(oC args ins).den=⟨fun t=>args.getD t .any,eX ins,1⟩:=by
 unfold CS.den oC;congr 1
 ·funext t;simp only;rw [wh args 0 .e t oM,TR.jh];simp only [Nat.zero_le,true_and,Nat.zero_add,Nat.sub_zero];split;·rfl
  ·rename_i h1;rw [List.getD_eq_getElem?_getD,List.getElem?_eq_none oM];rfl
 ·funext i;exact xm ins 500 i
def zT(s:CS):List ResultVar->List (Nat×V)
 | []=>[]
 | .tmp t::l=>(t,s.tr.get t)::zT s l
 | .cell a _::l=>(a,s.tr.get a)::zT s l
def xM(σ:Nat->Option Ob)(g:Nat->Nat):Nat->Nat->List (Option (Ob×Ob))
 |_,0=>[]
 |k,n+1=>(match σ k with
  |some o=>match yu g o with
   |some o'=>some (o,o')
   |none=>none
  |none=>none)::xM σ g (k+1) n
def si:List (Option (Ob×Ob))->List (Option Ob)
 | []=>[]
 |o::l=>o.map Prod.snd::si l
def AQ(g:Nat->Nat):List (Option (Ob×Ob))->List (CE×CE)
 | []=>[]
 |some p::l=>eO g [p]++AQ g l
 |none::l=>AQ g l
def G7(g:Nat->Nat):List Ob->List (CE×CE)
 | []=>[]
 |o::l=>uh g o++G7 g l
def BV(g:Nat->Nat):List (Option Ob)->List (CE×CE)
 | []=>[]
 |some o::l=>uh g o++BV g l
 |none::l=>BV g l
def CL:Nat->List (Ob×Ob)->List (Nat×Ob)
 |_,[]=>[]
 |k,p::l=>(k,p.2)::CL (k+1) l
theorem wG:∀ {l:List (Ob×Ob)}{k:Nat}{p:Nat×Ob},p∈CL k l->∃(i:Nat) (q:Ob×Ob),l[i]?=some q/\p.1=k+i/\p.2=q.2
 | [],_,_,h=>by simp [CL]at h
 |q::l,k,p,h=>by
  rcases List.mem_cons.1 h with rfl |h;·exact⟨0,q,rfl,rfl,rfl⟩
  ·obtain⟨i,q',h1,h2,h3⟩:=wG h;exact⟨i+1,q',by simpa using h1,by omega,h3⟩
def J6(T:List TI)(fn:Func)(n:Nat)(s:CS)(nl:List Nat)(tl:List (Nat×V))(m:Nat)(all:List (Ob×Ob))(outs:List (Option (Ob×Ob))):Option CR:=
 match decide (((j3 0 (((all.take m).map Prod.snd).map some)++(j3 500 (si outs)++CL m (all.drop m))).map fun p=>aI (fJ 0 nl) s.nx p.1).Nodup) && ((fJ 0 nl).all (fun p=>decide (p.1< 500)) && (decide (((all.take m).map Prod.snd).length<=90) && Nat.ble nl.length 400))with
  |true=>match pZ T ⟨gy (jm (FQ nl) tl),dj (j3 0 (((all.take m).map Prod.snd).map some)++(j3 500 (si outs)++CL m (all.drop m))),1⟩ fn.results.toList with
   |some v=>some ⟨v,si outs,(all.take m).map Prod.snd,.lf ((.vs (vals tl),.vs (V.aV (aI (fJ 0 nl) s.nx) (vals (jm (FQ nl) tl))))::
    (.vs [v],.vs [v.bx (bk ((all.take m).map Prod.snd).length n 1)])::(eO (aI (fJ 0 nl) s.nx) all++(AQ (aI (fJ 0 nl) s.nx) outs++(G7 (bk ((all.take m).map Prod.snd).length n 1) ((all.take m).map Prod.snd)++BV (bk ((all.take m).map Prod.snd).length n 1) (si outs)))))⟩
   |none=>none
  |false=>none
def J5(T:List TI)(fn:Func)(n:Nat)(s:CS)(nl:List Nat)(tl:List (Nat×V))(m:Nat):Option CR:=
 match xk (fH s.sl) (FQ nl) nl with
  |some all=>J6 T fn n s nl tl m all (xM (fH s.sl) (FQ nl) 500 n)
  |none=>none
def J4(T:List TI)(fn:Func)(n:Nat)(s:CS)(nv:List Nat):Option CR:= J5 T fn n s (nv++nr (pW n++nv) (fK (fH s.sl) 1000 (Lv (zT s fn.results.toList)) [])) (zT s fn.results.toList) nv.length
def wH(T:List TI)(fn:Func)(n:Nat)(s:CS):Option CR:=match pZ T s.den fn.results.toList with
 |some v0=>J4 T fn n s (nr (pW n) (fK (fH s.sl) 1000 (v0.ids++pW n) []))
 |none=>none
theorem rN{σ:Nat->Option Ob}{g:Nat->Nat}:∀ {n k i:Nat}{p:Ob×Ob},(xM σ g k n)[i]?=some (some p)->i< n/\σ (k+i)=some p.1/\yu g p.1=some p.2
 |0,_,_,_,h=>by simp [xM]at h
 |n+1,k,0,p,h=>by
  simp only [xM,List.getElem?_cons_zero,Option.some.injEq]at h;split at h
  ·rename_i o ho;split at h;·rename_i o' ho';simp only [Option.some.injEq]at h;subst h;exact⟨by omega,ho,ho'⟩
   ·cases h
  ·cases h
 |n+1,k,i+1,p,h=>by simp only [xM,List.getElem?_cons_succ]at h;obtain⟨h1,h2,h3⟩:=rN h;exact⟨by omega,by rw [<-h2];congr 1;omega,h3⟩
theorem xN{σ:Nat->Option Ob}{g:Nat->Nat}:∀ {n k:Nat},(xM σ g k n).length=n
 |0,_=>rfl
 |n+1,k=>by simp [xM,xN]
theorem sj:∀ {l:List (Option (Ob×Ob))}{i:Nat}{o:Option Ob},(si l)[i]?=some o->∃q,l[i]?=some q/\o=q.map Prod.snd
 | [],_,_,h=>by simp [si]at h
 |q::l,0,o,h=>by simp [si]at h;exact⟨q,rfl,h.symm⟩
 |q::l,i+1,o,h=>by simpa using sj (l:=l) (by simpa [si]using h)
theorem xZ:∀ {l:List (Option (Ob×Ob))},(si l).length=l.length
 | []=>rfl
 |_::l=>by simp [si,xZ]
theorem nX{g:Nat->Nat}:∀ {l:List (Option (Ob×Ob))},iG (AQ g l)->∀ {i:Nat}{p:Ob×Ob},l[i]?=some (some p)->iG (eO g [p])
 |some q::l,h,0,p,hp=>by simp at hp;subst hp;exact h.l
 |none::l,h,0,p,hp=>by simp at hp
 |some q::l,h,i+1,p,hp=>nX h.r (by simpa using hp)
 |none::l,h,i+1,p,hp=>nX (l:=l) h (by simpa using hp)
theorem uj{g:Nat->Nat}:∀ {l:List Ob},iG (G7 g l)->∀ {i:Nat}{o:Ob},l[i]?=some o->iG (uh g o)
 |q::l,h,0,p,hp=>by simp at hp;subst hp;exact h.l
 |q::l,h,i+1,p,hp=>uj h.r (by simpa using hp)
theorem oD{g:Nat->Nat}:∀ {l:List (Option Ob)},iG (BV g l)->∀ {i:Nat}{o:Ob},l[i]?=some (some o)->iG (uh g o)
 |some q::l,h,0,p,hp=>by simp at hp;subst hp;exact h.l
 |none::l,h,0,p,hp=>by simp at hp
 |some q::l,h,i+1,p,hp=>oD h.r (by simpa using hp)
 |none::l,h,i+1,p,hp=>oD (l:=l) h (by simpa using hp)
theorem rS{s:CS}:∀ {rs:List ResultVar},∀p∈zT s rs,s.tr.get p.1=p.2
 | [],p,h=>by simp [zT]at h
 | .tmp t::l,p,h=>by
  rcases List.mem_cons.1 h with rfl |h;·rfl
  ·exact rS (rs:=l) p h
 | .cell a _::l,p,h=>by
  rcases List.mem_cons.1 h with rfl |h;·rfl
  ·exact rS (rs:=l) p h
theorem Gt{g:Nat->Nat}{l:List (Option Ob)}(h:∀(i:Nat) (o:Ob),l[i]?=some (some o)->o.bx g=o):Km g l=l:=by
 unfold Km;refine List.ext_getElem? fun i=> ?_;rw [List.getElem?_map];cases hi:l[i]? with
 |none=>rfl
 |some o=>
  cases o with
  |none=>rfl
  |some o=>simp [h i o hi]
theorem Ky{l:List (Ob×Ob)}{m i:Nat}{q:Ob×Ob}(h:(l.take m)[i]?=some q):l[i]?=some q:=by
 rw [List.getElem?_take]at h;split at h;·exact h
 ·cases h
theorem A4{T:List TI}{fn:Func}{n:Nat}{s:CS}{r:CR}{e:Exit}(hn:n<=400)(he:e= .normal\/e= .ret)(h:wH T fn n s=some r)(hE:j8 r.e) :
    dM T fn n r.v r.outs r.obs e s.den/\r.outs.length=n/\r.obs.length<=90:=by
  unfold wH at h
  split at h
  · unfold J4 at h
    generalize nr (pW n) _=nv at h
    generalize nv++nr _ _=nl at h
    generalize nv.length=m at h
    unfold J5 at h
    split at h
    · rename_i obs hobs
      unfold J6 at h
      split at h
      · rename_i hb
        split at h
        · rename_i v hv
          injection h with h;subst h
          simp only [Bool.and_eq_true]at hb
          obtain⟨hb1,hb2,hb3,hb4⟩:=hb
          have hob:=of_decide_eq_true hb3
          obtain⟨hlen,hget⟩:=kN hobs
          have hnl:=Nat.le_of_ble_eq_true hb4
          have hE':iG _:=hE
          have e1:=hE'.hd
          injection e1 with e1
          have e2:=hE'.tl.hd
          injection e2 with e2
          have hB:=hE'.tl.tl.l
          have hO:=hE'.tl.tl.r.l
          have hS:=hE'.tl.tl.r.r.l
          have hSO:=hE'.tl.tl.r.r.r
          simp only [V.aV,List.cons.injEq,and_true]at e2
          refine⟨NY (tm:=s.tr.get) (σ:=fH s.sl) (nx:=s.nx) (fJ 0 nl) (jm (FQ nl) (zT s fn.results.toList)) (CL m (obs.drop m)) he (rR rS e1) (qc fun p hp=> ?_) hb1 hb2 hb3 hv rfl e2.symm (Gt fun i o hi=> ?_),by rw [xZ,xN],hob⟩
          · rcases List.mem_append.1 hp with hp |hp
            · obtain⟨i,h1,h2⟩:=qt hp
              simp only [List.getElem?_map,Option.map_eq_some_iff]at h2
              obtain⟨o',⟨q,hq,rfl⟩,h4⟩:=h2
              injection h4 with h4
              have hq:=Ky hq
              obtain⟨k,hk,hσ,hno⟩:=hget i q hq
              have hg:aI (fJ 0 nl) s.nx p.1=k:=by
                unfold aI
                rw [h1,lF hk]
              refine⟨q.1,by rw [hg];exact hσ,?_⟩
              rw [<-h4]
              exact ot hno (fE hB hq)
            rcases List.mem_append.1 hp with hp |hp
            rotate_left
            · obtain⟨i,q,hq,h1,h2⟩:=wG hp
              rw [List.getElem?_drop]at hq
              obtain⟨k,hk,hσ,hno⟩:=hget (m+i) q hq
              have hg:aI (fJ 0 nl) s.nx p.1=k:=by
                unfold aI
                rw [h1,show m+i=0+(m+i) by omega,lF hk]
              refine⟨q.1,by rw [hg];exact hσ,?_⟩
              rw [h2]
              exact ot hno (fE hB hq)
            · obtain⟨i,h1,h2⟩:=qt hp
              obtain⟨q,hq,hq2⟩:=sj h2
              cases q with
              |none=>cases hq2
              |some q=>
                simp only [Option.map_some,Option.some.injEq]at hq2
                obtain⟨hin,hσ,hno⟩:=rN hq
                have hg:aI (fJ 0 nl) s.nx p.1=500+i:=by
                  unfold aI
                  rw [h1,tZ oM]
                  exact if_pos oM
                refine⟨q.1,by rw [hg];exact hσ,?_⟩
                rw [hq2]
                exact ot hno (nX hO hq)
          · by_cases hlt:i< ((obs.take m).map Prod.snd).length
            · rw [List.getElem?_append_left (by simpa using hlt)]at hi
              simp only [List.getElem?_map,Option.map_eq_some_iff]at hi
              obtain⟨o',⟨q,hq,rfl⟩,h4⟩:=hi
              injection h4 with h4
              have hq0:=hq
              have hq:=Ky hq
              obtain⟨k,hk,hσ,hno⟩:=hget i q hq
              rw [<-h4]
              exact xD hno (uj hS (i:=i) (by rw [List.getElem?_map,hq0];rfl))
            · rw [List.getElem?_append_right (by simpa using Nat.le_of_not_lt hlt)]at hi
              obtain⟨q,hq,hq2⟩:=sj hi
              cases q with
              |none=>cases hq2
              |some q=>
                simp only [Option.map_some,Option.some.injEq]at hq2
                obtain⟨hin,hσ,hno⟩:=rN hq
                rw [hq2]
                rw [hq2]at hi
                exact xD hno (oD hSO hi)
        · cases h
      · cases h
    · cases h
  · cases h
def Pj:Ob->V
 | .row _ sz n f=> .sl sz n f
 | .box _ cs=> .ptr cs
 | .mp _ _=> .any
def IG:Nat->List Ob->List V->List V
 |_,[],args=>args
 |k,o::l,args=>IG (k+1) l (V.nP k (Pj o) args)
def xd:List Ob->Bool
 | []=>true
 | .row _ _ n f::l=>match ((List.range n).map f).all V.bw with
  |true=>xd l
  |false=>false
 | .box _ cs::l=>match V.bw cs with
  |true=>xd l
  |false=>false
 | .mp _ _::_=>false
theorem rz:∀ {l:List Ob},xd l=true->∀ {i:Nat}{o:Ob},l[i]?=some o->match o with
    | .row _ _ n f=>∀i,i< n->V.bw (f i)=true
    | .box _ cs=>V.bw cs=true
    | .mp _ _=>False
  | [],_,i,o,hi=>by simp at hi
  | .row e sz n f::l,h,i,o,hi=>by
    simp only [xd]at h
    split at h
    · rename_i ha
      cases i with
      |zero=>
        simp at hi;subst hi
        intro j hj
        have:=gZ ha j
        rwa [lJ hj]at this
      |succ i=>exact rz h (by simpa using hi)
    · cases h
  | .box t cs::l,h,i,o,hi=>by
    simp only [xd]at h
    split at h
    · rename_i ha
      cases i with
      |zero=>simp at hi;subst hi;exact ha
      |succ i=>exact rz h (by simpa using hi)
    · cases h
  | .mp _ _::l,h,i,o,hi=>by simp [xd]at h
theorem MZ{w:World}{L:Nat->Prop}{ρ:Nat->Option Value}{id:Nat}{v0:V}(h0:∀y,ρ id=some y->R w L ρ v0 y){us:List V}{xs:List Value}(h:RV w L ρ us xs):RV w L ρ (V.nP id v0 us) xs:=by
 refine⟨by rw [V.fc];exact h.1,fun i u x hu hx=> ?_⟩;rw [V.gM]at hu;cases hc:us[i]? with
 |none=>rw [hc]at hu;cases hu
 |some a=>rw [hc]at hu;simp only [Option.map_some,Option.some.injEq]at hu;subst hu;exact mO h0 _ _ (h.2 i a x hc hx)
theorem D9{w:World}{L:Nat->Prop}{ρ:Nat->Option Value}{xs:List Value}:∀(l:List Ob) (k:Nat) (us:List V),(∀i o,l[i]?=some o->∀y,ρ (k+i)=some y->R w L ρ (Pj o) y)->RV w L ρ us xs->RV w L ρ (IG k l us) xs
 | [],_,_,_,h=>h
 |o::l,k,us,h0,h=>D9 l (k+1) _ (fun i o' hi y hy=>h0 (i+1) o' (by simpa using hi) y (by rw [<-hy];congr 1;omega)) (MZ (fun y hy=>h0 0 o rfl y hy) h)
theorem AM.keep{P:Program}{f:FuncId}{args:List V}{ins:List Ob}{v:V}(h:AM P f (IG 500 ins args) [] v [] [])(hi:V.bw (IG 500 ins args)=true)(hi2:xd ins=true)(hv:v.qX=true):AM P f args ins v (ins.map some) []:=by
 refine⟨h.1,fun W LB L w ρ vs hwl hWL hG hρ hvs=> ?_⟩;have hins:∀i o,ins[i]?=some o->eX ins (500+i)=some o:=fun i o hi=>by unfold eX;rw [if_pos oM,Nat.add_sub_cancel_left];exact hi
 obtain⟨Lx,hLx⟩:∃Lx:Nat->Prop,∀b,Lx b<->L b\/∃i x,i< ins.length/\ρ (500+i)=some x/\blk x=some b:=⟨_,fun _=>Iff.rfl⟩;have hobj:∀i o,ins[i]?=some o->∃y,ρ (500+i)=some y/\(∀k,blk y=some k->k< w.heap.size/\W k/\¬L k)/\R w Lx ρ (Pj o) y:=by
  intro i o hio;have hlt:=(List.getElem?_eq_some_iff.1 hio).1;have hr:=hG.ob _ _ (hins i o hio);have hc:=rz hi2 hio;have fin:∀u y,ρ (500+i)=some y->(∀k,blk y=some k->k< w.heap.size/\W k/\¬L k)->R w (fun b=>L b\/blk y=some b) ρ u y->∃y,ρ (500+i)=some y/\(∀k,blk y=some k->k< w.heap.size/\W k/\¬L k)/\R w Lx ρ u y:=fun u y h1 h2 h3=> ⟨y,h1,h2,h3.ext ⟨fun b hb=>⟨(hLx b).2 (hb.imp id fun h=>⟨i,y,hlt,h1,h⟩),rfl⟩,fun _ _ h=>h⟩⟩;cases o with
  |row e sz n row=>obtain⟨y,h1,h2,h3⟩:=hr.slice hc;exact fin _ y h1 h2 h3
  |box t cs=>obtain⟨y,h1,h2,h3⟩:=hr.ptr hc;exact fin _ y h1 h2 h3
  |mp _ _=>exact hc.elim
 have hLb:∀b,Lx b->b< w.heap.size:=fun b hb=>by
  rcases(hLx b).1 hb with hb | ⟨i,x,hil,hx,hbx⟩;·exact(hG.ll b hb).1
  ·obtain⟨y,h1,h2,_⟩:=hobj i _ (List.getElem?_eq_getElem hil);rw [h1]at hx;injection hx with hx;subst hx
   exact(h2 b hbx).1
 have ex:Ext w L ρ w Lx ρ:=⟨fun b hb=>⟨(hLx b).2 (.inl hb),rfl⟩,fun _ _ h=>h⟩;have hrv:RV w Lx ρ0 (IG 500 ins args) vs.toList:=by refine RV.free (ρ:=ρ) ?_ hi;refine D9 ins 500 args (fun i o hio y hy=> ?_) ⟨hvs.1,fun i u x hu hx=>(hvs.2 i u x hu hx).ext ex⟩;obtain⟨y',h1,_,h3⟩:=hobj i o hio;rw [h1]at hy;injection hy with hy;subst hy;exact h3
 refine(h.2 (fun b=>w.heap.size<=b) (fun b=>Lx b\/w.heap.size<=b) Lx w ρ0 vs (fun b hb=> .inr hb) (fun b hb hL=>by have:=hLb b hL;omega) ⟨fun b hb=>⟨hLb b hb,.inl hb⟩,fun b hb=>⟨hb,.inr hb⟩,(fun id o ho=>by unfold eX at ho;split at ho <;> simp at ho),(fun i j x y k _ _ _ hx=>by cases hx),hG.sH ex⟩ (fun _ _=>rfl) hrv).mono ?_;rintro e w' ⟨x,rfl,ht,L',ρ',hG',hE',hx,hnn⟩;have hbel:Below w.heap.size w w':=ht.below (Nat.le_refl _) fun j hj hW=>by have hW':w.heap.size<=j:=hW;omega
 obtain⟨hG2,ex2⟩:=hG.quiet hbel (L':=L) (fun _ h=>h) (fun _ h=> .inl h);have eo:ga (ins.map some) []=eX ins:=by
  funext id;unfold ga eX;by_cases h5:500<=id;·rw [if_pos h5,if_pos h5,List.getElem?_map];cases ins[id- 500]? <;> rfl
  ·rw [if_neg h5,if_neg h5];simp
 refine⟨x,rfl,aZ.f9 hbel fun k _ hk=>(hG.new k hk).1,L,ρ,?_,ex2,hx.qX hv,fun j _ hj=>hρ j hj⟩;rw [eo];exact hG2
theorem Cc{T:List TI}{P:Program}(hT:aL T P)(hmx:P.follows .mixedOrders=true){f:FuncId}{fn:Func}{c:Code}{N:Nat}(hk:qy P f fn c N){args:List V}{ins:List Ob}{v:V}{obs:List Ob}(hargs:args.length<=N)(hn4:ins.length<=400)(ho9:obs.length<=90)
    (h:∀C:Cx P N,C.F=Fence.wide->C.dfs=o6->AW C c (dM T fn 0 v [] obs) ⟨fun t=>args.getD t .any,eX ins,1⟩):AM P f args ins v (ins.map fun _=>none) obs:=by
  refine⟨hk.call,fun W LB L w ρ vs hwl hWL hG hρn hvs=> ?_⟩
  obtain⟨C,hW,hLB,hd,hFw⟩:∃C:Cx P N,C.W=W/\C.LB=LB/\C.dfs=o6/\C.F=Fence.wide:=⟨⟨W,LB,hwl,o6,hmx,Fence.wide,.inl rfl⟩,rfl,rfl,rfl,rfl⟩
  have hvl:vs.size=args.length:=by have:=hvs.1;simpa using this.symm
  refine callsIn_wide.1 (callsIn_of_wp_marks (n:=0) hk.hf hk.hb trivial ?_ rfl)
  have hw:=h C hFw hd
  unfold AW at hw
  rw [hFw]at hw
  refine wpIn_mono (hw _ w ⟨L,ρ,⟨?_,fun id hid=> ?_,fun t=> ?_,?_,?_,fun id x hp=> ?_⟩⟩) ?_
  · rw [hW,hLB];exact hG
  · have hid':1*100000<=id:=hid
    exact hρn id (.inr oM)
  · by_cases ht:t< args.length
    · have h1:args[t]?=some args[t]:=List.getElem?_eq_getElem ht
      obtain⟨x,hx,hr⟩:=hvs.get h1
      have e1:args.getD t .any=args[t]:=by simp [List.getD_eq_getElem?_getD,h1]
      have e2:(vs++Array.replicate (fn.ntmps- vs.size) undef).getD t undef=x:=by
        rw [Array.getD_eq_getD_getElem?,Array.getElem?_append_left oM]
        have:vs[t]?=some x:=by simpa using hx
        rw [this];rfl
      show R w L ρ (args.getD t .any) _
      rw [e1,e2];exact hr
    · have e1:args.getD t .any= .any:=by simp [List.getD_eq_getElem?_getD,List.getElem?_eq_none (Nat.le_of_not_lt ht)]
      show R w L ρ (args.getD t .any) _
      rw [e1];exact .any _ _
  · rw [<-hk.hn]at hargs ⊢
    simp;omega
  · exact⟨[],by rw [hd];rfl,by simp,by simp⟩
  · rw [hd]at hp;cases hp
  · rintro e a' w' ⟨s',⟨he,s'',hle,hres,hob,hout,hcv,hco,hcu⟩,g',t⟩
    obtain⟨L',ρ',g''⟩:=hle C a' w' g'
    rw [hW]at t
    obtain⟨Ds,d1,d2,d3⟩:=g''.defers
    rw [hd,show o6.tl=[]from rfl,List.append_nil]at d1
    refine jC Ds he d1 d2 (fun D hD=>(d3 D hD).1) fun w2 ht2=> ?_
    obtain⟨g2,e2⟩:=g''.g.marks ht2 d3
    obtain⟨x,hx,hr⟩:=nH hT g2 (fun t=>(g''.tm t).ext e2) fn hres
    have hWD:∀D∈Ds,W D:=fun D hD=>by have:=(d3 D hD).2.1;rw [hW]at this;exact this
    have tt:aZ W w w2:=t.trans (ht2.mono fun k _ hkD=>hWD k hkD)
    refine⟨x,hx,x,rfl,tt,?_⟩
    have hr2:R w2 L' (fun i=>ρ' (bk obs.length 0 s''.nx i)) v x:=kz _ _ _ (by rw [hcv];exact hr)
    have hlt:∀i,i< obs.length->bk obs.length 0 s''.nx i=i:=fun i hi=>by unfold bk;rw [if_pos (.inl hi)]
    have hoF:∀id o,ga (ins.map fun _=>none) obs id=some o->s''.σ id=some o/\bk obs.length 0 s''.nx id=id/\o.bx (bk obs.length 0 s''.nx)=o:=by
      intro id o ho
      unfold ga at ho
      split at ho
      · rename_i h5
        rw [List.getElem?_map]at ho
        cases hq:ins[id- 500]? with
        |none=>rw [hq]at ho;cases ho
        |some q=>rw [hq]at ho;cases ho
      · exact⟨hob id o ho,hlt id (List.getElem?_eq_some_iff.1 ho).1,hco o (List.mem_of_getElem? ho)⟩
    have hfr:∀i,obs.length<=i->ρ' (bk obs.length 0 s''.nx i)=none:=fun i hi=>by
      have e3:bk obs.length 0 s''.nx i=s''.nx*100000+i:=if_neg oM
      rw [e3]
      exact g''.fr _ (by unfold bR;omega)
    obtain⟨ρ2,hρ2⟩:∃ρ2:Nat->Option Value,∀i,ρ2 i=if 500<=i/\i< 500+ins.length then ρ i else ρ' (bk obs.length 0 s''.nx i):=⟨_,fun _=>rfl⟩
    have hρlt:∀i,i< 500->ρ2 i=ρ' (bk obs.length 0 s''.nx i):=fun i hi=>by rw [hρ2,if_neg oM]
    have hE2:Ext w2 L' (fun i=>ρ' (bk obs.length 0 s''.nx i)) w2 (fun b=>L' b\/L b) ρ2:=⟨fun b hb=>⟨.inl hb,rfl⟩,fun id v hv=>by
      by_cases hi:id< obs.length
      · rw [hρlt id oM];exact hv
      · have hv:ρ' (bk obs.length 0 s''.nx id)=some v:=hv
        rw [hfr id oM]at hv;cases hv⟩
    refine⟨fun b=>L' b\/L b,ρ2,⟨fun b hb=> ?_,fun b hb=> ?_,fun id o ho=> ?_,fun i j x y k hij hi hj=> ?_,g2.OQ hE2.l⟩,⟨fun b hb=>⟨.inr hb,tt.block b (hG.ll b hb).1 fun hc=>hWL b hc hb⟩,fun id x hx=> ?_⟩,hr2.ext hE2,fun j hj hj5=> ?_⟩
    · rcases hb with hb |hb
      · have:=g2.ll b hb
        rw [hLB]at this
        exact⟨this.1,this.2⟩
      · exact⟨Nat.lt_of_lt_of_le (hG.ll b hb).1 tt.size,(hG.ll b hb).2⟩
    · exact hG.new b (Nat.le_trans tt.size hb)
    · obtain⟨q1,q2,q3⟩:=hoF id o ho
      have hr0:=g2.ob id o q1
      rw [hW]at hr0
      have hr:Real W w2 L' (fun i=>ρ' (bk obs.length 0 s''.nx i)) id o:=Real.bx (by rw [q2,q3];exact hr0)
      obtain⟨y,hy,hy2⟩:=hr.lt
      refine hr.keep hE2 fun x k hx hk=> ?_
      rw [hx]at hy;injection hy with hy;subst hy
      refine⟨rfl,?_⟩
      rintro(h1 |h1)
      · exact(hy2 k hk).2.2 h1
      · exact hWL k (hy2 k hk).2.1 h1
    · have key:∀i,ga (ins.map fun _=>none) obs i≠none->s''.σ i≠none/\bk obs.length 0 s''.nx i=i/\i< 500:=fun i hi=>by
        cases ho:ga (ins.map fun _=>none) obs i with
        |none=>exact absurd ho hi
        |some o=>
          obtain⟨q1,q2,_⟩:=hoF i o ho
          refine⟨by rw [q1];simp,q2,?_⟩
          unfold ga at ho
          split at ho
          · rw [List.getElem?_map]at ho
            cases hq:ins[i- 500]? with
            |none=>rw [hq]at ho;cases ho
            |some q=>rw [hq]at ho;cases ho
          · omega
      rw [hρlt i (key i hi).2.2,hρlt j (key j hj).2.2,(key i hi).2.1,(key j hj).2.1]
      exact g2.sep i j x y k hij (key i hi).1 (key j hj).1
    · by_cases h5:500<=id/\id< 500+ins.length
      · rw [hρ2,if_pos h5];exact hx
      · rw [hρn id oM]at hx;cases hx
    · rw [hρ2,if_neg oM]
      exact hfr j hj
abbrev ML:Type:=List (FuncId×List Nat)
def MU:ML->FuncId->List Nat
 | [],_=>[]
 | (k,m)::l,f=>match Nat.beq f k with
  |true=>m
  |false=>MU l f
def Is(mu:List Nat)(f:FuncId)(args:List V)(ins:List Ob):CS:=match jF mu f with
 |true=>oC args ins
 |false=>Ft (oC args ins) ((List.range ins.length).map (500+ ·))
theorem A8(mu:List Nat)(f:FuncId)(args:List V)(ins:List Ob):Le (oC args ins).den (Is mu f args ins).den:=by
 unfold Is;split;·exact Le.refl _
 ·exact qh _ _
def Js(call:fm)(itrI:mN)(T:List TI)(M mu:List Nat)(N np:Nat):MR:=fun g ps as0 bd s=>match np with
 |0=>GR call itrI T M mu N 0 g ps as0 bd s
 |_+1=>none
theorem BM{P:Program}{N:Nat}{C:Cx P N}{T:List TI}{M mu:List Nat}{call:fm}{itrI:mN}{np:Nat}(hT:aL T P)(hcl:cX P call)(hitI:nR P itrI)(hF:C.F=Fence.wide)(hpin:∀id x,C.dfs.pin id=some x->500<=id/\id< 500+np)(htl:C.dfs.tl=[]):AD C (Js call itrI T M mu N np):=by
 intro g ps as0 bd s e s' t h he Q hQ;unfold Js at h;split at h
 ·have hd:C.dfs=o6:=by
   have hp:C.dfs.pin=fun _=>none:=by
    funext id;cases hx:C.dfs.pin id with
    |none=>rfl
    |some x=>have:=hpin id x hx;omega
   generalize C.dfs=D at hp htl;cases D;simp only at hp htl;subst hp htl;rfl
  exact GU hT hcl hitI hF hd _ _ _ _ _ _ _ _ h he Q hQ
 ·cases h
def M7(T:List TI)(fn:Func)(n:Nat)(r:Exit×CS×CT):Option CR:=match r.1 with
 | .ret=>oE (wH T fn n r.2.1) none fun q=>some ⟨q.v,q.outs,q.obs,y4 r.2.2 q.e⟩
 | .normal=>oE (wH T fn n r.2.1) none fun q=>some ⟨q.v,q.outs,q.obs,y4 r.2.2 q.e⟩
 |_=>none
def CM(call:fm)(itrI:mN)(T:List TI)(M mu:List Nat)(f:FuncId)(fn:Func)(c:Code)(args:List V)(ins:List Ob):Option CR:= oE (wV call (Js call itrI T M mu fn.ntmps ins.length) T M mu fn.ntmps c (Is mu f args ins)) none (M7 T fn ins.length)
def J3(o:Option CR)(ins:List Ob)(els:Option CR):Option CR:=match o with
 |some r=>match r.outs with
  | []=>match r.obs with
   | []=>match r.v.qX with
    |true=>some ⟨r.v,ins.map some,[],r.e⟩
    |false=>els
   |_::_=>els
  |_::_=>els
 |none=>none
def J1(T:List TI)(fn:Func)(ins:List Ob)(r:Exit×CS×CT):Option CR:=match r.1 with
 | .ret=>oE (wH T fn 0 r.2.1) none fun q=>some ⟨q.v,ins.map fun _=>none,q.obs,y4 r.2.2 q.e⟩
 | .normal=>oE (wH T fn 0 r.2.1) none fun q=>some ⟨q.v,ins.map fun _=>none,q.obs,y4 r.2.2 q.e⟩
 |_=>none
def J2(call:fm)(itrI:mN)(T:List TI)(M mu:List Nat)(f:FuncId)(fn:Func)(c:Code)(args:List V)(ins:List Ob):Option CR:= oE (wV call (Js call itrI T M mu fn.ntmps 0) T M mu fn.ntmps c (Is mu f args ins)) none (J1 T fn ins)
def ES(call:fm)(itrI:mN)(T:List TI)(M mu:List Nat)(f:FuncId)(fn:Func)(c:Code)(args:List V)(ins:List Ob):Option CR:=match ins with
 | []=>CM call itrI T M mu f fn c args []
 |o::l=>match jF mu f with
  |true=>CM call itrI T M mu f fn c args (o::l)
  |false=>match xd (o::l) && V.bw (IG 500 (o::l) args)with
   |true=>J3 (CM call itrI T M mu f fn c (IG 500 (o::l) args) []) (o::l) (CM call itrI T M mu f fn c args (o::l))
   |false=>match CM call itrI T M mu f fn c args (o::l)with
    |some r=>some r
    |none=>J2 call itrI T M mu f fn c args (o::l)
def FT(caps:List V)(ins:List Ob)(l:Nat):CS:=oC (V.c (.func (.yield l) #[] #[])::caps) ins
theorem Db{caps:List V}{ins:List Ob}{l:Nat}(h:caps.length+1<=1000):(FT caps ins l).den=⟨fun t=>((V.c (.func (.yield l) #[] #[]))::caps).getD t .any,eX ins,1⟩:= mL (args:=V.c (.func (.yield l) #[] #[])::caps) (ins:=ins) (by simpa using h)
def Bg(call:fm)(T:List TI)(M mu:List Nat)(N:Nat)(c:Code)(caps:List V)(ins:List Ob)(l:Nat):Option (List (List V)×CT):=zv true call T M mu N l 20000 (.code c [] (FT caps ins l))
def EV(P:Program)(T:List TI)(M:ML)(mu:List Nat)(call:fm):mN:=fun f caps ins=>match P.funcs[f]? with
 |some fn=>match fn.body with
  |some c=>match fn.name == "runtime.NumGoroutine" with
   |false=>match fn.results with
    | ⟨[]⟩=>match Nat.ble (caps.length+1) 1000 && (Nat.ble (caps.length+1) fn.ntmps && Nat.ble ins.length 400)with
     |true=>match Bg call T (MU M f) mu fn.ntmps c caps ins 0 with
      |some (es,_)=>some (es,.lf [(.ys fun l=>LF (Bg call T (MU M f) mu fn.ntmps c caps ins l),.ys fun _=>some es),(.n fun l=>(OT (Bg call T (MU M f) mu fn.ntmps c caps ins l)).Oz.map Prod.fst,.n fun l=>(OT (Bg call T (MU M f) mu fn.ntmps c caps ins l)).Oz.map Prod.snd)])
      |none=>none
     |false=>none
    |_=>none
   |true=>none
  |none=>none
 |none=>none
theorem EW{P:Program}{T:List TI}(hT:aL T P)(hmx:P.follows .mixedOrders=true){M:ML}{mu:List Nat}{call:fm}(hcl:cX P call):nR P (EV P T M mu call):=by
 intro f caps ins es e h hE;unfold EV at h;split at h
 ·rename_i fn hf;split at h
  ·rename_i c hc;split at h
   ·rename_i hname;split at h
    ·rename_i hres;split at h
     ·rename_i hb;simp only [Bool.and_eq_true]at hb;split at h;·rename_i es0 e0 hr;simp only [Option.some.injEq,Prod.mk.injEq]at h;obtain⟨rfl,rfl⟩:=h;have hE':iG _:=hE;have h1:=hE'.hd;have h2:=hE'.tl.hd;injection h1 with h1;injection h2 with h2;exact HQ hT hmx hcl ⟨hf,hc,rfl,hname⟩ hres (Nat.le_of_ble_eq_true hb.2.1) (Nat.le_of_ble_eq_true hb.2.2) (FT caps ins) (fun l=>Db (Nat.le_of_ble_eq_true hb.1)) (fun l=>congrFun h1 l) fun l=>CT.Ac (uX (congrFun h2 l))
      ·cases h
     ·cases h
    ·cases h
   ·cases h
  ·cases h
 ·cases h
def PC(mu:List Nat)(call:fm):fm:=fun f args ins=>match args with
 | []=>match ins with
  | []=>match jF mu (1000000+f)with
   |true=>some ⟨.b true,[],[],c0⟩
   |false=>call f [] []
  |o::l=>call f [] (o::l)
 |a::l=>call f (a::l) ins
def D7(P:Program)(mu:List Nat):Prop:=∀f,jF mu (1000000+f)=true->AM P f [] [] (.b true) [] []
theorem LX{P:Program}{mu:List Nat}{call:fm}(hK:D7 P mu)(hcl:cX P call):cX P (PC mu call):=by
 refine⟨fun f args ins r hm h hE=> ?_,fun name t r n h hv=>hcl.2 name t r n h hv⟩;unfold PC at h;split at h
 ·split at h
  ·split at h;·rename_i hk;injection h with h;subst h;exact hK f hk
   ·exact hcl.1 _ _ _ _ hm h hE
  ·exact hcl.1 _ _ _ _ hm h hE
 ·exact hcl.1 _ _ _ _ hm h hE
theorem Gw{P:Program}:∀ {mu:List Nat},(mu.all fun f=>Nat.ble f 999999)=true->D7 P mu
 | [],_,f,h=>by cases h
 |k::l,hm,f,h=>by
  simp only [List.all_cons,Bool.and_eq_true]at hm;simp only [jF]at h;split at h;·rename_i hb;have:=Nat.eq_of_beq_eq_true hb;have:=Nat.le_of_ble_eq_true hm.1;omega
  ·exact Gw hm.2 f h
def OU:List (FuncId×List V×V)->FuncId->Option (List V×V)
 | [],_=>none
 |k::l,f=>match Nat.beq f k.1 with
  |true=>some k.2
  |false=>OU l f
def zJ(K:List (FuncId×List V×V))(call:fm):fm:=fun f args ins=>match Nat.beq f Gp with
 |true=>call Gp args ins
 |false=>match ins with
  | []=>match OU K f with
   |some k=>some ⟨k.2,[],[],.lf [(.vs args,.vs k.1)]⟩
   |none=>call f args []
  |o::l=>call f args (o::l)
def jv(P:Program)(K:List (FuncId×List V×V)):Prop:=∀f k,OU K f=some k->AM P f k.1 [] k.2 [] []
theorem nC{P:Program}{K:List (FuncId×List V×V)}{call:fm}(hK:jv P K)(hcl:cX P call):cX P (zJ K call):=by
 refine⟨fun f args ins r hm h hE=> ?_,fun name t r n h hv=>hcl.2 name t r n h hv⟩;unfold zJ at h;rw [hm]at h;simp only at h;split at h
 ·split at h;·rename_i k hk;injection h with h;subst h;have hE':iG _:=hE;have e1:=hE'.hd;injection e1 with e1;rw [e1];exact hK f k hk
  ·exact hcl.1 _ _ _ _ hm h hE
 ·exact hcl.1 _ _ _ _ hm h hE
def K6(P:Program)(args:List V):Option CR:=match args with
 | [.fn (.method name) [] [],.c (.int .i64 n)]=>match Gi P name n.toNat with
  |some f=>some ⟨.i (f:Int),[],[],c0⟩
  |none=>none
 |_=>none
def kF(O:fm->fm)(P:Program)(T:List TI)(M:ML)(mu:List Nat):Nat->fm
 |0=>fun _ _ _=>none
 |d+1=>fun f args ins=>match Nat.beq f Gp with
  |true=>K6 P args
  |false=>match P.funcs[f]? with
   |some fn=>match fn.body with
    |some c=>match fn.name == "runtime.NumGoroutine" with
     |false=>match Nat.ble args.length 1000 && (Nat.ble args.length fn.ntmps && Nat.ble ins.length 400)with
      |true=>ES (O (kF O P T M mu d)) (EV P T M mu (O (kF O P T M mu d))) T (MU M f) mu f fn c args ins
      |false=>none
     |true=>none
    |none=>none
   |none=>none
def tL(P:Program)(T:List TI)(M:ML)(mu:List Nat):Nat->fm:=kF (PC mu) P T M mu
theorem jy{P:Program}{T:List TI}{call:fm}{itrI:mN}(hT:aL T P)(hmx:P.follows .mixedOrders=true)(hcl:cX P call)(hitI:nR P itrI){M mu:List Nat}{f:FuncId}{fn:Func}{c:Code}{args:List V}{ins:List Ob}{r:CR}(hk:qy P f fn c fn.ntmps)(ha:args.length<=1000)(ha2:args.length<=fn.ntmps)(hi:ins.length<=400) (h:CM call itrI T M mu f fn c args ins=some r) (hE:j8 r.e):AM P f args ins r.v r.outs r.obs:=by
 obtain⟨q,hq,h⟩:=dc h;obtain⟨e,s,t⟩:=q;have key:(e= .normal\/e= .ret)->oE (wH T fn ins.length s) none (fun q=>some ⟨q.v,q.outs,q.obs,y4 t q.e⟩)=some r->AM P f args ins r.v r.outs r.obs:=by intro he h;obtain⟨r',hr',h⟩:=dc h;injection h with h;subst h;have hE:=mw hE;obtain⟨q1,q2,q3⟩:=A4 hi he hr' hE.2;refine tD hT hmx hk ha2 q2 hi q3 fun C hF hpin htl=> ?_;have:=mX (C:=C) (mu:=mu) hT hcl (BM hT hcl hitI hF hpin htl) c _ _ _ _ hq hE.1 (dM T fn ins.length r'.v r'.outs r'.obs) q1;rw [<-mL ha];exact oV (A8 mu f args ins) this
 unfold M7 at h;split at h;·rename_i h0;exact key (.inr h0) h
 ·rename_i h0;exact key (.inl h0) h
 ·cases h
theorem EU{P:Program}{T:List TI}{call:fm}{itrI:mN}(hT:aL T P)(hmx:P.follows .mixedOrders=true)(hcl:cX P call)(hitI:nR P itrI){M mu:List Nat}{f:FuncId}{fn:Func}{c:Code}{args:List V}{ins:List Ob}{r:CR}(hk:qy P f fn c fn.ntmps)(ha:args.length<=1000)(ha2:args.length<=fn.ntmps)(hi:ins.length<=400) (h:J2 call itrI T M mu f fn c args ins=some r) (hE:j8 r.e):AM P f args ins r.v r.outs r.obs:=by
 obtain⟨q,hq,h⟩:=dc h;obtain⟨e,s,t⟩:=q;have key:(e= .normal\/e= .ret)->oE (wH T fn 0 s) none (fun q=>some ⟨q.v,ins.map fun _=>none,q.obs,y4 t q.e⟩)=some r->AM P f args ins r.v r.outs r.obs:=by intro he h;obtain⟨r',hr',h⟩:=dc h;injection h with h;subst h;have hE:=mw hE;obtain⟨q1,q2,q3⟩:=A4 (Nat.zero_le _) he hr' hE.2;have e0:r'.outs=[]:=List.eq_nil_of_length_eq_zero q2;rw [e0]at q1;refine Cc hT hmx hk ha2 hi q3 fun C hF hd=> ?_;have:=mX (C:=C) (mu:=mu) hT hcl (BM hT hcl hitI hF (fun id x hx=>by rw [hd]at hx;cases hx) (by rw [hd];rfl)) c _ _ _ _ hq hE.1 (dM T fn 0 r'.v [] r'.obs) q1;rw [<-mL ha];exact oV (A8 mu f args ins) this
 unfold J1 at h;split at h;·rename_i h0;exact key (.inr h0) h
 ·rename_i h0;exact key (.inl h0) h
 ·cases h
theorem u7:∀(l:List Ob) (k:Nat) (args:List V),(IG k l args).length=args.length
 | [],_,_=>rfl
 |o::l,k,args=>by rw [IG,u7 l,V.fc]
theorem ET{P:Program}{T:List TI}{call:fm}{itrI:mN}(hT:aL T P)(hmx:P.follows .mixedOrders=true)(hcl:cX P call)(hitI:nR P itrI){M mu:List Nat}{f:FuncId}{fn:Func}{c:Code}{args:List V}{ins:List Ob}{r:CR}(hk:qy P f fn c fn.ntmps)(ha:args.length<=1000)(ha2:args.length<=fn.ntmps)(hi:ins.length<=400) (h:ES call itrI T M mu f fn c args ins=some r) (hE:j8 r.e):AM P f args ins r.v r.outs r.obs:=by
 unfold ES at h;split at h;·exact jy hT hmx hcl hitI hk ha ha2 hi h hE
 ·split at h;·exact jy hT hmx hcl hitI hk ha ha2 hi h hE
  ·split at h
   ·rename_i hb;simp only [Bool.and_eq_true]at hb;unfold J3 at h;split at h
    ·rename_i q hq;split at h
     ·rename_i ho;split at h
      ·rename_i hob;split at h;·rename_i hf;injection h with h;subst h;have:=jy hT hmx hcl hitI hk (by rw [u7];exact ha) (by rw [u7];exact ha2) (Nat.zero_le _) hq hE;rw [ho,hob]at this;exact this.keep hb.2 hb.1 hf
       ·exact jy hT hmx hcl hitI hk ha ha2 hi h hE
      ·exact jy hT hmx hcl hitI hk ha ha2 hi h hE
     ·exact jy hT hmx hcl hitI hk ha ha2 hi h hE
    ·cases h
   ·split at h;·rename_i r' hr';injection h with h;subst h;exact jy hT hmx hcl hitI hk ha ha2 hi hr' hE
    ·exact EU hT hmx hcl hitI hk ha ha2 hi h hE
theorem nY{O:fm->fm}{P:Program}{T:List TI}(hT:aL T P)(hmx:P.follows .mixedOrders=true){M:ML}{mu:List Nat}(hO:∀c,cX P c->cX P (O c)):∀d,cX P (kF O P T M mu d)
  |0=>⟨fun f args ins r _ h _=>by(cases h),fun name t r n h _=>by(cases h)⟩
  |d+1=>by
    refine⟨fun f args ins r hm h hE=> ?_,fun name t r n h hv=> ?_⟩
    · unfold kF at h
      rw [hm]at h
      simp only at h
      split at h
      · rename_i fn hf
        split at h
        · rename_i c hc
          split at h
          · rename_i hname
            split at h
            · rename_i hb
              simp only [Bool.and_eq_true]at hb
              exact ET hT hmx (hO _ (nY hT hmx hO d)) (EW hT hmx (hO _ (nY hT hmx hO d))) ⟨hf,hc,rfl,hname⟩ (Nat.le_of_ble_eq_true hb.1) (Nat.le_of_ble_eq_true hb.2.1) (Nat.le_of_ble_eq_true hb.2.2) h hE
            · cases h
          · cases h
        · cases h
      · cases h
    · have h:K6 P [.fn (.method name) [] [],.i (t:Int)]=some r:=h
      unfold K6 at h
      simp only at h
      split at h
      · rename_i f hf
        injection h with h;subst h
        simp only [V.c.injEq,Value.int.injEq,true_and]at hv
        have:=Gj hf
        simp only [Int.toNat_natCast]at this
        rw [<-hv]
        simpa using this
      · cases h
def cV(o:Option CR):Option (V×List (Option Ob)×List Ob):=match o with
 |some r=>some (r.v,r.outs,r.obs)
 |none=>none
def cT(o:Option CR):CT:=match o with
 |some r=>r.e
 |none=>c0
theorem CJ{O:fm->fm}{P:Program}{T:List TI}(hT:aL T P)(hmx:P.follows .mixedOrders=true)(M:ML)(mu:List Nat)(hO:∀c,cX P c->cX P (O c)){f:FuncId}{args:List V}{ins:List Ob}{v:V}{outs:List (Option Ob)}{obs:List Ob}(h:cV (kF O P T M mu 40 f args ins)=some (v,outs,obs))(hE:(cT (kF O P T M mu 40 f args ins)).l=(cT (kF O P T M mu 40 f args ins)).r)(hf9:Nat.beq f Gp=false:=by rfl):AM P f args ins v outs obs:=by
 unfold cV at h;unfold cT at hE;split at h
 ·rename_i r hr;simp only [hr]at hE;injection h with h;injection h with h1 h2;injection h2 with h2 h3;subst h1 h2 h3;cases hm:Nat.beq f Gp with
  |false=>exact(nY hT hmx hO 40).1 f args ins r hm hr (zj hE)
  |true=>rw [hm]at hf9;cases hf9
 ·cases h
theorem Pa{P:Program}{T:List TI}(hT:aL T P)(hmx:P.follows .mixedOrders=true)(M:ML)(mu:List Nat)(hK:D7 P mu){f:FuncId}{args:List V}{ins:List Ob}{v:V}{outs:List (Option Ob)}{obs:List Ob}(h:cV (tL P T M mu 40 f args ins)=some (v,outs,obs))(hE:(cT (tL P T M mu 40 f args ins)).l=(cT (tL P T M mu 40 f args ins)).r)(hf9:Nat.beq f Gp=false:=by rfl):AM P f args ins v outs obs:=
 CJ hT hmx M mu (fun _=>LX hK) h hE hf9
theorem CI{P:Program}{T:List TI}(hT:aL T P)(hmx:P.follows .mixedOrders=true)(M:ML)(mu:List Nat){f:FuncId}{args:List V}{ins:List Ob}{v:V}{outs:List (Option Ob)}{obs:List Ob}(h:cV (tL P T M mu 40 f args ins)=some (v,outs,obs))(hE:(cT (tL P T M mu 40 f args ins)).l=(cT (tL P T M mu 40 f args ins)).r)(hm:(mu.all fun f=>Nat.ble f 999999)=true:=by decide)(hf9:Nat.beq f Gp=false:=by rfl):AM P f args ins v outs obs:=Pa hT hmx M mu (Gw hm) h hE hf9
theorem AM.ac{P:Program}{f:FuncId}{args:List V}{v:V}{obs:List Ob}(h:AM P f args [] v [] obs)(ho:obs.length<=400):AC P f args v obs:=by
 refine⟨h.1,fun L w vs hL hgl hv=> ?_⟩;refine(h.2 (fun b=>w.heap.size<=b) (fun b=>L b\/w.heap.size<=b) L w ρ0 vs (fun b hb=> .inr hb) (fun b hb hl=>by have:=hL b hl;omega) ⟨fun b hb=>⟨hL b hb,.inl hb⟩,fun b hb=>⟨hb,.inr hb⟩,(fun id o ho=>by unfold eX at ho;split at ho <;> simp at ho),(fun i j x y k _ _ _ hx=>by cases hx),hgl⟩ (fun _ _=>rfl) hv).mono ?_;rintro e w' ⟨x,rfl,ht,L',ρ',hG',hE',hx,hnn⟩;have eo:ga [] obs=jH obs:=by
  funext id;unfold ga jH;by_cases h5:500<=id;·rw [if_pos h5,show obs[id]?=none from List.getElem?_eq_none oM];simp
  ·rw [if_neg h5]
 rw [eo]at hG';exact⟨x,rfl,ht.below (Nat.le_refl _) fun j hj hW=>by have hW':w.heap.size<=j:=hW;omega,L',ρ',hG',fun b hb=>(hE'.l b hb).1,hx,fun j hj=>hnn j hj (by simp only [List.length_nil,Nat.add_zero];omega)⟩
theorem AC.am{P:Program}{f:FuncId}{args:List V}{v:V}(h:AC P f args v [])(ha:V.bw args=true)(hv:v.b5=true):AM P f args [] v [] []:=by
 refine⟨h.1,fun W LB L w ρ vs hwl hWL hG hρ hvs=> ?_⟩;refine(h.2 L w vs (fun b hb=>(hG.ll b hb).1) hG.gl (hvs.free ha)).mono ?_;rintro e w' ⟨x,rfl,hbel,L',ρ',hG',hL',hx,_⟩;obtain⟨Lx,hLx⟩:∃Lx:Nat->Prop,∀b,Lx b<->L b\/(L' b/\w.heap.size<=b):=⟨_,fun _=>Iff.rfl⟩;obtain⟨hG2,ex2⟩:=hG.quiet hbel (L':=Lx) (fun b hb=>(hLx b).2 (.inl hb)) (fun b hb=>by
  rcases(hLx b).1 hb with hb |hb;·exact .inl hb
  ·exact .inr ⟨hb.2,(hG'.ll b hb.1).1⟩)
 have eo:ga [] []=eX []:=by funext id;unfold ga eX;split <;> simp
 refine⟨x,rfl,aZ.f9 hbel fun k _ hk=>(hG.new k hk).1,Lx,ρ,?_,ex2,?_,fun j _ hj=>hρ j hj⟩;·rw [eo];exact hG2
 ·have:=hx.free hv ρ;refine this.mono (fun b hb=>⟨(hLx b).2 ?_,rfl⟩) fun _ _ h=>h;rcases(hG'.ll b hb).2 with h |h;·exact .inl h
  ·exact .inr ⟨hb,h⟩
theorem kU{P:Program}:jv P []:=fun f k h=>by cases h
theorem cN{P:Program}{K:List (FuncId×List V×V)}{f0:FuncId}{a0:List V}{v0:V}(h0:AC P f0 a0 v0 [])(ha:V.bw a0=true)(hv:v0.b5=true)(h:jv P K):jv P ((f0,a0,v0)::K):=by
 intro f k hk;simp only [OU]at hk;split at hk;·rename_i hb;injection hk with hk;subst hk;have:=Nat.eq_of_beq_eq_true hb;rw [this];exact h0.am ha hv
 ·exact h f k hk
end
end Go.Ab

namespace Go.Dw
open Go.RowKit Go.Shelf
def j5(r:Option Nat):Fence:={Fence.wide with round:=r}
section
variable {P:Program}{ops:Array Oper}{md:Region.Mode}{w:World}{r:Option Nat}{m:Nat}
theorem qb{o:Oper}{a:Act}{K:Act->Prop}{K':Act->World->Prop}{Q':Exit->Act->World->Prop}(h:∀a,K a->K' a w)(hh:o.still P a w K):o.wpIn (j5 r) m P a w K' Q':=by
  refine⟨fun _ _=>trivial,?_⟩
  have hs:o.semAt (j5 r).round a.eval=execOp a.eval o\/∃c,o.op= .defer c:=by
    cases r with
    |none=>exact .inl rfl
    |some l=>
      by_cases hd:∃c,o.op= .defer c
      · exact .inr hd
      · exact .inl (Oper.semAt_some l a.eval o (fun c e=>hd ⟨c,e⟩))
  unfold Oper.still at hh
  rcases hs with hs | ⟨c,hc⟩
  · rw [hs]
    generalize (execOp a.eval o).run P w=x at*
    cases x with
    |ok n w'=>
      cases n <;> simp only [Oper.stillUpon]at hh <;> simp only [Oper.uponIn]
      case enter f args=>
        obtain⟨rfl,v,hc,hn⟩:=hh
        refine⟨fun h=>by simp [j5,Fence.wide]at h,?_⟩
        show CallsIn Fence.wide (m- 1) P f args w' _
        exact callsIn_wide.2 (hc.mono fun e w'' ⟨he,hw⟩=>by subst he;subst hw;exact h _ hn)
      all_goals (obtain⟨rfl,h2⟩:=hh;exact h _ h2)
    |halt x w'=>simp only [Oper.stillUpon]at hh
  · exfalso
    unfold execOp at hh
    rw [hc]at hh
    simp only [Sem.run_bind]at hh
    generalize (resolve a.eval c o.type).run P w=x at hh
    cases x with
    |ok d w'=>simp [Result.andThen,Oper.stillUpon]at hh
    |halt x w'=>simp [Result.andThen,Oper.stillUpon]at hh
theorem sv{i:Nat}{a:Act}{K:Act->Prop}{K':Act->World->Prop}{Q':Exit->Act->World->Prop}(h:∀a,K a->K' a w)(hh:stOp P ops w i K a):wpOpIn (j5 r) m P ops Q' i K' a w:=by
 unfold stOp at hh;unfold wpOpIn;split;·rename_i ho;simp only [ho]at hh;exact h _ hh
 ·rename_i o ho;simp only [ho]at hh;split;·rename_i hw;simp only [hw,if_true]at hh;exact qb h hh
  ·rename_i hw;simp only [hw]at hh;exact⟨fun _ _=>trivial,h _ hh⟩
theorem j6{n g:Nat}{L:Array Bool->Act->Prop}{Q':Exit->Act->World->Prop}(hL:∀listed a,L listed a->wpAnyIn (j5 r) m P md ops Q' g listed a w) : ∀(f:Nat) (listed:Array Bool) (a:Act),wpAnyL P md ops w n L f listed a->wpAnyIn (j5 r) m P md ops Q' (f+g) listed a w
 |0,listed,a,h=>by rw [Nat.zero_add];exact hL _ _ h
 |f+1,listed,a,h=>by rw [show f+1+g=(f+g)+1 by omega];exact⟨fun h0=>absurd h0 h.1,fun i hi=>sv (fun a' h'=>j6 hL f _ a' h') (h.2 i hi).2⟩
theorem lq{Q':Exit->Act->World->Prop}:∀(l:List Oper) (k:Nat) (listed:Array Bool) (a:Act) (w:World),(∀j,l[j]?=ops[k+j]?)-> Region.seqB md ops l.length k listed=true->wpListIn (j5 r) m P ops Q' l a w->wpAnyIn (j5 r) m P md ops Q' l.length listed a w
 | [],_,_,_,_,_,hB,h=>⟨by simpa [Region.seqB]using hB,h⟩
 |o::l,k,listed,a,w,hl,hB,h=>by
  have h0:ops[k]?=some o:=by simpa using (hl 0).symm
  simp only [List.length_cons,Region.seqB,Bool.and_eq_true,decide_eq_true_eq]at hB;refine⟨fun h1=>(by rw [hB.1]at h1;cases h1),fun i hi=> ?_⟩;rw [hB.1]at hi;have hik:i=k:=by simpa using hi
  subst hik;have hw:wpOpIn (j5 r) m P ops Q' i (wpListIn (j5 r) m P ops Q' l) a w:=by unfold wpOpIn;simp only [h0];exact h
  exact wpOpIn_mono (fun a' w' h'=>lq l (i+1) _ a' w' (fun j=>by have:=hl (j+1);simpa [Nat.add_assoc,Nat.add_comm 1 j]using this) hB.2 h') hw
theorem jr{id:Nat}{Q:Exit->Act->World->Prop}{a:Act}{w:World}{l:List Oper}(n:Nat)(hm:P.follows .mixedOrders=true)(hB:Region.lexTailB .any l.toArray n=true) (h:wpStill P l.toArray w.drew (fun a'=>wpListIn (j5 r) m P l.toArray Q (l.drop n) a' w.drew) (l.take n) a):(Code.region id l.toArray true).wpIn (j5 r) m P Q a w:=by
 simp only [Region.lexTailB,Bool.and_eq_true,decide_eq_true_eq]at hB;obtain⟨⟨⟨⟨hsel,hn⟩,hs⟩,hc⟩,hlex⟩:=hB;have hn':n< l.length:=by simpa using hn
 have htl:(l.take n).length=n:=by simp;omega
 have hdl:(l.drop n).length=l.toArray.size- n:=by simp
 have inv0:HeadInv .any l.toArray n (Array.replicate l.toArray.size false):= ⟨by simp,fun j oj _ hl=>(by rw [getD_replicate_false]at hl;cases hl),fun t _ ht=>getD_in (by simpa using ht) (getD_replicate_false _ _)⟩;have H:=wpAnyL_lex (md:= .any) (g:=l.toArray.size- n) hsel hs hc hn (l.take n) 0 _ a (fun j hj=>by
  have hj':j< n:=by rw [htl]at hj;exact hj
  simp [hj']) (by simpa using htl) inv0 (by rw [htl];exact hlex) h
 refine wpIn_region_any hm ?_;have:=j6 (r:=r) (m:=m) (Q':=Q) (g:=l.toArray.size- n) (fun listed a' hL=>by have:=lq (r:=r) (m:=m) (md:= .any) (Q':=Q) (l.drop n) n listed a' w.drew (fun j=>by simp [List.getElem?_drop]) (by rw [hdl];exact hL.1) hL.2;rwa [hdl]at this) _ _ _ H;rw [htl,show n+(l.toArray.size- n)=l.toArray.size by omega]at this;exact this
theorem kq{id lp:Nat}{Q:Exit->Act->World->Prop}{a:Act}{w:World}{l:List Oper}(n:Nat)(hm:P.follows .mixedOrders=true)(hB:Region.lexTailB .any l.toArray n=true)
 (h:wpStill P l.toArray w.drew (fun a'=>wpListIn (Fence.wide.inRound lp) m P l.toArray Q (l.drop n) a' w.drew) (l.take n) a):(Code.region id l.toArray true).wpIn (Fence.wide.inRound lp) m P Q a w:=
 jr (r:=some lp) n hm hB h
end
end Go.Dw
