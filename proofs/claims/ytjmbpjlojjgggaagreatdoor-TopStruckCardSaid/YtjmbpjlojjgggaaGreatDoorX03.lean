/-
  Several texts in one: The step of an operation, kind by kind: the same function, cheaper to run. No condition. .. The same for iterators whose values hold memory, and whose yields stand under guards. No condition.
-/
import Derived.Test.YtjmbpjlojjgggaaGreatDoorX00
import Derived.Test.YtjmbpjlojjgggaaGreatDoorX01
import Derived.Test.YtjmbpjlojjgggaaGreatDoorX02
namespace Go.Ab
open Go.RowKit Go.Dw
def kExtract(v:V)(i:Nat):Option SR:=match v with
 | .tup cs=>match cs[i]? with
  |some v=>some (resSR True v)
  |none=>none
 |_=>none
def kBin(T:List TI)(wr:Bool)(op:BinOp)(t:Nat)(u v:V):Option SR:=match binV wr op u v with
 |some (c,v)=>some (resSR c v)
 |none=>eqSR T op t u v
def kUn(wr:Bool)(op:UnOp)(v:V):Option SR:=match op with
 | .not=>match v with
  | .c (.bool b)=>some (resSR True (.b (!b)))
  |_=>none
 | .neg=>match v with
  | .c (.int k a)=>if wr then some (resSR True (.c (.int k (k.wrap (0- a)))))else some (resSR (inR k (-a)) (.c (.int k (-a))))
  |_=>none
 |_=>none
def kConv(T:List TI)(wr:Bool)(s t:Nat)(v:V):Option SR:=match v with
 | .c (.int _ a)=>match (T.getD t ti0).kind with
  |some k=>if(T.getD s ti0).some'=true then(if wr then some (resSR True (.c (.int k (k.wrap a))))else some (resSR (inR k a) (.c (.int k a))))else none
  |none=>none
 |_=>none
def kFld(T:List TI)(s f:Nat)(v:V):Option SR:=match ((T.getD s ti0).fld[f]?).join with
 |some off=>match v with
  | .ptr cs=>some (resSR True (.ptr (cs.drop off)))
  | .ref id o=>some (resSR True (.ref id (o+off)))
  | .oel id sz i o=>some (resSR True (.oel id sz i (o+off)))
  |_=>none
 |none=>none
def kIdx(T:List TI)(t:Nat)(σ:Nat→Option Ob)(u v:V):Option SR:=match v with
 | .c (.int _ i)=>indexSR T t σ u i
 |_=>none
def kSlice(T:List TI)(M:List Nat)(nx:Nat)(d:Option Tmp)(e:Operand→V)(σ:Nat→Option Ob)(t:Nat)(x:Operand)(lo hi mx:Option Operand):Option SR:=match mx with
 |none=>sliceSR T M nx d e σ t x lo hi
 |some _=>none
def kAlloc(T:List TI)(nx:Nat)(d:Option Tmp)(t:Nat):Option SR:=match (T.getD t ti0).zero with
 |some zs=>some ⟨True,.ref (nx*100000+d.getD 0) 0,[],[nx*100000+d.getD 0],[(nx*100000+d.getD 0,some (.box t zs))]⟩
 |none=>none
def kBox(M:List Nat)(nx:Nat)(d:Option Tmp)(t:Nat)(v:V):Option SR:=match cellsV v with
 |some us=>if M.contains (d.getD 0)then some ⟨True,.ref (nx*100000+d.getD 0) 0,[],[nx*100000+d.getD 0],[(nx*100000+d.getD 0,some (.box t us))]⟩
  else if V.idfL us=true then some (resSR True (.ptr us))else none
 |none=>none
def kBuild(T:List TI)(t:Nat)(parts:List (Nat×V)):Option SR:=match (T.getD t ti0).zero,(T.getD t ti0).pl with
 |some zs,some pl=>match fillV (pl[·]?) zs parts with
  |some us=>some (resSR True (.agg us))
  |none=>none
 |_,_=>none
def kBuildS(T:List TI)(M:List Nat)(nx:Nat)(d:Option Tmp)(t n:Nat)(parts:List (Nat×V)):Option SR:=match (T.getD t ti0).elem with
 |some el=>match (T.getD el ti0).zero,(T.getD el ti0).size with
  |some zs,some sz=>match fillV (fun i=>some (i*sz,sz)) (repV n zs) parts with
   |some cs=>if zs.length=sz∧0< sz∧n*sz≤4096∧cs.length=n*sz then(if M.contains (d.getD 0)then
     some ⟨True,.own (nx*100000+d.getD 0),[],[nx*100000+d.getD 0],[(nx*100000+d.getD 0,some (.row el sz n fun i=>(cs.drop (i*sz)).take sz))]⟩
    else if V.idfL cs=true then some (resSR True (.sl sz n fun i=>(cs.drop (i*sz)).take sz))else none)else none
   |none=>none
  |_,_=>none
 |none=>none
def kMake(T:List TI)(nx:Nat)(d:Option Tmp)(t:Nat)(u v:V):Option SR:=match u,v with
 | .c (.int _ l),.c (.int _ c)=>match (T.getD t ti0).elem with
  |some el=>match (T.getD el ti0).zero,(T.getD el ti0).size with
   |some zs,some sz=>if elemOk T el sz zs then some ⟨0≤l∧l≤c∧c≤1099511627776,.own (nx*100000+d.getD 0),[],[nx*100000+d.getD 0],[(nx*100000+d.getD 0,some (.row el sz l.toNat fun _=>zs))]⟩else none
   |_,_=>none
  |none=>none
 |_,_=>none
def kLen(T:List TI)(σ:Nat→Option Ob)(e:Operand→V)(c:Call):Option SR:=match c.args,c.argTypes with
 | ⟨[x]⟩,⟨[t]⟩=>lenSR T t σ (e x)
 |_,_=>none
def kApp(T:List TI)(nx:Nat)(d:Option Tmp)(ty:Nat)(σ:Nat→Option Ob)(e:Operand→V)(c:Call):Option SR:=match c.args,c.argTypes with
 | ⟨[s,x]⟩,⟨[t,t']⟩=>match appendSR T t (nx*100000+d.getD 0) σ (e s) (e x)with
  |some r=>if t'=t∧ty=t then some r else none
  |none=>none
 |_,_=>none
def kMax(e:Operand→V)(c:Call):Option SR:=match c.args with
 | ⟨[x,y]⟩=>match e x,e y with
  | .c (.int k a),.c (.int k' b)=>if k=k' then some (resSR True (.c (.int k (max a b))))else none
  |_,_=>none
 | ⟨[x,y,z]⟩=>match e x,e y,e z with
  | .c (.int k a),.c (.int k' b),.c (.int k'' q)=>if k=k'∧k=k'' then some (resSR True (.c (.int k (max (max a b) q))))else none
  |_,_,_=>none
 | ⟨[x,y,z,u]⟩=>match e x,e y,e z,e u with
  | .c (.int k a),.c (.int k' b),.c (.int k'' q),.c (.int k3 p)=>if k=k'∧k=k''∧k=k3 then some (resSR True (.c (.int k (max (max (max a b) q) p))))else none
  |_,_,_,_=>none
 |_=>none
def kMin(e:Operand→V)(c:Call):Option SR:=match c.args with
 | ⟨[x,y]⟩=>match e x,e y with
  | .c (.int k a),.c (.int k' b)=>if k=k' then some (resSR True (.c (.int k (min a b))))else none
  |_,_=>none
 |_=>none
def kCall(T:List TI)(nx:Nat)(d:Option Tmp)(ty:Nat)(σ:Nat→Option Ob)(e:Operand→V)(c:Call):Option SR:=match c.callee with
 | .builtin .len=>kLen T σ e c
 | .builtin .append=>kApp T nx d ty σ e c
 | .builtin .max=>kMax e c
 | .builtin .min=>kMin e c
 |_=>none
def kstep1(T:List TI)(wr:Bool)(M:List Nat)(nx:Nat)(o:Oper)(e:Operand→V)(σ:Nat→Option Ob):Option SR:=
 match o.op with
 | .move x=>some (resSR True (e x))
 | .assign x=>some (resSR True (e x))
 | .extract x i=>kExtract (e x) i
 | .binOp op t x y _=>kBin T wr op t (e x) (e y)
 | .unOp op _ x=>kUn wr op (e x)
 | .convert s t x=>kConv T wr s t (e x)
 | .fieldAddr s x f=>kFld T s f (e x)
 | .indexAddr t x ix=>kIdx T t σ (e x) (e ix)
 | .load t x=>loadSR T t σ (e x)
 | .store t x y=>storeSR T t σ (e x) (e y)
 | .slice t x lo hi mx=>kSlice T M nx o.dst e σ t x lo hi mx
 | .alloc t=>kAlloc T nx o.dst t
 | .box t y=>kBox M nx o.dst t (e y)
 | .build t parts=>kBuild T t (parts.toList.map fun p=>(p.1,e p.2))
 | .buildSlice t n parts=>kBuildS T M nx o.dst t n (parts.toList.map fun p=>(p.1,e p.2))
 | .makeSlice t x y=>kMake T nx o.dst t (e x) (e y)
 | .makeFunc f first caps=>some (resSR True (.fn f (first.toList.map e) (caps.toList.map e)))
 | .call c=>kCall T nx o.dst o.type σ e c
 |_=>none
theorem kstep1_eq(T:List TI)(wr:Bool)(M:List Nat)(nx:Nat)(o:Oper)(e:Operand→V)(σ:Nat→Option Ob):kstep1 T wr M nx o e σ=astep T wr M nx o e σ:=by
 obtain⟨d,op,ty,pos,af,gd⟩:=o
 cases op <;> try rfl
 case unOp op t x=>cases op <;> rfl
def k2Idx(T:List TI)(t:Nat)(u v:V):Option SR:=match u,v with
 | .agg cs,.c (.int _ i)=>match (T.getD t ti0).arr with
  |some (n,el)=>match (T.getD el ti0).size with
   |some sz=>match loadV T el (cs.drop (i.toNat*sz))with
    |some v=>some (resSR (0≤i∧i< n) v)
    |none=>none
   |none=>none
  |none=>none
 |_,_=>none
def k2Build(T:List TI)(t:Nat)(parts:List (Nat×V)):Option SR:=match (T.getD t ti0).zero,(T.getD t ti0).arr with
 |some zs,some (_,el)=>match (T.getD el ti0).size with
  |some sz=>match fillV (fun i=>some (i*sz,sz)) zs parts with
   |some us=>some (resSR True (.agg us))
   |none=>none
  |none=>none
 |_,_=>none
def k2Slice(T:List TI)(t:Nat)(v:V)(lo hi mx:Option Operand):Option SR:=match lo,hi,mx with
 |none,none,none=>match v,(T.getD t ti0).arr with
  | .ptr cs,some (n,el)=>match (T.getD el ti0).size with
   |some sz=>if cs.length=n*sz then some (resSR True (.sl sz n fun i=>(cs.drop (i*sz)).take sz))else none
   |none=>none
  |_,_=>none
 |_,_,_=>none
def k2Copy(T:List TI)(σ:Nat→Option Ob)(e:Operand→V)(c:Call):Option SR:=match c.args,c.argTypes with
 | ⟨[x,y]⟩,⟨[t,_]⟩=>match (T.getD t ti0).elem with
  |some el=>if(T.getD el ti0).size=some 1 then(match e x,e y with
   | .own id,.sl sz m row'=>match σ id with
    |some (.row e' sz' n row)=>if sz=1∧sz'=1 then some ⟨0< n∧0< m,.i ((min m n:Nat):Int),[(id,.row e' sz' n row)],[],[(id,some (.row e' sz' n fun j=>if j< min m n then row' j else row j))]⟩else none
    |_=>none
   |_,_=>none)else none
  |none=>none
 |_,_=>none
def k2Eq(T:List TI)(t:Nat)(u v:V):Option SR:=match u,v with
 | .c (.bool a),.c (.bool b)=>if(T.getD t ti0).eqn=some 1000000 then some (resSR True (.b (a == b)))else none
 | .c (.string a),.c (.string b)=>some (resSR True (.b (a.toList == b.toList)))
 |u,.c (.pointer none)=>match ptrNil u with
  |some b=>if(T.getD t ti0).eqn=some 1000002 then some (resSR True (.b b))else none
  |none=>none
 |_,_=>match (T.getD t ti0).elem with
  |some _=>match nilV u v with
   |some (c,b)=>some (resSR c (.b (b)))
   |none=>none
  |none=>none
def k2Ne(T:List TI)(t:Nat)(u v:V):Option SR:=match u,v with
 | .c (.bool a),.c (.bool b)=>if(T.getD t ti0).eqn=some 1000000 then some (resSR True (.b (!(a == b))))else none
 | .c (.string a),.c (.string b)=>some (resSR True (.b (!(a.toList == b.toList))))
 |u,.c (.pointer none)=>match ptrNil u with
  |some b=>if(T.getD t ti0).eqn=some 1000002 then some (resSR True (.b (!b)))else none
  |none=>none
 |_,_=>match (T.getD t ti0).elem with
  |some _=>match nilV u v with
   |some (c,b)=>some (resSR c (.b (!b)))
   |none=>none
  |none=>none
def k2Bin(T:List TI)(op:BinOp)(t:Nat)(u v:V):Option SR:=match op with
 | .eql=>k2Eq T t u v
 | .neq=>k2Ne T t u v
 |_=>none
def k2Call(T:List TI)(σ:Nat→Option Ob)(e:Operand→V)(c:Call):Option SR:=match c.callee with
 | .builtin .copy=>k2Copy T σ e c
 |_=>none
def k2Nil(v:V):Option SR:=match v.isPtr with
 |true=>some (resSR True v)
 |false=>none
def kstep2(T:List TI)(o:Oper)(e:Operand→V)(σ:Nat→Option Ob):Option SR:=
 match o.op with
 | .index t x ix=>k2Idx T t (e x) (e ix)
 | .build t parts=>k2Build T t (parts.toList.map fun p=>(p.1,e p.2))
 | .slice t x lo hi mx=>k2Slice T t (e x) lo hi mx
 | .call c=>k2Call T σ e c
 | .nilCheck x=>k2Nil (e x)
 | .binOp op t x y _=>k2Bin T op t (e x) (e y)
 |_=>none
theorem kstep2_eq(T:List TI)(o:Oper)(e:Operand→V)(σ:Nat→Option Ob):kstep2 T o e σ=astep2 T o e σ:=by
 obtain⟨d,op,ty,pos,af,gd⟩:=o
 cases op <;> try rfl
 case binOp op t x y t'=>cases op <;> rfl
 case slice t x lo hi mx=>cases lo <;> cases hi <;> cases mx <;> rfl
 case nilCheck x=>
  show k2Nil (e x)=if(e x).isPtr=true then some (resSR True (e x))else none
  unfold k2Nil
  cases (e x).isPtr <;> rfl
def kstep(T:List TI)(wr:Bool)(M:List Nat)(nx:Nat)(o:Oper)(e:Operand→V)(σ:Nat→Option Ob):Option SR:=
 match kstep1 T wr M nx o e σ with
 |some r=>some r
 |none=>match kstep2 T o e σ with
  |some r=>some r
  |none=>match astep3 T nx o e σ with
   |some r=>some r
   |none=>astep4 T o e
theorem kstep_eq(T:List TI)(wr:Bool)(M:List Nat)(nx:Nat)(o:Oper)(e:Operand→V)(σ:Nat→Option Ob):kstep T wr M nx o e σ=astepX T wr M nx o e σ:=by
 unfold kstep astepX
 rw [kstep1_eq,kstep2_eq]
 rfl
def qAr(wr:Bool)(op:BinOp)(k:IntKind)(a b:Int):PQ:=match op with
 | .add=>match wr with |true=> .tt |false=>inQ k (a+b)
 | .sub=>match wr with |true=> .tt |false=>inQ k (a- b)
 | .mul=>match wr with |true=> .tt |false=>inQ k (a*b)
 | .quo=>match wr with |true=> .ne b 0 |false=> .and (.lt 0 b) (inQ k a)
 | .rem=> .ne b 0
 | .shl=>match wr with |true=> .le 0 b |false=> .and (.le 0 b) (.and (.le b k.bits) (inQ k (a*2 ^ b.toNat)))
 | .shr=> .le 0 b
 |_=> .tt
def qBin(wr:Bool)(op:BinOp)(u v:V):PQ:=match u,v with
 | .c (.int k a),.c (.int _ b)=>qAr wr op k a b
 | .sl _ n _,.nil=> .nlt 0 n
 | .nil,.sl _ n _=> .nlt 0 n
 |_,_=> .tt
def qNeg(wr:Bool)(v:V):PQ:=match v with
 | .c (.int k a)=>match wr with |true=> .tt |false=>inQ k (-a)
 |_=> .tt
def qConv(T:List TI)(wr:Bool)(t:Nat)(v:V):PQ:=match v with
 | .c (.int _ a)=>match (T.getD t ti0).kind with
  |some k=>match wr with |true=> .tt |false=>inQ k a
  |none=> .tt
 |_=> .tt
def qArr(T:List TI)(t:Nat)(i:Int):PQ:=match (T.getD t ti0).arr with
 |some (n,_)=>ixQ i n
 |none=> .tt
def qIdx(T:List TI)(t:Nat)(σ:Nat→Option Ob)(u v:V):PQ:=match v with
 | .c (.int _ i)=>match u with
  | .sl _ n _=>ixQ i n
  | .own id=>match σ id with
   |some (.row _ _ n _)=>ixQ i n
   |_=> .tt
  |_=>qArr T t i
 |_=> .tt
def qIx2(T:List TI)(t:Nat)(u v:V):PQ:=match v with
 | .c (.int _ i)=>match u with
  | .c (.string b)=>ixQ i b.size
  |_=>qArr T t i
 |_=> .tt
def qLoad(σ:Nat→Option Ob)(v:V):PQ:=match v with
 | .ref id o=>match σ id with
  |some (.box _ cs)=> .nle o cs.length
  |_=> .tt
 | .oel id _ i o=>match σ id with
  |some (.row _ _ n row)=> .and (.nlt i n) (.nle o (row i).length)
  |_=> .tt
 |_=> .tt
def qStore(σ:Nat→Option Ob)(u v:V):PQ:=match cellsV v with
 |some us=>match u with
  | .ref id o=>match σ id with
   |some (.box _ cs)=> .nle (o+us.length) cs.length
   |_=> .tt
  | .oel id _ i o=>match σ id with
   |some (.row _ _ n row)=> .and (.nlt i n) (.nle (o+us.length) (row i).length)
   |_=> .tt
  |_=> .tt
 |none=> .tt
def qSlice(σ:Nat→Option Ob)(e:Operand→V)(v:V)(lo hi:Option Operand):PQ:=match v with
 | .sl _ n _=>slQ e lo hi n false
 | .own id=>match σ id with
  |some (.row _ _ n _)=>slQ e lo hi n true
  |_=> .tt
 | .c (.string b)=>slQ e lo hi b.size false
 |_=> .tt
def qMake(u v:V):PQ:=match u,v with
 | .c (.int _ l),.c (.int _ c)=> .and (.le 0 l) (.and (.le l c) (.le c 1099511627776))
 |_,_=> .tt
def qApp(σ:Nat→Option Ob)(e:Operand→V)(c:Call):PQ:=match c.args with
 | ⟨[s,x]⟩=>match e x with
  | .sl _ m _=>match e s with
   | .nil=> .nle m 1099511627776
   | .own id=>match σ id with
    |some (.row _ _ n _)=> .nle (n+m) 1099511627776
    |_=> .tt
   |_=> .tt
  | .own id1=>match σ id1 with
   |some (.row _ _ m _)=>match e s with
    | .nil=> .nle m 1099511627776
    | .own id=>match σ id with
     |some (.row _ _ n _)=> .nle (n+m) 1099511627776
     |_=> .tt
    |_=> .tt
   |_=> .tt
  |_=> .tt
 |_=> .tt
def qCopy(σ:Nat→Option Ob)(e:Operand→V)(c:Call):PQ:=match c.args with
 | ⟨[x,y]⟩=>match e x,e y with
  | .own id,.sl _ m _=>match σ id with
   |some (.row _ _ n _)=> .and (.nlt 0 n) (.nlt 0 m)
   |_=> .tt
  |_,_=> .tt
 |_=> .tt
def qCall(σ:Nat→Option Ob)(e:Operand→V)(c:Call):PQ:=match c.callee with
 | .builtin .append=>qApp σ e c
 | .builtin .copy=>qCopy σ e c
 |_=> .tt
def qLook(T:List TI)(t:Nat)(σ:Nat→Option Ob)(u v:V):PQ:=match mcode T t,u,mkOf v with
 |some (_,et),.own id,some key=>match σ id with
  |some (.mp _ f)=>match vzOf T et with
   |some vz=>match (T.getD et ti0).kind with
    |some _=> .re (mget f key vz)
    |none=> .tt
   |none=> .tt
  |_=> .tt
 |_,_,_=> .tt
def qStep(T:List TI)(wr:Bool)(o:Oper)(e:Operand→V)(σ:Nat→Option Ob):PQ:=
 match o.op with
 | .binOp op _ x y _=>qBin wr op (e x) (e y)
 | .unOp .neg _ x=>qNeg wr (e x)
 | .convert _ t x=>qConv T wr t (e x)
 | .indexAddr t x ix=>qIdx T t σ (e x) (e ix)
 | .index t x ix=>qIx2 T t (e x) (e ix)
 | .load _ x=>qLoad σ (e x)
 | .store _ x y=>qStore σ (e x) (e y)
 | .slice _ x lo hi none=>qSlice σ e (e x) lo hi
 | .makeSlice _ x y=>qMake (e x) (e y)
 | .lookup t m k _=>qLook T t σ (e m) (e k)
 | .call c=>qCall σ e c
 |_=> .tt
end Go.Ab

namespace Go.Ab
open Go.RowKit Go.Dw
def ObZ(id:Nat)(v0:V):Ob→Ob→Prop
 | .box t cs,.box t' cs'=>t=t'∧(cs'=V.fzL id v0 cs∨cs'=cs)
 | .row e sz n f,.row e' sz' n' f'=>e=e'∧sz=sz'∧n=n'∧∀i,i< n→f' i=V.fzL id v0 (f i)∨f' i=f i
 | .mp s f,.mp s' f'=>s=s'∧(f'=f.map (V.fz id v0)∨f'=f)
 |_,_=>False
theorem RL_fz{w:World}{L:Nat→Prop}{ρ:Nat→Option Value}{id:Nat}{v0:V}(h0:∀y,ρ id=some y→R w L ρ v0 y){us:List V}{xs:List Value}(h:RL w L ρ us xs):RL w L ρ (V.fzL id v0 us) xs:=by
 refine⟨by rw [←h.1,V.fzL_len],fun i u x hu hx=> ?_⟩
 rw [V.fzL_get]at hu
 cases hc:us[i]? with
 |none=>rw [hc]at hu;cases hu
 |some u'=>
  rw [hc]at hu
  injection hu with hu
  subst hu
  obtain⟨q1,q2⟩:=h.2 i u' x hc hx
  exact⟨R_fz h0 _ _ q1,q2⟩
theorem Real.z{W L:Nat→Prop}{w:World}{ρ:Nat→Option Value}{id j:Nat}{v0:V}{o o':Ob}(h0:∀y,ρ id=some y→R w L ρ v0 y)(h:Real W w L ρ j o)(hz:ObZ id v0 o o'):Real W w L ρ j o':=by
 cases o with
 |box t cs=>
  cases o' with
  |box t' cs'=>
   obtain⟨rfl,rfl |rfl⟩:=hz
   ·
    obtain⟨b,xs,h1,h2,h3,h4,h5⟩:=h
    exact⟨b,xs,h1,h2,h3,h4,RL_fz h0 h5⟩
   ·
    exact h
  |row _ _ _ _=>exact hz.elim
  |mp _ _=>exact hz.elim
 |row e sz n f=>
  cases o' with
  |row e' sz' n' f'=>
   obtain⟨rfl,rfl,rfl,hf⟩:=hz
   obtain⟨v,xs,h1,h2,h3,h4,h5⟩:=h
   have hlen:∀i,i< n→(f' i).length=(f i).length:=fun i hi=>by
    rcases hf i hi with e |e <;> rw [e]
    exact V.fzL_len _ _ _
   refine⟨v,xs,h1,h2,fun i hi=>(hlen i hi).trans (h3 i hi),?_,h5⟩
   have key:∀(m:Nat),m≤n→∀xs,RL w L ρ (slRows m f).flatten xs→RL w L ρ (slRows m f').flatten xs:=by
    intro m
    induction m with
    |zero=>intro _ xs h;exact h
    |succ m ih=>
     intro hm xs h
     have e1:∀g:Nat→List V,(slRows (m+1) g).flatten=(slRows m g).flatten++g m:=fun g=>by
      simp [slRows,List.range_succ]
     rw [e1]at h ⊢
     have hl:=h.1
     rw [List.length_append]at hl
     have ex:xs=xs.take (slRows m f).flatten.length++xs.drop (slRows m f).flatten.length:=by simp
     have ha:RL w L ρ (slRows m f).flatten (xs.take (slRows m f).flatten.length):=by
      have:=h.sub 0 (slRows m f).flatten.length
      simpa using this
     have hb:RL w L ρ (f m) (xs.drop (slRows m f).flatten.length):=by
      have:=h.sub (slRows m f).flatten.length (f m).length
      rw [List.drop_left,List.take_length,List.take_of_length_le (by rw [List.length_drop];omega)]at this
      exact this
     rw [ex]
     refine(ih oM _ ha).append ?_
     rcases hf m oM with e |e <;> rw [e]
     ·
      exact RL_fz h0 hb
     ·
      exact hb
   exact key n (Nat.le_refl _) xs h4
  |box _ _=>exact hz.elim
  |mp _ _=>exact hz.elim
 |mp s f=>
  cases o' with
  |mp s' f'=>
   obtain⟨rfl,rfl |rfl⟩:=hz
   ·
    obtain⟨B,es,cl,hv',hBW,hBL,hh,hl⟩:=h
    exact⟨B,es,cl,hv',hBW,hBL,hh,hl.mapF (fun v=>by rw [V.fz]) fun i u x _ hr=>R_fz h0 _ _ hr⟩
   ·
    exact h
  |box _ _=>exact hz.elim
  |row _ _ _ _=>exact hz.elim
theorem Le.fzG{s:S}(id:Nat){ob:Ob}(hσ:s.σ id=some ob)(v0:V){σ':Nat→Option Ob}(hs:∀i o',σ' i=some o'→i≠id∧∃o,s.σ i=some o∧ObZ id v0 o o')
  (h0:∀(W:Nat→Prop) (w:World) (L:Nat→Prop) (ρ:Nat→Option Value),Real W w L ρ id ob→∀y,ρ id=some y→R w (fun b=>L b∨blk y=some b) ρ v0 y):Le s ⟨fun t=>V.fz id v0 (s.tm t),σ',s.nx⟩:=by
 intro P N C a w ⟨L,ρ,h⟩
 have hr:=h.g.ob id _ hσ
 obtain⟨v,hv,hlt⟩:=hr.lt
 have ex:Ext w L ρ w (fun b=>L b∨blk v=some b) ρ:=⟨fun b hb=>⟨.inl hb,rfl⟩,fun _ _ h=>h⟩
 have h0':∀y,ρ id=some y→R w (fun b=>L b∨blk v=some b) ρ v0 y:=fun y hy=>by
  have hy':=hy
  rw [hv]at hy';injection hy' with hy';subst hy'
  exact h0 _ _ _ _ hr _ hy
 refine⟨fun b=>L b∨blk v=some b,ρ,⟨⟨fun b hbl=> ?_,h.g.new,fun id' o' (ho:σ' id'=some o')=> ?_,fun i j x y k hij (hi:σ' i≠none) (hj:σ' j≠none)=> ?_,h.g.glE ex⟩,h.fr,fun t=>R_fz h0' _ _ ((h.tm t).ext ex),h.size,?_,h.pin⟩⟩
 ·
  rcases hbl with hbl |hbl
  ·
   exact h.g.ll b hbl
  ·
   exact⟨(hlt b hbl).1,C.wl b (hlt b hbl).2.1⟩
 ·
  obtain⟨hne,o,ho',hz⟩:=hs id' o' ho
  have k:=(h.g.ob id' o ho').keep ex fun x k hx hk=>⟨rfl,by
   rintro(hL |hL)
   ·
    obtain⟨y,hy,hy2⟩:=(h.g.ob id' o ho').lt
    rw [hx]at hy;injection hy with hy;subst hy
    exact(hy2 k hk).2.2 hL
   ·
    exact h.g.sep id' id x v k hne (by rw [ho'];simp) (by rw [hσ];simp) hx hv hk hL⟩
  exact k.z h0' hz
 ·
  obtain⟨o1,ho1⟩:=Option.ne_none_iff_exists'.1 hi
  obtain⟨o2,ho2⟩:=Option.ne_none_iff_exists'.1 hj
  obtain⟨_,p1,hp1,_⟩:=hs i o1 ho1
  obtain⟨_,p2,hp2,_⟩:=hs j o2 ho2
  exact h.g.sep i j x y k hij (by rw [hp1];simp) (by rw [hp2];simp)
 ·
  obtain⟨Ds,h4,h5,h6⟩:=h.defers
  refine⟨Ds,h4,h5,fun D hD=> ?_⟩
  obtain⟨h7,h8,h9⟩:=h6 D hD
  refine⟨h7,h8,?_⟩
  rintro(hL |hL)
  ·
   exact h9 hL
  ·
   exact hr.no_deferred hv hL h7
theorem as_eqO{P:Program}{W LB:Nat→Prop}{d:Option Tmp}{ty:TypeId}{pos:String}{af:Array Edge}{gd:Option (Nat×Bool)}{ev:Operand→V}(t t':TypeId)(x y:Operand){e0 sz n id el:Nat}{row:Nat→List V}(he:tElem P t=some el)(hx:ev x= .own id)(hy:ev y= .nil)(hn:0< n) :
  AStep P W LB ⟨d,.binOp .eql t x y t',ty,pos,af,gd⟩ ev (.b false) [(id,.row e0 sz n row)] [] []∧AStep P W LB ⟨d,.binOp .neq t x y t',ty,pos,af,gd⟩ ev (.b true) [(id,.row e0 sz n row)] [] []:=by
 have hu:=tElem_some he
 have run:∀w A c',(Op.equalIn Op.maxDepth t (.slice (some A) n c') (.slice none 0 0)).run P w= .ok false w:=by
  intro w A c'
  show(Op.equalIn (_+1) t _ _).run P w=_
  unfold Op.equalIn
  simp [run_underlying' hu]
 have key:∀ {σ:Nat→Option Ob}{w:World}{L:Nat→Prop}{ρ:Nat→Option Value}{g:Operand→Value},G W LB σ w L ρ→R w L ρ (ev x) (g x)→R w L ρ (ev y) (g y)→σ id=some (.row e0 sz n row)→∃A c',g x= .slice (some A) n c'∧g y= .slice none 0 0:=by
  intro σ w L ρ g hG h1 h2 hσ
  rw [hx]at h1
  rw [hy]at h2
  have hρ:=h1.own_inv
  obtain⟨v,xs,hv,hown,_⟩:=hG.ob id _ hσ
  rw [hρ]at hv;injection hv with hv
  rcases hown.2 with⟨_,h0⟩ | ⟨g',cap,cur,h3,_⟩
  ·
   omega
  ·
   refine⟨_,_,hv.trans h3,?_⟩
   generalize g y=Y at h2
   cases h2;rfl
 constructor
 ·
  intro σ w L ρ g hG hr hpre _
  obtain⟨A,c',e1,e2⟩:=key hG (hr x (by simp [Op.operands])) (hr y (by simp [Op.operands])) (hpre _ (List.mem_cons_self ..))
  exact OpDoes.value (v:= .bool false) (w':=w) rfl (by simp [execOp,e1,e2,eqGuard,binOp,Op.equal,run w A c']) ⟨L,ρ,hG,.c _ _,Tch.refl _ _,Ext.refl _ _ _,fun _ _=>rfl,DefK.refl _ _⟩
 ·
  intro σ w L ρ g hG hr hpre _
  obtain⟨A,c',e1,e2⟩:=key hG (hr x (by simp [Op.operands])) (hr y (by simp [Op.operands])) (hpre _ (List.mem_cons_self ..))
  exact OpDoes.value (v:= .bool true) (w':=w) rfl (by simp [execOp,e1,e2,eqGuard,binOp,Op.equal,run w A c']) ⟨L,ρ,hG,.c _ _,Tch.refl _ _,Ext.refl _ _ _,fun _ _=>rfl,DefK.refl _ _⟩
theorem ap_mkIfc{P:Program}{d:Option Tmp}{ty:TypeId}{pos:String}{af:Array Edge}{gd:Option (Nat×Bool)}{ev:Operand→V}(t:Nat)(x:Operand)(h:tAgg P t=some true):APure P ⟨d,.makeInterface t x,ty,pos,af,gd⟩ ev (.ifc t (ev x)):=
 APure.same rfl fun w L ρ g hr=>by
  have h1:=hr x (by simp [Op.operands])
  refine⟨.iface t (g x),?_,.ifc _ _ _ _ h1⟩
  unfold tAgg at h
  cases hu:P.underlying t with
  |none=>rw [hu]at h;cases h
  |some u=>
   rw [hu]at h
   have hr':=fun w=>run_underlying' (w:=w) hu
   cases u <;> first
    | (simp at h;done)
    |simp [execOp,Instr.makeInterface,hr']
theorem ap_nilIfc{P:Program}{d:Option Tmp}{ty:TypeId}{pos:String}{af:Array Edge}{gd:Option (Nat×Bool)}{ev:Operand→V}(x:Operand){t:Nat}{v:V}(hx:ev x= .ifc t v):APure P ⟨d,.nilCheck x,ty,pos,af,gd⟩ ev (.ifc t v):=
 APure.same rfl fun w L ρ g hr=>by
  have h1:=hr x (by simp [Op.operands])
  rw [hx]at h1
  have h2:∃y,g x= .iface t y:=by
   generalize g x=y at h1
   cases h1
   exact⟨_,rfl⟩
  refine⟨g x,?_,h1⟩
  obtain⟨y,hy⟩:=h2
  simp [execOp,hy]
def MethSpec(P:Program)(name:String)(t:Nat)(f:FuncId):Prop:=∀(v:Value) (w:World),(method (P.types.size+Made.depth) t v name).run P w= .ok (f,v) w
def methQ(P:Program)(name:String)(t:Nat):Option FuncId:=match P.info? t with
 |some i=>match i.methods.find? (·.name == name)with
  |some m=>match m.path.toList with
   | []=>match m.func with
    |some (f,false)=>match tAgg P t with
     |some true=>some f
     |_=>none
    |_=>none
   |_::_=>none
  |none=>none
 |none=>none
theorem methQ_ok{P:Program}{name:String}{t:Nat}{f:FuncId}(h:methQ P name t=some f):MethSpec P name t f:=by
 intro v w
 unfold methQ at h
 split at h
 ·
  rename_i i hi
  split at h
  ·
   rename_i m hm
   split at h
   ·
    rename_i hp
    split at h
    ·
     rename_i f' hf
     split at h
     ·
      rename_i ha
      injection h with h;subst h
      have hti:(typeInfo t).run P w= .ok i w:=by simp [typeInfo,go_sem,hi]
      unfold tAgg at ha
      cases hu:P.underlying t with
      |none=>rw [hu]at ha;cases ha
      |some u=>
       rw [hu]at ha
       have hr':=fun w=>run_underlying' (w:=w) hu
       show(method ((P.types.size+99)+1) t v name).run P w=_
       unfold method
       cases u <;> first
        | (simp at ha;done)
        |simp [hti,hm,hp,hf,follow,receiverAt,hr',Place.get]
     ·
      cases h
    ·
     cases h
   ·
    cases h
  ·
   cases h
 ·
  cases h
end Go.Ab

namespace Go.Ab
open Go.RowKit Go.Dw
noncomputable section
inductive TR where
 |e
 |n (v:V) (l r:TR)
def TR.get:TR→Nat→V:=TR.rec (motive:=fun _=>Nat→V) (fun _=> .any) (fun v _ _ gl gr t=>Nat.rec (motive:=fun _=>V) v (fun t' _=>Bool.rec (motive:=fun _=>V) (gr (Nat.div t' 2)) (gl (Nat.div t' 2)) (Nat.beq (Nat.mod t' 2) 0)) t)
def TR.put:Nat→TR→Nat→V→TR:=Nat.rec (motive:=fun _=>TR→Nat→V→TR) (fun tr _ _=>tr) (fun _ ih tr t v=>TR.rec (motive:=fun _=>TR)
 (Nat.rec (motive:=fun _=>TR) (.n v .e .e) (fun t' _=>Bool.rec (motive:=fun _=>TR) (.n .any .e (ih .e (Nat.div t' 2) v)) (.n .any (ih .e (Nat.div t' 2) v) .e) (Nat.beq (Nat.mod t' 2) 0)) t)
 (fun u l r _ _=>Nat.rec (motive:=fun _=>TR) (.n v l r) (fun t' _=>Bool.rec (motive:=fun _=>TR) (.n u l (ih r (Nat.div t' 2) v)) (.n u (ih l (Nat.div t' 2) v) r) (Nat.beq (Nat.mod t' 2) 0)) t) tr)
theorem TR.get_e(t:Nat):TR.get .e t= .any:=rfl
theorem TR.get_0(v:V)(l r:TR):TR.get (.n v l r) 0=v:=rfl
theorem beq_mod(t:Nat):Nat.beq (Nat.mod t 2) 0=decide (t% 2=0):=by
 show Nat.beq (t% 2) 0=_
 rcases Nat.mod_two_eq_zero_or_one t with h |h <;> rw [h] <;> rfl
theorem TR.get_s(v:V)(l r:TR)(t:Nat):TR.get (.n v l r) (t+1)=if t% 2=0 then l.get (t / 2)else r.get (t / 2):=by
 show Bool.rec (motive:=fun _=>V) (r.get (Nat.div t 2)) (l.get (Nat.div t 2)) (Nat.beq (Nat.mod t 2) 0)=_
 rw [beq_mod]
 by_cases h:t% 2=0
 ·
  rw [if_pos h,decide_eq_true h];rfl
 ·
  rw [if_neg h,decide_eq_false h];rfl
theorem TR.put_e0(d:Nat)(v:V):TR.put (d+1) .e 0 v= .n v .e .e:=rfl
theorem TR.put_n0(d:Nat)(u:V)(l r:TR)(v:V):TR.put (d+1) (.n u l r) 0 v= .n v l r:=rfl
theorem TR.put_es(d:Nat)(t:Nat)(v:V):TR.put (d+1) .e (t+1) v=if t% 2=0 then .n .any (TR.put d .e (t / 2) v) .e else .n .any .e (TR.put d .e (t / 2) v):=by
 show Bool.rec (motive:=fun _=>TR) _ _ (Nat.beq (Nat.mod t 2) 0)=_
 rw [beq_mod]
 by_cases h:t% 2=0
 ·
  rw [if_pos h,decide_eq_true h];rfl
 ·
  rw [if_neg h,decide_eq_false h];rfl
theorem TR.put_ns(d:Nat)(u:V)(l r:TR)(t:Nat)(v:V):TR.put (d+1) (.n u l r) (t+1) v=if t% 2=0 then .n u (TR.put d l (t / 2) v) r else .n u l (TR.put d r (t / 2) v):=by
 show Bool.rec (motive:=fun _=>TR) _ _ (Nat.beq (Nat.mod t 2) 0)=_
 rw [beq_mod]
 by_cases h:t% 2=0
 ·
  rw [if_pos h,decide_eq_true h];rfl
 ·
  rw [if_neg h,decide_eq_false h];rfl
theorem TR.put_get:∀(d:Nat) (tr:TR) (t t':Nat) (v:V),t+1< 2 ^ d→(TR.put d tr t v).get t'=if t'=t then v else tr.get t'
 |0,_,t,_,_,h=>by simp at h
 |d+1,.e,0,t',v,h=>by
  rw [TR.put_e0]
  cases t' with
  |zero=>rw [TR.get_0,if_pos rfl]
  |succ t'=>rw [TR.get_s,TR.get_e,TR.get_e,if_neg (by omega:¬t'+1=0)];split <;> rfl
 |d+1,.n u l r,0,t',v,h=>by
  rw [TR.put_n0]
  cases t' with
  |zero=>rw [TR.get_0,if_pos rfl]
  |succ t'=>rw [TR.get_s,TR.get_s,if_neg (by omega:¬t'+1=0)]
 |d+1,.e,t+1,t',v,h=>by
  have hd:t / 2+1< 2 ^ d:=by rw [Nat.pow_succ]at h;omega
  rw [TR.put_es]
  by_cases hm:t% 2=0
  ·
   rw [if_pos hm]
   cases t' with
   |zero=>rw [TR.get_0,if_neg oM,TR.get_e]
   |succ t'=>
    rw [TR.get_s,TR.get_e,TR.get_e,TR.put_get d .e _ _ _ hd,TR.get_e]
    by_cases he:t'=t
    ·
     subst he;rw [if_pos hm,if_pos rfl,if_pos rfl]
    ·
     rw [if_neg (by omega:¬t'+1=t+1)]
     split
     ·
      rw [if_neg oM]
     ·
      rfl
  ·
   rw [if_neg hm]
   cases t' with
   |zero=>rw [TR.get_0,if_neg oM,TR.get_e]
   |succ t'=>
    rw [TR.get_s,TR.get_e,TR.get_e,TR.put_get d .e _ _ _ hd,TR.get_e]
    by_cases he:t'=t
    ·
     subst he;rw [if_neg hm,if_pos rfl,if_pos rfl]
    ·
     rw [if_neg (by omega:¬t'+1=t+1)]
     split
     ·
      rfl
     ·
      rw [if_neg oM]
 |d+1,.n u l r,t+1,t',v,h=>by
  have hd:t / 2+1< 2 ^ d:=by rw [Nat.pow_succ]at h;omega
  rw [TR.put_ns]
  by_cases hm:t% 2=0
  ·
   rw [if_pos hm]
   cases t' with
   |zero=>rw [TR.get_0,TR.get_0,if_neg oM]
   |succ t'=>
    rw [TR.get_s,TR.get_s,TR.put_get d l _ _ _ hd]
    by_cases he:t'=t
    ·
     subst he;rw [if_pos hm,if_pos rfl,if_pos rfl]
    ·
     rw [if_neg (by omega:¬t'+1=t+1)]
     split
     ·
      rw [if_neg oM]
     ·
      rfl
  ·
   rw [if_neg hm]
   cases t' with
   |zero=>rw [TR.get_0,TR.get_0,if_neg oM]
   |succ t'=>
    rw [TR.get_s,TR.get_s,TR.put_get d r _ _ _ hd]
    by_cases he:t'=t
    ·
     subst he;rw [if_neg hm,if_pos rfl,if_pos rfl]
    ·
     rw [if_neg (by omega:¬t'+1=t+1)]
     split
     ·
      rfl
     ·
      rw [if_neg oM]
theorem TR.put_upd{tr:TR}{t:Nat}{v:V}(h:t< 1000):(TR.put 10 tr t v).get=upd tr.get t v:=by
 funext t'
 rw [TR.put_get 10 tr t t' v oM]
 rfl
def lkS:List (Nat×Option Ob)→Nat→Option Ob
 | [],_=>none
 | (k,o)::l,i=>match Nat.beq i k with
  |true=>o
  |false=>lkS l i
def delS:List (Nat×Option Ob)→Nat→List (Nat×Option Ob)
 | [],_=>[]
 | (k',o')::l,k=>match Nat.beq k k' with
  |true=>delS l k
  |false=>(k',o')::delS l k
def setS:List (Nat×Option Ob)→Nat→Option Ob→List (Nat×Option Ob)
 | [],k,o=>[(k,o)]
 | (k',o')::l,k,o=>match Nat.beq k k' with
  |true=>(k,o)::l
  |false=>(k',o')::setS l k o
def putS(l:List (Nat×Option Ob))(k:Nat)(o:Option Ob):List (Nat×Option Ob):=match o with
 |none=>delS l k
 |some o=>setS l k (some o)
theorem lk_del:∀(l:List (Nat×Option Ob)) (k i:Nat),lkS (delS l k) i=if i=k then none else lkS l i
 | [],k,i=>by simp only [delS,lkS];split <;> rfl
 | (k',o')::l,k,i=>by
  simp only [delS]
  split
  ·
   rename_i h
   have h:=Nat.eq_of_beq_eq_true h
   subst h
   rw [lk_del l k i]
   simp only [lkS]
   split
   ·
    rfl
   ·
    rename_i h2
    split
    ·
     rename_i h3;exact absurd (Nat.eq_of_beq_eq_true h3) h2
    ·
     rfl
  ·
   rename_i h
   have h:=Nat.ne_of_beq_eq_false h
   simp only [lkS]
   split
   ·
    rename_i h2
    have h2:=Nat.eq_of_beq_eq_true h2
    rw [if_neg oM]
   ·
    exact lk_del l k i
theorem lk_set:∀(l:List (Nat×Option Ob)) (k:Nat) (o:Option Ob) (i:Nat),lkS (setS l k o) i=if i=k then o else lkS l i
 | [],k,o,i=>by
  simp only [setS,lkS]
  split
  ·
   rename_i h;rw [if_pos (Nat.eq_of_beq_eq_true h)]
  ·
   rename_i h;rw [if_neg (Nat.ne_of_beq_eq_false h)]
 | (k',o')::l,k,o,i=>by
  simp only [setS]
  split
  ·
   rename_i h
   have h:=Nat.eq_of_beq_eq_true h
   subst h
   simp only [lkS]
   split
   ·
    rename_i h;rw [if_pos (Nat.eq_of_beq_eq_true h)]
   ·
    rename_i h;rw [if_neg (Nat.ne_of_beq_eq_false h)]
  ·
   rename_i h
   have h:=Nat.ne_of_beq_eq_false h
   simp only [lkS]
   split
   ·
    rename_i h2
    have h2:=Nat.eq_of_beq_eq_true h2
    rw [if_neg oM]
   ·
    exact lk_set l k o i
theorem lk_put(l:List (Nat×Option Ob))(k:Nat)(o:Option Ob)(i:Nat):lkS (putS l k o) i=if i=k then o else lkS l i:=by
 cases o with
 |none=>exact lk_del l k i
 |some o=>exact lk_set l k (some o) i
theorem lkS_upd(l:List (Nat×Option Ob))(k:Nat)(o:Option Ob):lkS (putS l k o)=upd (lkS l) k o:=by
 funext i
 exact lk_put l k o i
def putsS:List (Nat×Option Ob)→List (Nat×Option Ob)→List (Nat×Option Ob)
 |l,[]=>l
 |l,(k,o)::δ=>putsS (putS l k o) δ
theorem lkS_upds:∀(δ l:List (Nat×Option Ob)),lkS (putsS l δ)=upds (lkS l) δ
 | [],l=>rfl
 | (k,o)::δ,l=>by rw [putsS,lkS_upds,lkS_upd,upds]
structure CS where
 tr:TR
 sl:List (Nat×Option Ob)
 nx:Nat
def CS.den(s:CS):S:=⟨s.tr.get,lkS s.sl,s.nx⟩
def putO(tr:TR)(d:Option Tmp)(v:V):TR:=match d with
 |some t=>TR.put 10 tr t v
 |none=>tr
theorem putO_upd{tr:TR}{d:Option Tmp}{v:V}(h:∀t,d=some t→t< 1000):(putO tr d v).get=updO tr.get d v:=by
 cases d with
 |none=>rfl
 |some t=>exact TR.put_upd (h t rfl)
inductive CT where
 |lf (l:List (CE×CE))
 |nd (a b:CT)
inductive CU where
 |lf (l:List CE)
 |nd (a b:CU)
def CT.l:CT→CU
 | .lf l=> .lf (l.map Prod.fst)
 | .nd a b=> .nd a.l b.l
def CT.r:CT→CU
 | .lf l=> .lf (l.map Prod.snd)
 | .nd a b=> .nd a.r b.r
def EqT:CT→Prop
 | .lf l=>EqE l
 | .nd a b=>EqT a∧EqT b
theorem eqT_of:∀ {t:CT},t.l=t.r→EqT t
 | .lf l,h=>by
  simp only [CT.l,CT.r,CU.lf.injEq]at h
  exact eqE_of h
 | .nd a b,h=>by
  simp only [CT.l,CT.r,CU.nd.injEq]at h
  exact⟨eqT_of h.1,eqT_of h.2⟩
mutual
def V.ids:V→List Nat
 | .agg cs=>V.idsL cs
 | .tup cs=>V.idsL cs
 | .fn _ a b=>V.idsL a++V.idsL b
 | .ifc _ v=>v.ids
 | .gd _ v=>v.ids
 | .alt _ v u=>v.ids++u.ids
 | .own i=>[i]
 | .ref i _=>[i]
 | .oel i _ _ _=>[i]
 | .osl i _ _ _=>[i]
 |_=>[]
def V.idsL:List V→List Nat
 | []=>[]
 |v::l=>v.ids++V.idsL l
end
def inNs:List Nat→Nat→Bool
 | [],_=>false
 |k::l,i=>match Nat.beq i k with
  |true=>true
  |false=>inNs l i
def idsR:List (List V)→List Nat→List Nat
 | [],t=>t
 |r::l,t=>match V.idfL r with
  |true=>idsR l t
  |false=>V.idsL r++idsR l t
def reachN(σ:Nat→Option Ob):Nat→List Nat→List Nat→List Nat
 |0,_,seen=>seen
 |_+1,[],seen=>seen
 |k+1,i::todo,seen=>match inNs seen i with
  |true=>reachN σ k todo seen
  |false=>match σ i with
   |some (.box _ cs)=>reachN σ k (V.idsL cs++todo) (seen++[i])
   |some (.row _ _ n f)=>reachN σ k (idsR ((List.range n).map f) todo) (seen++[i])
   |_=>reachN σ k todo (seen++[i])
def idxN:List Nat→Nat→Nat
 | [],_=>0
 |k::l,i=>match Nat.beq i k with
  |true=>0
  |false=>idxN l i+1
def rowOf(l:List (List V))(i:Nat):List V:=l.getD i []
def nOb(g:Nat→Nat):Ob→Option Ob
 | .box t cs=>some (.box t (V.renL g cs))
 | .row e sz n f=>match ((List.range n).map f).all V.idfL with
  |true=>some (.row e sz n (rowOf ((List.range n).map f)))
  |false=>some (.row e sz n (rowOf (((List.range n).map f).map (V.renL g))))
 | .mp s f=>match f.l.all fun p=>p.2.idf with
  |true=>some (.mp s f)
  |false=>none
def insL(σ:Nat→Option Ob)(g:Nat→Nat):List Nat→Option (List (Ob×Ob))
 | []=>some []
 |k::ns=>match σ k with
  |some o=>match nOb g o with
   |some o'=>match insL σ g ns with
    |some l=>some ((o,o')::l)
    |none=>none
   |none=>none
  |none=>none
def bkR(g:Nat→Nat)(n:Nat)(f f':Nat→List V):List (CE×CE):=match ((List.range n).map f).all V.idfL with
 |true=>[]
 |false=>(List.range n).map fun i=>(.vs (f i),.vs (V.renL g (f' i)))
def cBack1(g:Nat→Nat):Ob×Ob→List (CE×CE)
 | (.box _ cs,.box _ cs')=>[(.vs cs,.vs (V.renL g cs'))]
 | (.row _ _ n f,.row _ _ _ f')=>bkR g n f f'
 |_=>[]
def cBackE(g:Nat→Nat):List (Ob×Ob)→List (CE×CE)
 | []=>[]
 |p::l=>cBack1 g p++cBackE g l
def inN1(k:Nat):Ob×Ob→Bool
 | (_,.box _ cs)=>V.inNL k cs
 | (.row _ _ n f,.row _ _ _ f')=>match ((List.range n).map f).all V.idfL with
  |true=>true
  |false=>((List.range n).map f').all (V.inNL k)
 |_=>true
def inNB(n:Nat):List (Ob×Ob)→Bool
 | []=>true
 |p::l=>inN1 n p && inNB n l
theorem renL_idf{g:Nat→Nat}{l:List V}(h:V.idfL l=true):V.renL g l=l:=V.renL_idf g l h
theorem rowOf_idf{l:List (List V)}(h:l.all V.idfL=true)(i:Nat):V.idfL (rowOf l i)=true:=by
 unfold rowOf
 rw [List.getD_eq_getElem?_getD]
 cases hi:l[i]? with
 |none=>rfl
 |some x=>exact List.all_eq_true.1 h x (List.mem_of_getElem? hi)
theorem rowOf_map{f:Nat→List V}{n i:Nat}(h:i< n):rowOf ((List.range n).map f) i=f i:=by
 unfold rowOf
 rw [List.getD_eq_getElem?_getD,List.getElem?_map,List.getElem?_range h]
 rfl
theorem mf_idf{f:MF}(h:(f.l.all fun p=>p.2.idf)=true)(g:Nat→Nat):f.map (V.ren g)=f:=by
 obtain⟨l,rest⟩:=f
 show MF.mk (l.map fun p=>(p.1,V.ren g p.2)) rest=⟨l,rest⟩
 congr 1
 have h':∀p∈l,p.2.idf=true:=fun p hp=>List.all_eq_true.1 h p hp
 clear h
 induction l with
 |nil=>rfl
 |cons p l ih=>
  rw [List.map_cons,ih fun q hq=>h' q (by simp [hq]),V.ren_idf g _ (h' p (by simp))]
theorem mf_look{f:MF}(h:(f.l.all fun p=>p.2.idf)=true){k:MK}{u:V}(hu:f.look k=some u):u.idf=true:=by
 obtain⟨l,rest⟩:=f
 have h':∀p∈l,p.2.idf=true:=fun p hp=>List.all_eq_true.1 h p hp
 have hu':lookL rest k l=some u:=hu
 clear h hu
 induction l with
 |nil=>
  simp only [lookL,Option.map_eq_some_iff]at hu'
  obtain⟨v,_,rfl⟩:=hu'
  rfl
 |cons p l ih=>
  simp only [lookL]at hu'
  split at hu'
  ·
   injection hu' with hu';subst hu';exact h' p (by simp)
  ·
   exact ih (fun q hq=>h' q (by simp [hq])) hu'
theorem nOb_eq{g gi:Nat→Nat}{o o':Ob}(h:nOb gi o=some o')(he:EqE (cBackE g [(o,o')])):ObEq o (o'.ren g):=by
 have he:EqE (cBack1 g (o,o')):=fun p hp=>he p (by simp only [cBackE,List.append_nil];exact hp)
 cases o with
 |box t cs=>
  simp only [nOb,Option.some.injEq]at h
  subst h
  have h1:=he.hd
  injection h1 with h1
  exact⟨rfl,h1⟩
 |row e sz n f=>
  simp only [nOb]at h
  split at h
  ·
   rename_i hi
   injection h with h;subst h
   refine⟨rfl,rfl,rfl,fun i hi'=> ?_⟩
   show f i=V.renL g (rowOf ((List.range n).map f) i)
   rw [renL_idf (rowOf_idf hi i),rowOf_map hi']
  ·
   rename_i hi
   injection h with h;subst h
   refine⟨rfl,rfl,rfl,fun i hi'=> ?_⟩
   simp only [cBack1,bkR,hi]at he
   have h1:=he (.vs (f i),.vs (V.renL g (rowOf (((List.range n).map f).map (V.renL gi)) i))) (List.mem_map.2 ⟨i,List.mem_range.2 hi',rfl⟩)
   injection h1 with h1
 |mp str f=>
  simp only [nOb]at h
  split at h
  ·
   rename_i hi
   injection h with h;subst h
   refine⟨rfl,fun k=> ?_⟩
   show f.look k=(f.map (V.ren g)).look k
   rw [mf_idf hi g]
  ·
   cases h
theorem nOb_in{n:Nat}{gi:Nat→Nat}{o o':Ob}(h:nOb gi o=some o')(he:inNB n [(o,o')]=true):o'.inN n:=by
 have he:inN1 n (o,o')=true:=by simpa only [inNB,Bool.and_true]using he
 cases o with
 |box t cs=>
  simp only [nOb,Option.some.injEq]at h
  subst h
  exact he
 |row e sz m f=>
  simp only [nOb]at h
  split at h
  ·
   rename_i hi
   injection h with h;subst h
   exact fun i _=>idf_inNL n _ (rowOf_idf hi i)
  ·
   rename_i hi
   injection h with h;subst h
   intro i hi'
   simp only [inN1,hi]at he
   exact List.all_eq_true.1 he _ (List.mem_map.2 ⟨i,List.mem_range.2 hi',rfl⟩)
 |mp str f=>
  simp only [nOb]at h
  split at h
  ·
   rename_i hi
   injection h with h;subst h
   exact fun k u hu=>idf_inN n u (mf_look hi hu)
  ·
   cases h
def stayE(g:Nat→Nat):Ob→List (CE×CE)
 | .box _ cs=>[(.vs cs,.vs (V.renL g cs))]
 | .row _ _ n f=>bkR g n f f
 |_=>[]
theorem rowOf_out{l:List (List V)}{i:Nat}(h:l.length≤i):rowOf l i=[]:=by
 unfold rowOf
 rw [List.getD_eq_getElem?_getD,List.getElem?_eq_none h];rfl
theorem nOb_stay{g gi:Nat→Nat}{o o':Ob}(h:nOb gi o=some o')(he:EqE (stayE g o')):o'.ren g=o':=by
 cases o with
 |box t cs=>
  simp only [nOb,Option.some.injEq]at h
  subst h
  have h1:=he.hd
  injection h1 with h1
  rw [Ob.ren,←h1]
 |row e sz m f=>
  simp only [nOb]at h
  split at h
  ·
   rename_i hi
   injection h with h;subst h
   rw [Ob.ren]
   congr 1
   funext i
   exact renL_idf (rowOf_idf hi i)
  ·
   injection h with h;subst h
   rw [Ob.ren]
   congr 1
   funext i
   by_cases hlt:i< m
   ·
    generalize ((List.range m).map f).map (V.renL gi)=l at he
    simp only [stayE,bkR]at he
    split at he
    ·
     rename_i ha
     exact renL_idf (by
      have:=List.all_eq_true.1 ha _ (List.mem_map.2 ⟨i,List.mem_range.2 hlt,rfl⟩)
      exact this)
    ·
     have h1:=he (.vs (rowOf l i),.vs (V.renL g (rowOf l i))) (List.mem_map.2 ⟨i,List.mem_range.2 hlt,rfl⟩)
     injection h1 with h1
     exact h1.symm
   ·
    rw [rowOf_out (by simp;omega)];rfl
 |mp str f=>
  simp only [nOb]at h
  split at h
  ·
   rename_i hi
   injection h with h;subst h
   show Ob.mp str (f.map (V.ren g))= .mp str f
   rw [mf_idf hi g]
  ·
   cases h
theorem cBackE_cons{g:Nat→Nat}{p:Ob×Ob}{l:List (Ob×Ob)}(h:EqE (cBackE g (p::l))):EqE (cBackE g [p])∧EqE (cBackE g l):=
 ⟨fun q hq=>h q (List.mem_append.2 (.inl (by simpa only [cBackE,List.append_nil]using hq))),fun q hq=>h q (List.mem_append.2 (.inr hq))⟩
theorem inNB_cons{n:Nat}{p:Ob×Ob}{l:List (Ob×Ob)}(h:inNB n (p::l)=true):inNB n [p]=true∧inNB n l=true:=by
 simp only [inNB,Bool.and_eq_true,Bool.and_true]at h ⊢
 exact h
theorem insL_get{σ:Nat→Option Ob}{gi:Nat→Nat}:∀ {ns:List Nat}{l:List (Ob×Ob)},insL σ gi ns=some l→l.length=ns.length∧∀(i:Nat) (p:Ob×Ob),l[i]?=some p→∃k,ns[i]?=some k∧σ k=some p.1∧nOb gi p.1=some p.2
 | [],l,h=>by
  simp only [insL,Option.some.injEq]at h
  subst h
  exact⟨rfl,fun i p h=>by simp at h⟩
 |k::ns,l,h=>by
  simp only [insL]at h
  split at h
  ·
   rename_i o ho
   split at h
   ·
    rename_i o' ho'
    split at h
    ·
     rename_i l' hl
     injection h with h;subst h
     obtain⟨h1,h2⟩:=insL_get hl
     refine⟨by simp [h1],fun i p hp=> ?_⟩
     cases i with
     |zero=>simp at hp;subst hp;exact⟨k,rfl,ho,ho'⟩
     |succ i=>simpa using h2 i p (by simpa using hp)
    ·
     cases h
   ·
    cases h
  ·
   cases h
theorem cBackE_get{g:Nat→Nat}:∀ {l:List (Ob×Ob)},EqE (cBackE g l)→∀ {i:Nat}{p:Ob×Ob},l[i]?=some p→EqE (cBackE g [p])
 |q::l,h,0,p,hp=>by simp at hp;subst hp;exact(cBackE_cons h).1
 |q::l,h,i+1,p,hp=>cBackE_get (cBackE_cons h).2 (by simpa using hp)
theorem inNB_get{n:Nat}:∀ {l:List (Ob×Ob)},inNB n l=true→∀ {i:Nat}{p:Ob×Ob},l[i]?=some p→inNB n [p]=true
 |q::l,h,0,p,hp=>by simp at hp;subst hp;exact(inNB_cons h).1
 |q::l,h,i+1,p,hp=>inNB_get (inNB_cons h).2 (by simpa using hp)
structure CR where
 v:V
 outs:List (Option Ob)
 obs:List Ob
 e:CT
abbrev Clr:Type:=FuncId→List V→List Ob→Option CR
def mth:Nat:=999999999
def ClrOk(P:Program)(call:Clr):Prop:=(∀f args ins r,Nat.beq f mth=false→call f args ins=some r→EqT r.e→AM P f args ins r.v r.outs r.obs)∧
 ∀(name:String) (t:Nat) (r:CR) (n:Int),call mth [.fn (.method name) [] [],.i (t:Int)] []=some r→r.v= .i n→MethSpec P name t n.toNat
structure SX where
 v:V
 pre:List (Nat×Ob)
 δ:List (Nat×Option Ob)
 e:CT
def nodupN:List Nat→Bool
 | []=>true
 |k::l=>match inNs l k with
  |true=>false
  |false=>nodupN l
def cCall2(call:Clr)(nx:Nat)(d:Nat)(f:FuncId)(as0:List V)(ns:List Nat)(l:List (Ob×Ob)):Option SX:=
 match decide (d< 1000) && (nodupN ns && (V.inNL l.length (V.renL (fun i=>500+idxN ns i) as0) && (inNB l.length l && !Nat.beq f mth)))with
 |true=>match call f (V.renL (fun i=>500+idxN ns i) as0) (l.map Prod.snd)with
  |some r=>match Nat.ble r.obs.length 90 && Nat.beq r.outs.length l.length with
   |true=>some ⟨r.v.ren (nameG nx (some d) ns),preD ns (l.map Prod.fst),outD (nameG nx (some d) ns) ns r.outs++callD (nameG nx (some d) ns) 0 r.obs,
     .nd (.lf ((.vs as0,.vs (V.renL (nameG nx (some d) ns) (V.renL (fun i=>500+idxN ns i) as0)))::cBackE (nameG nx (some d) ns) l)) r.e⟩
   |false=>none
  |none=>none
 |false=>none
def cCall(call:Clr)(nx:Nat)(σ:Nat→Option Ob)(o:Oper)(f:FuncId)(as0:List V):Option SX:=
 match o.dst with
 |some d=>match insL σ (fun i=>500+idxN (reachN σ 1000 (V.idsL as0) []) i) (reachN σ 1000 (V.idsL as0) [])with
  |some l=>cCall2 call nx d f as0 (reachN σ 1000 (V.idsL as0) []) l
  |none=>none
 |none=>none
def mOf(M:List Nat)(tm:Nat→V)(o:Oper):List Nat:=match o.op with
 | .box _ y=>match cellsV (ug (ev tm y))with
  |some us=>match V.idfL us with
   |true=>M
   |false=>[o.dst.getD 0]
  |none=>M
 | .buildSlice _ n parts=>match n with
  |0=>[o.dst.getD 0]
  |_+1=>match V.idfL (parts.toList.map fun p=>ug (ev tm p.2))with
   |true=>M
   |false=>[o.dst.getD 0]
 |_=>M
def cDstB(o:Oper):Bool:=match o.dst with
 |some t=>Nat.ble t 999
 |none=>match o.op with
  | .store _ _ _=>true
  | .insert _ _ _ _=>true
  | .mapUpdate _ _ _ _=>true
  |_=>false
theorem cDstB_ok{o:Oper}(h:cDstB o=true):dstOk o=true:=by
 unfold cDstB at h
 unfold dstOk
 split at h
 ·
  rename_i t ht
  have:=Nat.le_of_ble_eq_true h
  simp only [ht]
  exact decide_eq_true (Nat.lt_succ_of_le this)
 ·
  rename_i ht
  simp only [ht]
  exact h
def cOp(T:List TI)(M:List Nat)(nx:Nat)(tm:Nat→V)(σ:Nat→Option Ob)(o:Oper):Option SX:=
 match o.op with
 | .pick x a b=>match ev tm x with
  | .c (.bool t)=>match pickV2 t (ug (ev tm a)) (ug (ev tm b))with
   |some v=>match noDst o with
    |true=>some ⟨v,[],[],.lf (psE (gdP (t == true) (ev tm a)++gdP (t == false) (ev tm b)))⟩
    |false=>none
   |none=>none
  |_=>none
 |_=>match cDstB o && noGd (opsV tm o)with
  |true=>match (qStep T false o (fun x=>ug (ev tm x)) σ).dec with
   |true=>match kstep T false (mOf M tm o) nx o (fun x=>ug (ev tm x)) σ with
    |some r=>some ⟨r.v,r.pre,r.δ,.lf [(.p r.c,.p (qStep T false o (fun x=>ug (ev tm x)) σ).den)]⟩
    |none=>none
   |false=>match (qStep T true o (fun x=>ug (ev tm x)) σ).dec with
    |true=>match kstep T true (mOf M tm o) nx o (fun x=>ug (ev tm x)) σ with
     |some r=>some ⟨r.v,r.pre,r.δ,.lf [(.p r.c,.p (qStep T true o (fun x=>ug (ev tm x)) σ).den)]⟩
     |none=>none
    |false=>none
  |false=>none
def ownNil(T:List TI)(tm:Nat→V)(σ:Nat→Option Ob)(o:Oper):Option SX:=match o.op with
 | .binOp op t x y _=>match ev tm x with
  | .own id=>match ev tm y with
   | .nil=>match (T.getD t ti0).elem with
    |some _=>match σ id with
     |some (.row e sz n row)=>match n with
      |0=>none
      |k+1=>match noDst o with
       |true=>match op with
        | .eql=>some ⟨.b false,[(id,.row e sz (k+1) row)],[],.lf []⟩
        | .neq=>some ⟨.b true,[(id,.row e sz (k+1) row)],[],.lf []⟩
        |_=>none
       |false=>none
     |_=>none
    |none=>none
   |_=>none
  |_=>none
 |_=>none
theorem inNs_mem:∀ {l:List Nat}{i:Nat},inNs l i=false→i∉l
 | [],_,_=>by simp
 |k::l,i,h=>by
  simp only [inNs]at h
  split at h
  ·
   cases h
  ·
   rename_i hb
   have hb:=Nat.ne_of_beq_eq_false hb
   simp only [List.mem_cons,not_or]
   exact⟨hb,inNs_mem h⟩
theorem nodupN_ok:∀ {l:List Nat},nodupN l=true→l.Nodup
 | [],_=> .nil
 |k::l,h=>by
  simp only [nodupN]at h
  split at h
  ·
   cases h
  ·
   rename_i hb
   exact List.nodup_cons.2 ⟨inNs_mem hb,nodupN_ok h⟩
section
variable {P:Program}{W LB:Nat→Prop}{T:List TI}{M:List Nat}{nx:Nat}{tm:Nat→V}{σ:Nat→Option Ob}{o:Oper}{x:SX}{call:Clr}
def CSt(P:Program)(W LB:Nat→Prop)(nx:Nat)(tm:Nat→V)(σ:Nat→Option Ob)(o:Oper)(x:SX):Prop:=
 ∃nw,AStep P W LB o (ev tm) x.v x.pre nw x.δ∧(∀p∈x.pre,σ p.1=some p.2)∧nwOk nx o.dst nw∧∀t,o.dst=some t→t< 1000
theorem cOp_x(hT:TabOk T P){wr:Bool}{r:SR}(hd:(cDstB o && noGd (opsV tm o))=true)(h:kstep T wr M nx o (fun x=>ug (ev tm x)) σ=some r)(hc:r.c){e:CT}:CSt P W LB nx tm σ o ⟨r.v,r.pre,r.δ,e⟩:=by
 simp only [Bool.and_eq_true]at hd
 have hd:dstOk o=true∧noGd (opsV tm o)=true:=⟨cDstB_ok hd.1,hd.2⟩
 rw [kstep_eq]at h
 obtain⟨h1,h2,h3⟩:=astepX_sound (W:=W) (LB:=LB) hT o h hc (dstOk_spec hd.1)
 exact⟨r.nw,h1.weaken fun x hx _ _ _ _ hy=>hy.ug (noGd_spec hd.2 _ (opsV_mem hx)),h2,nw_ok hd.1 h3,fun t ht=>dstOk_lt hd.1 ht⟩
theorem pden_of{c:Prop}{q:PQ}(h:CE.p c=CE.p q.den)(hq:q.dec=true):c:=by
 injection h with h
 rw [h]
 exact PQ.ok hq
theorem cOp_ok(hT:TabOk T P)(h:cOp T M nx tm σ o=some x)(he:EqT x.e):CSt P W LB nx tm σ o x:=by
 unfold cOp at h
 split at h
 ·
  rename_i xx a b hop
  split at h
  ·
   rename_i t hx
   split at h
   ·
    rename_i v hv
    split at h
    ·
     rename_i hd
     injection h with h;subst h
     have hp:=EqE.ps he
     obtain⟨d,op,ty,pos,af,gd⟩:=o
     simp only at hop
     subst hop
     refine⟨[],(ap_pickB xx a b hx (gdP_pick hp.l) (gdP_pick hp.r) (pickV2_spec hv)).step,by simp,by simp [nwOk],fun t ht=> ?_⟩
     simp only at ht
     subst ht
     simpa [noDst]using hd
    ·
     cases h
   ·
    cases h
  ·
   cases h
 ·
  split at h
  ·
   rename_i hd
   split at h
   ·
    rename_i hq
    split at h
    ·
     rename_i r hr
     injection h with h;subst h
     exact cOp_x hT hd hr (pden_of he.hd hq)
    ·
     cases h
   ·
    split at h
    ·
     rename_i hq
     split at h
     ·
      rename_i r hr
      injection h with h;subst h
      exact cOp_x hT hd hr (pden_of he.hd hq)
     ·
      cases h
    ·
     cases h
  ·
   cases h
theorem cCall_okG(hcl:ClrOk P call)(hwl:∀b,W b→LB b){f:FuncId}{as0:List V}(hpl:plainOp o.op=true)(hex:Hex P o (ev tm) f as0)(h:cCall call nx σ o f as0=some x)(he:EqT x.e):CSt P W LB nx tm σ o x:=by
 unfold cCall at h
 split at h
 ·
  rename_i d hd
  split at h
  ·
   rename_i l hl
   generalize reachN σ 1000 (V.idsL as0) []=ns at h hl
   unfold cCall2 at h
   split at h
   ·
    rename_i hb
    split at h
    ·
     rename_i r hr
     split at h
     ·
      rename_i hb2
      injection h with h;subst h
      simp only [Bool.and_eq_true,decide_eq_true_eq]at hb hb2
      obtain⟨hb0,hb1,hb3,hb4,hbm⟩:=hb
      obtain⟨hbo,hbl⟩:=hb2
      have hbl:=Nat.eq_of_beq_eq_true hbl
      have hbo:=Nat.le_of_ble_eq_true hbo
      obtain⟨hlen,hget⟩:=insL_get hl
      have hE:=he.1
      have h1:=hE.hd
      injection h1 with h1
      have hB:=hE.tl
      have am:=hcl.1 _ _ _ _ (by simpa using hbm) hr he.2
      refine⟨(List.range r.obs.length).map (callG nx (some d)),as_callMG (W:=W) (LB:=LB) (d:=some d) (ins':=l.map Prod.fst) am hwl ns hpl hex nx h1 (by simpa using hb3) (by simpa using hb0) hbo (nodupN_ok hb1) (by simp [hlen]) (by simpa using hbl) (by simp) (fun i o o' h2 h3=> ?_),fun p hp=> ?_,?_,?_⟩
      ·
       simp only [List.getElem?_map,Option.map_eq_some_iff]at h2 h3
       obtain⟨p,hp,rfl⟩:=h2
       obtain⟨q,hq,rfl⟩:=h3
       rw [hp]at hq
       injection hq with hq
       subst hq
       obtain⟨k,_,_,hn⟩:=hget i p hp
       exact⟨nOb_eq hn (cBackE_get hB hp),by simpa using nOb_in hn (inNB_get hb4 hp)⟩
      ·
       have key:∀(ns:List Nat) (l:List (Ob×Ob)),(∀(i:Nat) (p:Ob×Ob),l[i]?=some p→∃k,ns[i]?=some k∧σ k=some p.1)→∀p∈preD ns (l.map Prod.fst),σ p.1=some p.2:=by
        intro ns
        induction ns with
        |nil=>intro l _ p hp;simp [preD]at hp
        |cons k ns ih=>
         intro l hl p hp
         cases l with
         |nil=>simp [preD]at hp
         |cons q l=>
          simp only [List.map_cons,preD,List.mem_cons]at hp
          rcases hp with rfl |hp
          ·
           obtain⟨k',h1,h2⟩:=hl 0 q rfl
           simp at h1;subst h1
           exact h2
          ·
           exact ih l (fun i p hp=>by simpa using hl (i+1) p (by simpa using hp)) p hp
       exact key ns l (fun i p hp=>(hget i p hp).imp fun k h=>⟨h.1,h.2.1⟩) p hp
      ·
       intro id hid
       obtain⟨j,hj,rfl⟩:=List.mem_map.1 hid
       have hj':j< r.obs.length:=by simpa using hj
       refine⟨d,hd,?_,?_,?_⟩ <;> simp only [callG,Option.getD_some] <;> omega
      ·
       intro t ht
       rw [hd]at ht
       simp only [Option.some.injEq]at ht
       subst ht
       exact hb0
     ·
      cases h
    ·
     cases h
   ·
    cases h
  ·
   cases h
 ·
  cases h
theorem hex_args{ar:Array Operand}{w:World}{L:Nat→Prop}{ρ:Nat→Option Value}{g:Operand→Value}{e:Operand→V}(hr:∀x∈ar,R w L ρ (e x) (g x)):RV w L ρ (ar.toList.map e) (ar.map g).toList:=by
 refine⟨by simp,fun i u x hu hx=> ?_⟩
 simp only [List.getElem?_map,Option.map_eq_some_iff,Array.toList_map]at hu hx
 obtain⟨p,hp,rfl⟩:=hu
 obtain⟨q,hq,rfl⟩:=hx
 rw [hp]at hq
 injection hq with hq
 subst hq
 exact hr p (by simpa using List.mem_of_getElem? hp)
theorem cCall_ok(hcl:ClrOk P call)(hwl:∀b,W b→LB b){f:FuncId}{as0:List V}(hq:callQ (ev tm) o=some (f,as0))(h:cCall call nx σ o f as0=some x)(he:EqT x.e):CSt P W LB nx tm σ o x:=by
 obtain⟨d',fo,ar,ats,ty,pos,af,gd,first,caps,rfl,hf,ha⟩:=callQ_spec hq
 refine cCall_okG hcl hwl rfl (fun w L ρ g hr=> ?_) h he
 have h1:=hr fo (by simp [Op.operands,Call.operands])
 rw [hf]at h1
 obtain⟨xs,ys,e1,hx,hy⟩:=h1.fn_inv
 have hz:RV w L ρ (ar.toList.map (ev tm)) (ar.map g).toList:=hex_args fun p hp=>hr p (by simp [Op.operands,Call.operands,hp])
 refine⟨xs++ar.map g++ys,fun hcf=> ?_,?_⟩
 ·
  simp [execOp,resolve,Deferred.ofValue,invoke,e1,hcf]
 ·
  rw [←ha]
  have:=(hx.append hz).append hy
  simpa using this
def methC(e:Operand→V)(o:Oper):Option (String×Nat×List V):=match o.op with
 | .call c=>match c.callee with
  | .value fo=>match e fo with
   | .fn (.method name) [.ifc t v] []=>some (name,t,v::c.args.toList.map e)
   |_=>none
  |_=>none
 |_=>none
def cMeth(call:Clr)(nx:Nat)(σ:Nat→Option Ob)(o:Oper)(q:String×Nat×List V):Option SX:=match call mth [.fn (.method q.1) [] [],.i (q.2.1:Int)] []with
 |some r=>match r.v with
  | .c (.int .i64 n)=>cCall call nx σ o n.toNat q.2.2
  |_=>none
 |none=>none
theorem cMeth_ok(hcl:ClrOk P call)(hwl:∀b,W b→LB b){q:String×Nat×List V}(hq:methC (ev tm) o=some q)(h:cMeth call nx σ o q=some x)(he:EqT x.e):CSt P W LB nx tm σ o x:=by
 obtain⟨d,op,ty,pos,af,gd⟩:=o
 unfold methC at hq
 simp only at hq
 split at hq
 ·
  rename_i c
  obtain⟨callee,ar,ats⟩:=c
  simp only at hq
  split at hq
  ·
   rename_i fo
   split at hq
   ·
    rename_i name t v hf
    injection hq with hq;subst hq
    unfold cMeth at h
    split at h
    ·
     rename_i r hr
     split at h
     ·
      rename_i n hn
      have hm:=hcl.2 name t r n hr hn
      refine cCall_okG hcl hwl rfl (fun w L ρ g hrr=> ?_) h he
      have h1:=hrr fo (by simp [Op.operands,Call.operands])
      rw [hf]at h1
      obtain⟨xs,ys,e1,hx,hy⟩:=h1.fn_inv
      have hy0:ys= #[]:=by have:=hy.1;simpa using this.symm
      subst hy0
      obtain⟨x0,hx0,hr0⟩:=hx.get (i:=0) (u:= .ifc t v) rfl
      have hl1:xs.size=1:=by have:=hx.1;simpa using this.symm
      obtain⟨y,e2,hy2⟩:∃y,x0= .iface t y∧R w L ρ v y:=by
       cases hr0
       exact⟨_,rfl,by assumption⟩
      have e3:xs= #[.iface t y]:=by
       rw [e2]at hx0
       apply Array.ext'
       have:xs.toList.length=1:=by simpa using hl1
       match hxl:xs.toList,this with
       | [a],_=>
        rw [hxl]at hx0
        simp at hx0
        rw [hx0]
      have hz:RV w L ρ (ar.toList.map (ev tm)) (ar.map g).toList:=hex_args fun p hp=>hrr p (by simp [Op.operands,Call.operands,hp])
      refine⟨#[y]++ar.map g,fun hcf=> ?_,?_⟩
      ·
       obtain⟨A,hA⟩:∃A,A= #[Value.iface t y]++ar.map g:=⟨_,rfl⟩
       have hA0:A[0]?=some (.iface t y):=by rw [hA,Array.getElem?_append_left (by simp)];rfl
       have hA1:A.extract 1 A.size=ar.map g:=by
        rw [hA]
        apply Array.ext'
        simp [List.take_of_length_le]
       have e5:(method (P.types.size+100) t y name).run P w= .ok (n.toNat,y) w:=hm y w
       have e6:(execOp g ⟨d,.call {callee:= .value fo,args:=ar,argTypes:=ats},ty,pos,af,gd⟩).run P w=(invoke (.fn (.method name) #[]) A).run P w:=by
        rw [hA]
        simp [execOp,resolve,Deferred.ofValue,e1,e3]
       rw [e6]
       simp only [invoke,hA0,hA1,callMethod]
       simp [go_sem,e5,hcf]
      ·
       have:=(RV.nil (w:=w) (L:=L) (ρ:=ρ)).cons hy2
       have:=this.append hz
       simpa using this
     ·
      cases h
    ·
     cases h
   ·
    cases hq
  ·
   cases hq
 ·
  cases hq
def cIfc(T:List TI)(tm:Nat→V)(o:Oper):Option SX:=match o.op with
 | .makeInterface t x=>match (T.getD t ti0).agg with
  |some true=>match noDst o with
   |true=>some ⟨.ifc t (ev tm x),[],[],.lf []⟩
   |false=>none
  |_=>none
 | .nilCheck x=>match ev tm x with
  | .ifc t v=>match noDst o with
   |true=>some ⟨.ifc t v,[],[],.lf []⟩
   |false=>none
  |_=>none
 |_=>none
theorem cIfc_ok(hT:TabOk T P)(h:cIfc T tm o=some x):CSt P W LB nx tm σ o x:=by
 obtain⟨d,op,ty,pos,af,gd⟩:=o
 unfold cIfc at h
 split at h
 ·
  rename_i t xx hop
  simp only at hop
  subst hop
  split at h
  ·
   rename_i ha
   split at h
   ·
    rename_i hd
    injection h with h;subst h
    exact⟨[],(ap_mkIfc t xx (hT.agg ha)).step,by simp,by simp [nwOk],fun t ht=>by
     simp only at ht
     subst ht
     simpa [noDst]using hd⟩
   ·
    cases h
  ·
   cases h
 ·
  rename_i xx hop
  simp only at hop
  subst hop
  split at h
  ·
   rename_i t v hx
   split at h
   ·
    rename_i hd
    injection h with h;subst h
    exact⟨[],(ap_nilIfc xx hx).step,by simp,by simp [nwOk],fun t ht=>by
     simp only at ht
     subst ht
     simpa [noDst]using hd⟩
   ·
    cases h
  ·
   cases h
 ·
  cases h
theorem ownNil_ok(hT:TabOk T P)(h:ownNil T tm σ o=some x):CSt P W LB nx tm σ o x:=by
 obtain⟨d,op,ty,pos,af,gd⟩:=o
 unfold ownNil at h
 split at h
 ·
  rename_i bo t xx y t' hop
  simp only at hop
  subst hop
  split at h
  ·
   rename_i id hx
   split at h
   ·
    rename_i hy
    split at h
    ·
     rename_i el hel
     split at h
     ·
      rename_i e sz n row hσ
      split at h
      ·
       cases h
      ·
       split at h
       ·
        rename_i hd
        have hd':∀t,d=some t→t< 1000:=fun t ht=>by
         subst ht
         simpa [noDst]using hd
        split at h
        ·
         injection h with h;subst h
         exact⟨[],(as_eqO t t' xx y (hT.elem hel) hx hy (Nat.succ_pos _)).1,by simpa using hσ,by simp [nwOk],hd'⟩
        ·
         injection h with h;subst h
         exact⟨[],(as_eqO t t' xx y (hT.elem hel) hx hy (Nat.succ_pos _)).2,by simpa using hσ,by simp [nwOk],hd'⟩
        ·
         cases h
       ·
        cases h
     ·
      cases h
    ·
     cases h
   ·
    cases h
  ·
   cases h
 ·
  cases h
end
def TR.map(f:V→V):TR→TR
 | .e=> .e
 | .n v l r=> .n (f v) (l.map f) (r.map f)
theorem TR.get_map{f:V→V}(hf:f .any= .any):∀(tr:TR) (t:Nat),(tr.map f).get t=f (tr.get t)
 | .e,t=>by rw [TR.map,TR.get_e,hf]
 | .n v l r,0=>by rw [TR.map,TR.get_0,TR.get_0]
 | .n v l r,t+1=>by
  rw [TR.map,TR.get_s,TR.get_s,TR.get_map hf l,TR.get_map hf r]
  split <;> rfl
def obz(id:Nat)(v:V):Ob→Ob
 | .box t cs=>match V.idfL cs with
  |true=> .box t cs
  |false=> .box t (V.fzL id v cs)
 | .row e sz n f=>match ((List.range n).map f).all V.idfL with
  |true=> .row e sz n f
  |false=> .row e sz n (rowOf (((List.range n).map f).map (V.fzL id v)))
 | .mp s f=>match f.l.all fun p=>p.2.idf with
  |true=> .mp s f
  |false=> .mp s (f.map (V.fz id v))
theorem rowOf_mapG{f:Nat→List V}{g:List V→List V}{n i:Nat}(h:i< n):rowOf (((List.range n).map f).map g) i=g (f i):=by
 unfold rowOf
 rw [List.getD_eq_getElem?_getD,List.getElem?_map,List.getElem?_map,List.getElem?_range h]
 rfl
theorem obz_ok(id:Nat)(v:V)(o:Ob):ObZ id v o (obz id v o):=by
 cases o with
 |box t cs=>
  simp only [obz]
  split
  ·
   exact⟨rfl,.inr rfl⟩
  ·
   exact⟨rfl,.inl rfl⟩
 |row e sz n f=>
  simp only [obz]
  split
  ·
   exact⟨rfl,rfl,rfl,fun _ _=> .inr rfl⟩
  ·
   exact⟨rfl,rfl,rfl,fun i hi=> .inl (rowOf_mapG hi)⟩
 |mp s f=>
  simp only [obz]
  split
  ·
   exact⟨rfl,.inr rfl⟩
  ·
   exact⟨rfl,.inl rfl⟩
def fzL(id:Nat)(v:V):List (Nat×Option Ob)→List (Nat×Option Ob)
 | []=>[]
 | (k,o)::l=>match Nat.beq k id with
  |true=>fzL id v l
  |false=>(k,o.map (obz id v))::fzL id v l
theorem lkS_fz(id:Nat)(v:V):∀(l:List (Nat×Option Ob)) (i:Nat) (o':Ob),lkS (fzL id v l) i=some o'→i≠id∧∃o,lkS l i=some o∧ObZ id v o o'
 | [],i,o',h=>by cases h
 | (k,o)::l,i,o',h=>by
  simp only [fzL]at h
  split at h
  ·
   rename_i hk
   have hk:=Nat.eq_of_beq_eq_true hk
   obtain⟨h1,o,h2,h3⟩:=lkS_fz id v l i o' h
   refine⟨h1,o,?_,h3⟩
   simp only [lkS]
   split
   ·
    rename_i h4;exact absurd ((Nat.eq_of_beq_eq_true h4).trans hk) h1
   ·
    exact h2
  ·
   rename_i hk
   have hk:=Nat.ne_of_beq_eq_false hk
   simp only [lkS]at h ⊢
   split at h
   ·
    rename_i h4
    have h4:=Nat.eq_of_beq_eq_true h4
    refine⟨by omega,?_⟩
    cases o with
    |none=>cases h
    |some o=>
     simp only [Option.map_some,Option.some.injEq]at h
     subst h
     exact⟨o,rfl,obz_ok _ _ _⟩
   ·
    exact lkS_fz id v l i o' h
def frzV(s:CS)(id:Nat)(v:V):CS:=⟨s.tr.map (V.fz id v),fzL id v s.sl,s.nx⟩
theorem frzV_le(s:CS)(id:Nat)(v:V){ob:Ob}(hσ:lkS s.sl id=some ob)(h0:∀(W:Nat→Prop) (w:World) (L:Nat→Prop) (ρ:Nat→Option Value),Real W w L ρ id ob→∀y,ρ id=some y→R w (fun b=>L b∨blk y=some b) ρ v y):Le s.den (frzV s id v).den:=by
 have h1:Le s.den ⟨fun t=>V.fz id v (s.tr.get t),lkS (fzL id v s.sl),s.nx⟩:=Le.fzG (s:=s.den) id hσ v (fun i o' h=>lkS_fz id v s.sl i o' h) h0
 have e1:(s.tr.map (V.fz id v)).get=fun t=>V.fz id v (s.tr.get t):=by
  funext t;exact TR.get_map (by rw [V.fz]) _ _
 simp only [frzV,CS.den]
 rw [e1]
 exact @h1
def frz1(s:CS)(id:Nat):CS:=match Nat.ble 0 id with
 |false=>s
 |true=>match lkS s.sl id with
  |some (.row _ sz n f)=>match ((List.range n).map f).all V.idfL with
   |true=>frzV s id (.sl sz n (rowOf ((List.range n).map f)))
   |false=>s
  |some (.box _ cs)=>match V.idfL cs with
   |true=>frzV s id (.ptr cs)
   |false=>s
  |some (.mp p _)=>match Nat.beq p.2 0 with
   |true=>frzV s id .any
   |false=>s
  |none=>s
def frzL(s:CS):List Nat→CS
 | []=>s
 |id::l=>frz1 (frzL s l) id
theorem frz1_le(s:CS)(id:Nat):Le s.den (frz1 s id).den:=by
 unfold frz1
 split
 ·
  exact Le.refl _
 ·
  split
  ·
   rename_i e sz n f hσ
   split
   ·
    rename_i hi
    refine frzV_le s id _ hσ fun W w L ρ hr y hy=> ?_
    have hi':∀i,i< n→V.idfL (f i)=true:=fun i hi'=>by
     have:=rowOf_idf hi i
     rwa [rowOf_map hi']at this
    obtain⟨v,h1,_,h3⟩:=hr.slice hi'
    rw [hy]at h1;injection h1 with h1;subst h1
    exact R_rows h3 fun i hi''=>(rowOf_map hi'').symm
   ·
    exact Le.refl _
  ·
   rename_i t0 cs hσ
   split
   ·
    rename_i hi
    refine frzV_le s id _ hσ fun W w L ρ hr y hy=> ?_
    obtain⟨v,h1,_,h3⟩:=hr.ptr hi
    rw [hy]at h1;injection h1 with h1;subst h1
    exact h3
   ·
    exact Le.refl _
  ·
   rename_i hσ
   split
   ·
    exact frzV_le s id _ hσ fun W w L ρ _ y _=> .any _ _
   ·
    exact Le.refl _
  ·
   exact Le.refl _
theorem frzL_le(s:CS):∀l:List Nat,Le s.den (frzL s l).den
 | []=>Le.refl _
 |id::l=>Le.trans (frzL_le s l) (frz1_le _ id)
def mvL:List (Nat×Operand)→Nat→Option Operand
 | [],_=>none
 | (k,y)::l,t=>match Nat.beq t k with
  |true=>some y
  |false=>mvL l t
def opSrc(en:List (Nat×Operand))(x:Operand):Operand:=match x with
 | .tmp t=>match mvL en t with
  |some y=>y
  |none=> .tmp t
 |x=>x
def opIds(tm:Nat→V)(en:List (Nat×Operand)):List Operand→List Nat
 | []=>[]
 |x::l=>(ug (ev tm (opSrc en x))).ids++opIds tm en l
def argIds(mu:List Nat)(tm:Nat→V):List (Nat×Operand)→List Oper→List Nat
 |_,[]=>[]
 |en,o::os=>match o.op with
  | .call c=>match c.callee with
   | .value fo=>match ug (ev tm (opSrc en fo))with
    | .fn (.func f) _ _=>match inNs mu f with
     |true=>argIds mu tm en os
     |false=>opIds tm en c.args.toList++argIds mu tm en os
    |_=>argIds mu tm en os
   |_=>argIds mu tm en os
  | .move y=>match o.dst with
   |some t=>argIds mu tm ((t,opSrc en y)::en) os
   |none=>argIds mu tm en os
  |_=>argIds mu tm en os
def hasCall:List Oper→Bool
 | []=>false
 |o::os=>match o.op with
  | .call c=>match c.callee with
   | .value _=>true
   |_=>hasCall os
  | .binOp .eql _ _ _ _=>true
  | .binOp .neq _ _ _ _=>true
  |_=>hasCall os
def frzR(mu:List Nat)(s:CS)(ol:List Oper):CS:=match hasCall ol with
 |false=>s
 |true=>frzL s (reachN (lkS s.sl) 1000 (argIds mu s.tr.get [] ol) [])
theorem frzR_le(mu:List Nat)(s:CS)(ol:List Oper):Le s.den (frzR mu s ol).den:=by
 unfold frzR
 split
 ·
  exact Le.refl _
 ·
  exact frzL_le _ _
structure Prm where
 call:Clr
 M:List Nat
 nx:Nat
 tm:Nat→V
 σ:Nat→Option Ob
 o:Oper
def sel{α:Type}(b:Bool)(x:Option α):Option α:=Bool.rec (motive:=fun _=>Option α) none x b
def oE{α β:Type}(o:Option α)(els:Option β)(f:α→Option β):Option β:=Option.rec (motive:=fun _=>Option β) els f o
theorem sel_some{α:Type}{b:Bool}{x:Option α}{y:α}(h:sel b x=some y):b=true∧x=some y:=by
 cases b with
 |true=>exact⟨rfl,h⟩
 |false=>cases h
def ngd:V→Bool
 | .gd _ _=>false
 |_=>true
def dB(d:Option Tmp):Bool:=Option.rec (motive:=fun _=>Bool) false (fun t=>Nat.ble t 999) d
def xOld(T:List TI)(p:Prm):Option SX:=cOp T p.M p.nx p.tm p.σ p.o
def xIn(p:Prm)(x:Operand)(f:V→Option SX):Option SX:=sel (ngd (ev p.tm x)) (f (ev p.tm x))
def xSR(p:Prm)(r:Option SR)(q:PQ):Option SX:=sel (and q.dec (dB p.o.dst)) (oE r none fun r=>some ⟨r.v,r.pre,r.δ,(.lf [])⟩)
def uInt:V→Option (IntKind×Int)
 | .c (.int k n)=>some (k,n)
 |_=>none
def kNum:IntKind→Nat
 | .i8=>0
 | .i16=>1
 | .i32=>2
 | .i64=>3
 | .u8=>4
 | .u16=>5
 | .u32=>6
 | .u64=>7
theorem kNum_inj{a b:IntKind}(h:Nat.beq (kNum a) (kNum b)=true):a=b:=by
 have h:=Nat.eq_of_beq_eq_true h
 cases a <;> cases b <;> first |rfl | (simp [kNum]at h)
def arT(op:BinOp):IntKind→Int→Int→Option (PQ×V):=match op with
 | .add=>fun k a b=>some (inQ k (a+b),.c (.int k (a+b)))
 | .sub=>fun k a b=>some (inQ k (a- b),.c (.int k (a- b)))
 | .mul=>fun k a b=>some (inQ k (a*b),.c (.int k (a*b)))
 | .quo=>fun k a b=>some (.and (.lt 0 b) (inQ k a),.c (.int k (a.tdiv b)))
 | .rem=>fun k a b=>some (.ne b 0,.c (.int k (a.tmod b)))
 | .eql=>fun _ a b=>some (.tt,.b (decide (a=b)))
 | .neq=>fun _ a b=>some (.tt,.b (!decide (a=b)))
 | .lss=>fun _ a b=>some (.tt,.b (decide (a< b)))
 | .leq=>fun _ a b=>some (.tt,.b (decide (a≤b)))
 | .gtr=>fun _ a b=>some (.tt,.b (decide (b< a)))
 | .geq=>fun _ a b=>some (.tt,.b (decide (b≤a)))
 |_=>fun _ _ _=>none
theorem inQ_den(k:IntKind)(n:Int):(inQ k n).den=inR k n:=by cases k <;> rfl
theorem arT_ok{op:BinOp}{k:IntKind}{a b:Int}{q:PQ}{v:V}(h:arT op k a b=some (q,v)):∃c,binV false op (.c (.int k a)) (.c (.int k b))=some (c,v)∧(q.dec=true→c):=by
 refine⟨q.den,?_,PQ.ok⟩
 cases op <;> simp only [arT,Option.some.injEq,Prod.mk.injEq,reduceCtorEq]at h <;> (rw [←h.1,←h.2];simp [binV,binK,PQ.den,inQ_den])
def xCall(_:Call)(T:List TI)(p:Prm):Option SX:=match callQ (ev p.tm) p.o with
 |some (f,as0)=>cCall p.call p.nx p.σ p.o f as0
 |none=>match methC (ev p.tm) p.o with
  |some q=>cMeth p.call p.nx p.σ p.o q
  |none=>xOld T p
def xIfc(_:TypeId)(_:Operand)(T:List TI)(p:Prm):Option SX:=cIfc T p.tm p.o
def xEq(T:List TI)(p:Prm):Option SX:=oE (ownNil T p.tm p.σ p.o) (xOld T p) some
def xAr(T:List TI)(p:Prm)(op:BinOp)(u v:IntKind×Int):Option SX:=oE (sel (Nat.beq (kNum u.1) (kNum v.1)) (arT op u.1 u.2 v.2)) (xEq T p) fun r=>sel (and r.1.dec (dB p.o.dst)) (some ⟨r.2,[],[],(.lf [])⟩)
def xBin(op:BinOp)(_:TypeId)(x y:Operand)(_:TypeId)(T:List TI)(p:Prm):Option SX:=oE (uInt (ev p.tm x)) (xEq T p) fun u=>oE (uInt (ev p.tm y)) (xEq T p) fun v=>xAr T p op u v
def xMove(x:Operand)(T:List TI)(p:Prm):Option SX:=sel (and (ngd (ev p.tm x)) (dB p.o.dst)) (some ⟨ev p.tm x,[],[],(.lf [])⟩)
def xLoad(t:TypeId)(x:Operand)(T:List TI)(p:Prm):Option SX:=xIn p x fun v=>xSR p (loadSR T t p.σ v) (qLoad p.σ v)
def xStore(t:TypeId)(x y:Operand)(T:List TI)(p:Prm):Option SX:=xIn p x fun u=>xIn p y fun v=>sel (and (qStore p.σ u v).dec (Option.rec (motive:=fun _=>Bool) true (fun _=>false) p.o.dst)) (oE (storeSR T t p.σ u v) none fun r=>some ⟨r.v,r.pre,r.δ,(.lf [])⟩)
def xFld(t:TypeId)(x:Operand)(f:Nat)(T:List TI)(p:Prm):Option SX:=xIn p x fun v=>xSR p (kFld T t f v) .tt
def xIdx(t:TypeId)(x y:Operand)(T:List TI)(p:Prm):Option SX:=xIn p x fun u=>xIn p y fun v=>xSR p (kIdx T t p.σ u v) (qIdx T t p.σ u v)
def xNil(x:Operand)(T:List TI)(p:Prm):Option SX:=oE (k2Nil (ev p.tm x)) (cIfc T p.tm p.o) fun r=>sel (and (ngd (ev p.tm x)) (dB p.o.dst)) (some ⟨r.v,r.pre,r.δ,(.lf [])⟩)
def xExt(x:Operand)(i:Nat)(T:List TI)(p:Prm):Option SX:=xIn p x fun v=>xSR p (kExtract v i) .tt
def xStep(op:Op):List TI→Prm→Option SX:=Op.rec (motive:=fun _=>List TI→Prm→Option SX) xMove xMove (fun _ _ _=>xOld) (fun _=>xOld) (fun _ _=>xOld) (fun _ _=>xOld) (fun _ _ _=>xOld) (fun _ _ _ _=>xOld) xLoad xStore (fun _=>xOld) (fun _=>xOld) xNil xBin (fun _ _ _=>xOld) (fun _ _ _=>xOld) (fun _ _=>xOld) xIfc (fun _ _ _=>xOld) (fun _ _=>xOld) (fun _ _=>xOld) (fun _ _ _=>xOld) (fun _ _ _ _ _=>xOld) xFld (fun _ _ _=>xOld) xIdx (fun _ _ _=>xOld) (fun _ _ _ _=>xOld) (fun _ _ _ _=>xOld) (fun _ _ _=>xOld) (fun _ _ _ _=>xOld) (fun _ _=>xOld) (fun _ _=>xOld) (fun _=>xOld) (fun _ _ _ _=>xOld) xExt xCall (fun _=>xOld) (fun _=>xOld) (fun _=>xOld) (fun _ _=>xOld) (fun _ _ _=>xOld) (fun _ _=>xOld) op
theorem oE_some{α β:Type}{o:Option α}{els:Option β}{f:α→Option β}{y:β}(h:oE o els f=some y):(∃a,o=some a∧f a=some y)∨(o=none∧els=some y):=by
 cases o with
 |none=>exact .inr ⟨rfl,h⟩
 |some a=>exact .inl ⟨a,rfl,h⟩
theorem oE_none{α β:Type}{o:Option α}{f:α→Option β}{y:β}(h:oE o none f=some y):∃a,o=some a∧f a=some y:=by
 rcases oE_some h with h | ⟨_,h⟩
 ·
  exact h
 ·
  cases h
theorem ngd_ug{v:V}(h:ngd v=true):ug v=v:=by
 cases v <;> first |rfl |cases h
theorem xIn_some{p:Prm}{x:Operand}{f:V→Option SX}{y:SX}(h:xIn p x f=some y):ngd (ev p.tm x)=true∧f (ev p.tm x)=some y:=sel_some h
theorem noGd_1{v:V}(h:ngd v=true):noGd [v]=true:=by
 cases v <;> first |rfl |cases h
theorem noGd_2{u v:V}(h:ngd u=true)(k:ngd v=true):noGd [u,v]=true:=by
 cases u <;> first |exact noGd_1 k |cases h
theorem dB_ok{o:Oper}(h:dB o.dst=true):cDstB o=true:=by
 unfold dB at h
 unfold cDstB
 cases hd:o.dst with
 |none=>rw [hd]at h;cases h
 |some t=>rw [hd]at h;exact h
theorem xSR_some{p:Prm}{r:Option SR}{q:PQ}{y:SX}(h:xSR p r q=some y):q.dec=true∧dB p.o.dst=true∧∃r',r=some r'∧y=⟨r'.v,r'.pre,r'.δ,.lf []⟩:=by
 obtain⟨h1,h2⟩:=sel_some h
 simp only [Bool.and_eq_true]at h1
 obtain⟨r',h3,h4⟩:=oE_none h2
 injection h4 with h4
 exact⟨h1.1,h1.2,r',h3,h4.symm⟩
theorem loadSR_c{T:List TI}{t:Nat}{σ:Nat→Option Ob}{v:V}{r:SR}(h:loadSR T t σ v=some r)(hq:(qLoad σ v).dec=true):r.c:=by
 have hq:=PQ.ok hq
 unfold loadSR at h
 unfold qLoad at hq
 split at h
 ·
  split at h
  ·
   injection h with h;subst h;trivial
  ·
   cases h
 ·
  split at h
  ·
   rename_i hσ
   simp only [hσ]at hq
   split at h
   ·
    injection h with h;subst h;exact hq
   ·
    cases h
  ·
   cases h
 ·
  split at h
  ·
   rename_i hσ
   simp only [hσ]at hq
   split at h
   ·
    split at h
    ·
     injection h with h;subst h;exact hq
    ·
     cases h
   ·
    cases h
  ·
   cases h
 ·
  cases h
theorem storeSR_c{T:List TI}{t:Nat}{σ:Nat→Option Ob}{u v:V}{r:SR}(h:storeSR T t σ u v=some r)(hq:(qStore σ u v).dec=true):r.c:=by
 have hq:=PQ.ok hq
 unfold storeSR at h
 unfold qStore at hq
 split at h
 ·
  rename_i us hus
  simp only [hus]at hq
  split at h
  ·
   split at h
   ·
    rename_i hσ
    simp only [hσ]at hq
    split at h
    ·
     injection h with h;subst h;exact hq
    ·
     cases h
   ·
    cases h
  ·
   split at h
   ·
    rename_i hσ
    simp only [hσ]at hq
    split at h
    ·
     injection h with h;subst h;exact hq
    ·
     cases h
   ·
    cases h
  ·
   cases h
 ·
  cases h
theorem kIdx_c{T:List TI}{t:Nat}{σ:Nat→Option Ob}{u v:V}{r:SR}(h:kIdx T t σ u v=some r)(hq:(qIdx T t σ u v).dec=true):r.c:=by
 have hq:=PQ.ok hq
 unfold kIdx at h
 split at h
 ·
  rename_i _ i _
  unfold indexSR at h
  split at h
  ·
   split at h
   ·
    split at h
    ·
     injection h with h;subst h;exact hq
    ·
     cases h
   ·
    cases h
  ·
   split at h
   ·
    rename_i n el ha
    have hq:(qArr T t i).den:=hq
    unfold qArr at hq
    simp only [ha]at hq
    split at h
    ·
     injection h with h;subst h;exact hq
    ·
     cases h
   ·
    cases h
  ·
   split at h
   ·
    rename_i n el ha
    have hq:(qArr T t i).den:=hq
    unfold qArr at hq
    simp only [ha]at hq
    split at h
    ·
     injection h with h;subst h;exact hq
    ·
     cases h
   ·
    cases h
  ·
   split at h
   ·
    split at h
    ·
     rename_i hσ
     simp only [qIdx,hσ]at hq
     split at h
     ·
      injection h with h;subst h;exact hq
     ·
      cases h
    ·
     cases h
   ·
    cases h
  ·
   cases h
 ·
  cases h
theorem kFld_c{T:List TI}{t f:Nat}{v:V}{r:SR}(h:kFld T t f v=some r):r.c:=by
 unfold kFld at h
 split at h
 ·
  split at h <;> first | (injection h with h;subst h;trivial) |cases h
 ·
  cases h
theorem kExtract_c{v:V}{i:Nat}{r:SR}(h:kExtract v i=some r):r.c:=by
 unfold kExtract at h
 split at h
 ·
  split at h
  ·
   injection h with h;subst h;trivial
  ·
   cases h
 ·
  cases h
theorem k2Nil_c{v:V}{r:SR}(h:k2Nil v=some r):r.c:=by
 unfold k2Nil at h
 split at h
 ·
  injection h with h;subst h;trivial
 ·
  cases h
theorem kstep_1{T:List TI}{wr:Bool}{M:List Nat}{nx:Nat}{o:Oper}{e:Operand→V}{σ:Nat→Option Ob}{r:SR}(h:kstep1 T wr M nx o e σ=some r):kstep T wr M nx o e σ=some r:=by
 unfold kstep;rw [h]
theorem uInt_some{v:V}{k:IntKind}{n:Int}(h:uInt v=some (k,n)):v= .c (.int k n):=by
 unfold uInt at h
 split at h
 ·
  injection h with h;injection h with h1 h2;subst h1 h2;rfl
 ·
  cases h
theorem xStep_ok{P:Program}{W LB:Nat→Prop}{call:Clr}{T:List TI}{M:List Nat}{nx:Nat}{tm:Nat→V}{σ:Nat→Option Ob}{o:Oper}{x:SX}(hT:TabOk T P)(hcl:ClrOk P call)(hwl:∀b,W b→LB b)(h:xStep o.op T ⟨call,M,nx,tm,σ,o⟩=some x)(he:EqT x.e):CSt P W LB nx tm σ o x:=by
 obtain⟨d,op,ty,pos,af,gd⟩:=o
 have old:∀ {x:SX},xOld T ⟨call,M,nx,tm,σ,⟨d,op,ty,pos,af,gd⟩⟩=some x→EqT x.e→CSt P W LB nx tm σ ⟨d,op,ty,pos,af,gd⟩ x:=fun h he=>cOp_ok hT h he
 have oldB:∀ {x:SX},xEq T ⟨call,M,nx,tm,σ,⟨d,op,ty,pos,af,gd⟩⟩=some x→EqT x.e→CSt P W LB nx tm σ ⟨d,op,ty,pos,af,gd⟩ x:=fun h he=>by
  rcases oE_some h with⟨y,hy,h⟩ | ⟨_,h⟩
  ·
   injection h with h;subst h
   exact ownNil_ok hT hy
  ·
   exact cOp_ok hT h he
 cases op
 case move y=>
  obtain⟨h1,h2⟩:=sel_some h
  simp only [Bool.and_eq_true]at h1
  injection h2 with h2;subst h2
  have e1:=ngd_ug h1.1
  have:=cOp_x (W:=W) (LB:=LB) (M:=M) (wr:=false) (nx:=nx) (σ:=σ) (o:=⟨d,.move y,ty,pos,af,gd⟩) (e:= .lf []) hT (by simp only [Bool.and_eq_true];exact⟨dB_ok (o:=⟨d,.move y,ty,pos,af,gd⟩) h1.2,noGd_1 h1.1⟩) (kstep_1 rfl) trivial
  simp only [resSR,e1]at this
  exact this
 case assign y=>
  obtain⟨h1,h2⟩:=sel_some h
  simp only [Bool.and_eq_true]at h1
  injection h2 with h2;subst h2
  have e1:=ngd_ug h1.1
  have:=cOp_x (W:=W) (LB:=LB) (M:=M) (wr:=false) (nx:=nx) (σ:=σ) (o:=⟨d,.assign y,ty,pos,af,gd⟩) (e:= .lf []) hT (by simp only [Bool.and_eq_true];exact⟨dB_ok (o:=⟨d,.assign y,ty,pos,af,gd⟩) h1.2,noGd_1 h1.1⟩) (kstep_1 rfl) trivial
  simp only [resSR,e1]at this
  exact this
 case binOp bo t y z t'=>
  rcases oE_some h with⟨u,hu,h⟩ | ⟨_,h⟩
  ·
   rcases oE_some h with⟨v,hv,h⟩ | ⟨_,h⟩
   ·
    rcases oE_some h with⟨r,hr,h⟩ | ⟨_,h⟩
    ·
     obtain⟨hk,hr⟩:=sel_some hr
     obtain⟨h1,h2⟩:=sel_some h
     simp only [Bool.and_eq_true]at h1
     injection h2 with h2;subst h2
     obtain⟨k,a⟩:=u
     obtain⟨k',b⟩:=v
     have hk:=kNum_inj hk
     simp only at hk
     subst hk
     obtain⟨q,w⟩:=r
     obtain⟨c,hc1,hc2⟩:=arT_ok hr
     have eu:=uInt_some hu
     have ev':=uInt_some hv
     simp only at eu ev'
     have:=cOp_x (W:=W) (LB:=LB) (M:=M) (wr:=false) (nx:=nx) (σ:=σ) (o:=⟨d,.binOp bo t y z t',ty,pos,af,gd⟩) (tm:=tm) (r:=resSR c w) (e:= .lf []) hT (by simp only [Bool.and_eq_true];exact⟨dB_ok (o:=⟨d,.binOp bo t y z t',ty,pos,af,gd⟩) h1.2,noGd_2 (by rw [eu];rfl) (by rw [ev'];rfl)⟩) (kstep_1 (by
      show kBin T false bo t (ug (ev tm y)) (ug (ev tm z))=_
      rw [eu,ev']
      show kBin T false bo t (.c (.int k a)) (.c (.int k b))=_
      unfold kBin
      rw [hc1])) (hc2 h1.1)
     exact this
    ·
     exact oldB h he
   ·
    exact oldB h he
  ·
   exact oldB h he
 case load t y=>
  have h:xLoad t y T ⟨call,M,nx,tm,σ,⟨d,.load t y,ty,pos,af,gd⟩⟩=some x:=h
  unfold xLoad at h
  obtain⟨h1,h2⟩:=xIn_some h
  obtain⟨h3,h4,r,h5,rfl⟩:=xSR_some h2
  exact cOp_x (W:=W) (LB:=LB) (M:=M) (wr:=false) hT (by simp only [Bool.and_eq_true];exact⟨dB_ok h4,noGd_1 h1⟩) (kstep_1 (by show loadSR T t σ (ug (ev tm y))=_;rw [ngd_ug h1];exact h5)) (loadSR_c h5 h3)
 case store t y z=>
  have h:xStore t y z T ⟨call,M,nx,tm,σ,⟨d,.store t y z,ty,pos,af,gd⟩⟩=some x:=h
  unfold xStore at h
  obtain⟨h1,h2⟩:=xIn_some h
  obtain⟨k1,k2⟩:=xIn_some h2
  obtain⟨h3,h4⟩:=sel_some k2
  simp only [Bool.and_eq_true]at h3
  obtain⟨r,h5,h6⟩:=oE_none h4
  injection h6 with h6;subst h6
  have hd:d=none:=by
   cases d with
   |none=>rfl
   |some t=>exact absurd h3.2 (by simp)
  subst hd
  exact cOp_x (W:=W) (LB:=LB) (M:=M) (wr:=false) hT (by simp only [Bool.and_eq_true];exact⟨rfl,noGd_2 h1 k1⟩) (kstep_1 (by show storeSR T t σ (ug (ev tm y)) (ug (ev tm z))=_;rw [ngd_ug h1,ngd_ug k1];exact h5)) (storeSR_c h5 h3.1)
 case fieldAddr t y f=>
  have h:xFld t y f T ⟨call,M,nx,tm,σ,⟨d,.fieldAddr t y f,ty,pos,af,gd⟩⟩=some x:=h
  unfold xFld at h
  obtain⟨h1,h2⟩:=xIn_some h
  obtain⟨h3,h4,r,h5,rfl⟩:=xSR_some h2
  exact cOp_x (W:=W) (LB:=LB) (M:=M) (wr:=false) hT (by simp only [Bool.and_eq_true];exact⟨dB_ok h4,noGd_1 h1⟩) (kstep_1 (by show kFld T t f (ug (ev tm y))=_;rw [ngd_ug h1];exact h5)) (kFld_c h5)
 case indexAddr t y z=>
  have h:xIdx t y z T ⟨call,M,nx,tm,σ,⟨d,.indexAddr t y z,ty,pos,af,gd⟩⟩=some x:=h
  unfold xIdx at h
  obtain⟨h1,h2⟩:=xIn_some h
  obtain⟨k1,k2⟩:=xIn_some h2
  obtain⟨h3,h4,r,h5,rfl⟩:=xSR_some k2
  exact cOp_x (W:=W) (LB:=LB) (M:=M) (wr:=false) hT (by simp only [Bool.and_eq_true];exact⟨dB_ok h4,noGd_2 h1 k1⟩) (kstep_1 (by show kIdx T t σ (ug (ev tm y)) (ug (ev tm z))=_;rw [ngd_ug h1,ngd_ug k1];exact h5)) (kIdx_c h5 h3)
 case nilCheck y=>
  have h:xNil y T ⟨call,M,nx,tm,σ,⟨d,.nilCheck y,ty,pos,af,gd⟩⟩=some x:=h
  unfold xNil at h
  rcases oE_some h with⟨r,h5,h⟩ | ⟨_,h⟩
  ·
   obtain⟨h1,h2⟩:=sel_some h
   simp only [Bool.and_eq_true]at h1
   injection h2 with h2;subst h2
   have h5:k2Nil (ev tm y)=some r:=h5
   exact cOp_x (W:=W) (LB:=LB) (M:=M) (wr:=false) hT (by simp only [Bool.and_eq_true];exact⟨dB_ok h1.2,noGd_1 h1.1⟩) (by
    unfold kstep
    show(match kstep2 T ⟨d,.nilCheck y,ty,pos,af,gd⟩ (fun x=>ug (ev tm x)) σ with |some r=>some r |none=>_)=_
    rw [show kstep2 T ⟨d,.nilCheck y,ty,pos,af,gd⟩ (fun x=>ug (ev tm x)) σ=some r from by show k2Nil (ug (ev tm y))=_;rw [ngd_ug h1.1];exact h5]) (k2Nil_c h5)
  ·
   exact cIfc_ok hT h
 case extract y i=>
  have h:xExt y i T ⟨call,M,nx,tm,σ,⟨d,.extract y i,ty,pos,af,gd⟩⟩=some x:=h
  unfold xExt at h
  obtain⟨h1,h2⟩:=xIn_some h
  obtain⟨h3,h4,r,h5,rfl⟩:=xSR_some h2
  exact cOp_x (W:=W) (LB:=LB) (M:=M) (wr:=false) hT (by simp only [Bool.and_eq_true];exact⟨dB_ok h4,noGd_1 h1⟩) (kstep_1 (by show kExtract (ug (ev tm y)) i=_;rw [ngd_ug h1];exact h5)) (kExtract_c h5)
 case makeInterface t y=>exact cIfc_ok hT h
 case call c=>
  have h:xCall c T ⟨call,M,nx,tm,σ,⟨d,.call c,ty,pos,af,gd⟩⟩=some x:=h
  unfold xCall at h
  split at h
  ·
   exact cCall_ok hcl hwl (by assumption) h he
  ·
   split at h
   ·
    exact cMeth_ok hcl hwl (by assumption) h he
   ·
    exact old h he
 all_goals exact old h he
def cNd(a b:CT):CT:=match a with
 | .lf l=>match l with
  | []=>b
  |x::l=> .nd (.lf (x::l)) b
 | .nd c d=> .nd (.nd c d) b
theorem cNd_eq{a b:CT}(h:EqT (cNd a b)):EqT a∧EqT b:=by
 unfold cNd at h
 split at h
 ·
  split at h
  ·
   exact⟨(fun p hp=>nomatch hp),h⟩
  ·
   exact h
 ·
  exact h
abbrev KS:Type:=List (List Nat×List Nat)
abbrev RK:Type:=CS→KS→Option (CS×KS×CT)
def rGo(call:Clr)(T:List TI)(M:List Nat)(o:Oper)(ih:RK)(s:CS)(ks:KS):Option (CS×KS×CT):=
 oE (xStep o.op T ⟨call,M,s.nx,s.tr.get,lkS s.sl,o⟩) none fun x=>oE (ih ⟨putO s.tr o.dst x.v,putsS s.sl x.δ,s.nx⟩ ((keysD x.δ,keysP x.pre++keysD x.δ)::ks)) none fun r=>some (r.1,r.2.1,cNd x.e r.2.2)
def rStep(call:Clr)(T:List TI)(M:List Nat)(ol:List Oper)(o:Oper)(ih:RK)(s:CS)(ks:KS):Option (CS×KS×CT):=match o.guard with
 |none=>rGo call T M o ih s ks
 |some _=>match guardV (ol.map (·.dst)) s.tr.get o with
  |some (some g)=>match g with
   |true=>rGo call T M o ih s ks
   |false=>match o.dst with
    |some t=>match Nat.ble t 999 with
     |true=>ih ⟨TR.put 10 s.tr t (.gd false (.b false)),s.sl,s.nx⟩ (([],[])::ks)
     |false=>none
    |none=>none
  |_=>none
def rOps(call:Clr)(T:List TI)(M:List Nat)(ol:List Oper)(os:List Oper):RK:=List.rec (motive:=fun _=>RK) (fun s ks=>some (s,ks,.lf [])) (fun o _ ih=>rStep call T M ol o ih) os
theorem rOps_nil(call:Clr)(T:List TI)(M:List Nat)(ol:List Oper)(s:CS)(ks:KS):rOps call T M ol [] s ks=some (s,ks,.lf []):=rfl
theorem rOps_cons(call:Clr)(T:List TI)(M:List Nat)(ol:List Oper)(o:Oper)(os:List Oper)(s:CS)(ks:KS):rOps call T M ol (o::os) s ks=rStep call T M ol o (rOps call T M ol os) s ks:=rfl
theorem rOps_ok{P:Program}{N:Nat}{C:Cx P N}{T:List TI}{M:List Nat}{call:Clr}(hT:TabOk T P)(hcl:ClrOk P call){ol:List Oper}{K:(Nat→V)→(Nat→Option Ob)→List (List Nat×List Nat)→Prop} :
  ∀ {os:List Oper}{s:CS}{ks:List (List Nat×List Nat)}{s':CS}{ks':List (List Nat×List Nat)}{e:CT},rOps call T M ol os s ks=some (s',ks',e)→EqT e→s'.nx=s.nx∧(K s'.tr.get (lkS s'.sl) ks'.reverse→AOps C ol.toArray s.nx os s.tr.get (lkS s.sl) ks.reverse K)
 | [],s,ks,s',ks',e,h,he=>by
  simp only [rOps_nil,Option.some.injEq,Prod.mk.injEq]at h
  obtain⟨rfl,rfl,rfl⟩:=h
  exact⟨rfl,id⟩
 |o::os,s,ks,s',ks',e,h,he=>by
  have run:wantedV ol.toArray s.tr.get o=some true→rGo call T M o (rOps call T M ol os) s ks=some (s',ks',e)→s'.nx=s.nx∧(K s'.tr.get (lkS s'.sl) ks'.reverse→AOps C ol.toArray s.nx (o::os) s.tr.get (lkS s.sl) ks.reverse K):=by
   intro hw h
   obtain⟨x,hx,h⟩:=oE_none h
   obtain⟨r,h1,h⟩:=oE_none h
   obtain⟨s1,ks1,e1⟩:=r
   simp only [Option.some.injEq,Prod.mk.injEq]at h
   obtain⟨rfl,rfl,rfl⟩:=h
   have he:=cNd_eq he
   obtain⟨nw,q1,q2,q3,q4⟩:=xStep_ok (W:=C.W) (LB:=C.LB) hT hcl C.wl hx he.1
   obtain⟨r1,r2⟩:=rOps_ok hT hcl (C:=C) (K:=K) h1 he.2
   refine⟨r1,fun hk=>⟨⟨true,x.v,x.pre,nw,x.δ⟩,⟨hw,fun _=>⟨q1,q2,q3⟩,by simp⟩,?_⟩⟩
   have:=r2 hk
   rw [putO_upd q4,lkS_upds,List.reverse_cons]at this
   exact this
  rw [rOps_cons]at h
  unfold rStep at h
  split at h
  ·
   rename_i hg
   exact run (by unfold wantedV;rw [hg]) h
  ·
   rename_i gd' hg
   split at h
   ·
    rename_i g hgv
    have hw:=guardV_spec (ops:=ol.toArray) (r:=some g) (by simpa using hgv)
    split at h
    ·
     exact run hw h
    ·
     split at h
     ·
      rename_i t ht
      split at h
      ·
       rename_i hlt
       obtain⟨r1,r2⟩:=rOps_ok hT hcl (C:=C) (K:=K) h he
       refine⟨r1,fun hk=> ?_⟩
       have:=r2 hk
       rw [TR.put_upd (Nat.lt_succ_of_le (Nat.le_of_ble_eq_true hlt)),List.reverse_cons]at this
       exact aops_gfb (by simpa using hgv) ht this
      ·
       cases h
     ·
      cases h
   ·
    cases h
def okDS(ops:List Oper):Bool:=
 decide ((ops.filterMap (·.dst)).Nodup) &&
 (List.range ops.length).all (fun i=>match ops[i]? with
  |some o=>(afterOf o).all (· < i) &&
    (List.range ops.length).all (fun j=>j == i || match ((ops.map (·.dst))[j]?).bind id with
     |some t=> !(looks (ops.map (·.dst)) o).contains t || (afterOf o).contains j || (reach ops ops.length [j]).contains i
     |none=>true)
  |none=>true)
def noW(ks:KS):Bool:=ks.all fun p=>p.1.isEmpty
def okDF(ops:List Oper)(ks:KS):Bool:=okDS ops && (noW ks || okDraw ops ks.reverse)
theorem okDF_ok{ops:List Oper}{kr:KS}(h:okDF ops kr=true):okDraw ops kr.reverse=true:=by
 simp only [okDF,Bool.and_eq_true,Bool.or_eq_true]at h
 have hm:noW kr=true→noW kr.reverse=true:=fun h=>by simpa [noW]using h
 generalize kr.reverse=ks at h hm ⊢
 obtain⟨h1,h2 |h2⟩:=h
 ·
  simp only [okDS,Bool.and_eq_true]at h1
  obtain⟨h3,h4⟩:=h1
  simp only [okDraw,Bool.and_eq_true]
  refine⟨h3,List.all_eq_true.2 fun i hi=> ?_⟩
  have h5:=List.all_eq_true.1 h4 i hi
  have h2:=hm h2
  have hw:∀(j:Nat) (w f:List Nat),ks[j]?=some (w,f)→w=[]:=fun j w f hj=>by
   have:=List.all_eq_true.1 h2 _ (List.mem_of_getElem? hj)
   simpa using this
  cases ho:ops[i]? with
  |none=>rfl
  |some o=>
   rw [ho]at h5
   simp only [Bool.and_eq_true]at h5 ⊢
   refine⟨h5,?_⟩
   cases hk:ks[i]? with
   |none=>rfl
   |some p=>
    obtain⟨wi,fi⟩:=p
    simp only [Bool.or_eq_true]
    refine .inr (List.all_eq_true.2 fun j hj=> ?_)
    cases hkj:ks[j]? with
    |none=>rfl
    |some q=>
     obtain⟨wj,fj⟩:=q
     have e1:=hw i wi fi hk
     have e2:=hw j wj fj hkj
     subst e1 e2
     simp
 ·
  exact h2
inductive CC where
 |code (c:Code) (k:List Fr) (s:CS)
 |ops (ol:List Oper) (dr:Bool) (rest:List Oper) (s:CS) (ks:List (List Nat×List Nat)) (k:List Fr)
 |done (e:Exit) (k:List Fr) (s:CS)
def CC.den:CC→Cfg
 | .code c k s=> .code c k s.den
 | .ops ol dr rest s ks k=> .ops ol dr rest s.tr.get (lkS s.sl) s.nx ks k
 | .done e k s=> .done e k s.den
def c0:CT:= .lf []
abbrev Rng:Type:=Operand→Array Tmp→Code→Code→CS→Option (Exit×CS×CT)
def RngOk{P:Program}{N:Nat}(C:Cx P N)(rng:Rng):Prop:=∀g ps as0 bd s e s' t,rng g ps as0 bd s=some (e,s',t)→EqT t→∀Q:Exit→S→Prop,Q e s'.den→AW C (.rangeFunc g ps as0 bd) Q s.den
def rng0:Rng:=fun _ _ _ _ _=>none
theorem rng0_ok{P:Program}{N:Nat}{C:Cx P N}:RngOk C rng0:=fun _ _ _ _ _ _ _ _ h=>by cases h
abbrev EK:Type:=CS→Option (Exit×CS×CT)
def isN:Exit→Bool
 | .normal=>true
 |_=>false
theorem isN_ok{e:Exit}(h:isN e=true):e= .normal:=by
 cases e <;> first |rfl |cases h
theorem isN_no{e:Exit}(h:isN e=false):e≠ .normal:=by
 intro he;subst he;cases h
def uBool:V→Option Bool
 | .c (.bool t)=>some t
 |_=>none
theorem uBool_ok{v:V}{t:Bool}(h:uBool v=some t):v= .b t:=by
 unfold uBool at h
 split at h
 ·
  injection h with h;subst h;rfl
 ·
  cases h
def eJoin(t:CT)(q:Exit×CS×CT):Option (Exit×CS×CT):=some (q.1,q.2.1,cNd t q.2.2)
def eThen(b:EK)(r:Exit×CS×CT):Option (Exit×CS×CT):=Bool.rec (motive:=fun _=>Option (Exit×CS×CT)) (some r) (oE (b r.2.1) none (eJoin r.2.2)) (isN r.1)
def eSeq(a b:EK):EK:=fun s=>oE (a s) none (eThen b)
def eCond(c:Operand)(a b:EK):EK:=fun s=>oE (uBool (ev s.tr.get c)) none fun t=>Bool.rec (motive:=fun _=>Option (Exit×CS×CT)) (b s) (a s) t
def blkX(id:Nat):Exit→Exit
 | .exit id'=>match Nat.beq id' id with
  |true=> .normal
  |false=> .exit id'
 |e=>e
def eBlock(id:Nat)(a:EK):EK:=fun s=>oE (a s) none fun r=>some (blkX id r.1,r.2)
def loopD(a:EK)(k:Nat):EK:=Nat.rec (motive:=fun _=>EK) a (fun _ ih s=>oE (ih s) none (eThen ih)) k
def eLoop(a:EK):EK:=fun s=>oE (loopD a 30 s) none fun r=>Bool.rec (motive:=fun _=>Option (Exit×CS×CT)) (some r) none (isN r.1)
def notGo:Exit→Bool
 | .goto _=>false
 |_=>true
def eScope(a:EK):EK:=fun s=>oE (a s) none fun r=>sel (notGo r.1) (some r)
def eEnd(e:Exit):EK:=fun s=>some (e,s,c0)
def eRegD(dr:Bool)(ol:List Oper)(r:CS×KS×CT):Option (Exit×CS×CT):=sel (Bool.rec (motive:=fun _=>Bool) true (okDF ol r.2.1) dr) (some (.normal,⟨r.1.tr,r.1.sl,r.1.nx+1⟩,r.2.2))
def eReg(call:Clr)(T:List TI)(M mu:List Nat)(N:Nat)(ops:Array Oper)(dr:Bool):EK:=fun s=>sel (okReg N ops.toList) (oE (rOps call T M ops.toList ops.toList (frzR mu s ops.toList) []) none (eRegD dr ops.toList))
def eNone:EK:=fun _=>none
def evalC(call:Clr)(rng:Rng)(T:List TI)(M mu:List Nat)(N:Nat)(c:Code):EK:=Code.rec (motive:=fun _=>EK)
 (eEnd .normal) (fun _ ops dr=>eReg call T M mu N ops dr) (fun _ _ a b=>eSeq a b) (fun c _ _ a b=>eCond c a b) (fun id _ a=>eBlock id a) (fun _ a=>eLoop a) (fun f ps as0 bd _ _=>rng f ps as0 bd) (fun id=>eEnd (.exit id)) (fun _ a=>eScope a) (fun _=>eEnd .normal) (fun _=>eNone) (eEnd .ret) (fun _=>eNone) c
section
variable {P:Program}{N:Nat}{C:Cx P N}{T:List TI}{M mu:List Nat}{call:Clr}{rng:Rng}
def cEOk(C:Cx P N)(c:Code)(f:EK):Prop:=∀s e s' t,f s=some (e,s',t)→EqT t→∀Q:Exit→S→Prop,Q e s'.den→AW C c Q s.den
theorem eThen_some{b:EK}{r q:Exit×CS×CT}(h:eThen b r=some q):(isN r.1=false∧q=r)∨(r.1= .normal∧∃p,b r.2.1=some p∧q=(p.1,p.2.1,cNd r.2.2 p.2.2)):=by
 unfold eThen at h
 cases hn:isN r.1 with
 |false=>rw [hn]at h;injection h with h;exact .inl ⟨rfl,h.symm⟩
 |true=>
  rw [hn]at h
  obtain⟨p,hp,h⟩:=oE_none h
  injection h with h
  exact .inr ⟨isN_ok hn,p,hp,h.symm⟩
theorem eSeq_ok{x y:Code}{a b:EK}(ha:cEOk C x a)(hb:cEOk C y b):cEOk C (.seq x y) (eSeq a b):=by
 intro s e s' t h he Q hQ
 obtain⟨r,hr,h⟩:=oE_none h
 obtain⟨e1,s1,t1⟩:=r
 rcases eThen_some h with⟨h1,h2⟩ | ⟨h1,p,hp,h2⟩
 ·
  simp only [Prod.mk.injEq]at h2
  obtain⟨rfl,rfl,rfl⟩:=h2
  refine aw_seq (ha _ _ _ _ hr he _ ?_)
  have:=isN_no h1
  cases e <;> first |exact absurd rfl this |exact hQ
 ·
  simp only at h1 hp
  subst h1
  obtain⟨e2,s2,t2⟩:=p
  simp only [Prod.mk.injEq]at h2
  obtain⟨rfl,rfl,rfl⟩:=h2
  have he:=cNd_eq he
  exact aw_seq (ha _ _ _ _ hr he.1 _ (hb _ _ _ _ hp he.2 _ hQ))
theorem loopD_ok{c:Code}{a:EK}(ha:cEOk C c a){Q:Exit→S→Prop}:∀(k:Nat) (s:CS) (e:Exit) (s':CS) (t:CT),loopD a k s=some (e,s',t)→EqT t→(e= .normal→∀m,AWR C c Q m s'.den→∃m',AWR C c Q m' s.den)∧(e≠ .normal→Q e s'.den→∃m',AWR C c Q m' s.den)
 |0,s,e,s',t,h,he=>by
  have h:a s=some (e,s',t):=h
  refine⟨fun hn m hm=>⟨m+1,?_⟩,fun hn hq=>⟨1,?_⟩⟩
  ·
   subst hn
   exact ha _ _ _ _ h he _ hm
  ·
   refine ha _ _ _ _ h he _ ?_
   cases e <;> first |exact absurd rfl hn |exact hq
 |k+1,s,e,s',t,h,he=>by
  have h:oE (loopD a k s) none (eThen (loopD a k))=some (e,s',t):=h
  obtain⟨r,hr,h⟩:=oE_none h
  obtain⟨e1,s1,t1⟩:=r
  rcases eThen_some h with⟨h1,h2⟩ | ⟨h1,p,hp,h2⟩
  ·
   simp only [Prod.mk.injEq]at h2
   obtain⟨rfl,rfl,rfl⟩:=h2
   exact loopD_ok ha k _ _ _ _ hr he
  ·
   simp only at h1 hp
   subst h1
   obtain⟨e2,s2,t2⟩:=p
   simp only [Prod.mk.injEq]at h2
   obtain⟨rfl,rfl,rfl⟩:=h2
   have he:=cNd_eq he
   have q1:=loopD_ok (Q:=Q) ha k _ _ _ _ hr he.1
   have q2:=loopD_ok (Q:=Q) ha k _ _ _ _ hp he.2
   refine⟨fun hn m hm=> ?_,fun hn hq=> ?_⟩
   ·
    obtain⟨m1,h3⟩:=q2.1 hn m hm
    exact q1.1 rfl m1 h3
   ·
    obtain⟨m1,h3⟩:=q2.2 hn hq
    exact q1.1 rfl m1 h3
theorem eReg_ok(hT:TabOk T P)(hcl:ClrOk P call){id:Nat}{ops:Array Oper}{dr:Bool}:cEOk C (.region id ops dr) (eReg call T M mu N ops dr):=by
 intro s e s' t h he Q hQ
 obtain⟨hok,h⟩:=sel_some h
 obtain⟨r,hr,h⟩:=oE_none h
 obtain⟨s1,ks,t1⟩:=r
 obtain⟨hd,h⟩:=sel_some h
 simp only [Option.some.injEq,Prod.mk.injEq]at h
 obtain⟨rfl,rfl,rfl⟩:=h
 have e0:ops=ops.toList.toArray:=by simp
 refine aw_le (frzR_le mu s ops.toList) ?_
 cases dr with
 |false=>
  rw [e0]
  obtain⟨q1,q2⟩:=rOps_ok hT hcl (C:=C) (K:=fun tm' σ' _=>Q .normal ⟨tm',σ',(frzR mu s ops.toList).nx+1⟩) (by simpa using hr) he
  refine aw_region (s:=(frzR mu s ops.toList).den) (by simpa using hok) (q2 ?_)
  have hk':Q .normal ⟨s1.tr.get,lkS s1.sl,s1.nx+1⟩:=hQ
  rw [q1]at hk'
  exact hk'
 |true=>
  rw [e0]
  obtain⟨q1,q2⟩:=rOps_ok hT hcl (C:=C) (K:=fun tm' σ' ks'=>okDraw ops.toList ks'=true∧Q .normal ⟨tm',σ',(frzR mu s ops.toList).nx+1⟩) (by simpa using hr) he
  refine aw_regionD (s:=(frzR mu s ops.toList).den) (by simpa using hok) (q2 ⟨okDF_ok hd,?_⟩)
  have hk':Q .normal ⟨s1.tr.get,lkS s1.sl,s1.nx+1⟩:=hQ
  rw [q1]at hk'
  exact hk'
theorem evalC_ok(hT:TabOk T P)(hcl:ClrOk P call)(hrg:RngOk C rng)(c:Code):cEOk C c (evalC call rng T M mu N c):=by
 induction c with
 |skip=>
  intro s e s' t h he Q hQ
  injection h with h
  simp only [Prod.mk.injEq]at h
  obtain⟨rfl,rfl,rfl⟩:=h
  exact aw_skip hQ
 |region id ops dr=>exact eReg_ok hT hcl
 |seq a b iha ihb=>exact eSeq_ok iha ihb
 |cond c a b iha ihb=>
  intro s e s' t h he Q hQ
  obtain⟨tt,ht,h⟩:=oE_none h
  have ht:=uBool_ok ht
  cases tt with
  |true=>exact aw_cond ht (fun _=>iha _ _ _ _ h he Q hQ) fun h=>by cases h
  |false=>exact aw_cond ht (fun h=>by cases h) fun _=>ihb _ _ _ _ h he Q hQ
 |block id a iha=>
  intro s e s' t h he Q hQ
  obtain⟨r,hr,h⟩:=oE_none h
  obtain⟨e1,s1,t1⟩:=r
  simp only [Option.some.injEq,Prod.mk.injEq]at h
  obtain⟨rfl,rfl,rfl⟩:=h
  refine aw_block (iha _ _ _ _ hr he _ ?_)
  cases e1 with
  |exit id'=>
   simp only [blkX]at hQ
   split at hQ
   ·
    rename_i hb
    have hb:=Nat.eq_of_beq_eq_true hb
    subst hb
    exact xb_same hQ
   ·
    rename_i hb
    exact xb_ne (by simpa using Nat.ne_of_beq_eq_false hb) hQ
  |_=>exact hQ
 |loop a iha=>
  intro s e s' t h he Q hQ
  obtain⟨r,hr,h⟩:=oE_none h
  obtain⟨e1,s1,t1⟩:=r
  cases hn:isN e1 with
  |true=>simp only [hn]at h;cases h
  |false=>
   simp only [hn,Option.some.injEq,Prod.mk.injEq]at h
   obtain⟨rfl,rfl,rfl⟩:=h
   obtain⟨m,hm⟩:=(loopD_ok iha 30 _ _ _ _ hr he).2 (isN_no hn) hQ
   exact aw_rounds m hm
 |rangeFunc f ps as0 bd _ _=>
  intro s e s' t h he Q hQ
  exact hrg _ _ _ _ _ _ _ _ h he Q hQ
 |exit id=>
  intro s e s' t h he Q hQ
  injection h with h
  simp only [Prod.mk.injEq]at h
  obtain⟨rfl,rfl,rfl⟩:=h
  exact aw_exit hQ
 |scope a iha=>
  intro s e s' t h he Q hQ
  obtain⟨r,hr,h⟩:=oE_none h
  obtain⟨e1,s1,t1⟩:=r
  obtain⟨hg,h⟩:=sel_some h
  simp only [Option.some.injEq,Prod.mk.injEq]at h
  obtain⟨rfl,rfl,rfl⟩:=h
  refine aw_scope (iha _ _ _ _ hr he _ ?_)
  cases e1 <;> first |exact hQ |cases hg
 |label l=>
  intro s e s' t h he Q hQ
  injection h with h
  simp only [Prod.mk.injEq]at h
  obtain⟨rfl,rfl,rfl⟩:=h
  exact aw_label hQ
 |goto l=>intro s e s' t h;cases h
 |ret=>
  intro s e s' t h he Q hQ
  injection h with h
  simp only [Prod.mk.injEq]at h
  obtain⟨rfl,rfl,rfl⟩:=h
  exact aw_ret hQ
 |refuse w=>intro s e s' t h;cases h
end
def idsP:List (Nat×V)→List Nat
 | []=>[]
 |p::l=>p.2.ids++idsP l
def invN(nl:List Nat)(i:Nat):Nat:=match inNs nl i with
 |true=>idxN nl i
 |false=>i
def numL:Nat→List Nat→List (Nat×Nat)
 |_,[]=>[]
 |j,k::l=>(j,k)::numL (j+1) l
def renP(g:Nat→Nat):List (Nat×V)→List (Nat×V)
 | []=>[]
 |p::l=>(p.1,p.2.ren g)::renP g l
def vals:List (Nat×V)→List V
 | []=>[]
 |p::l=>p.2::vals l
theorem all_mem{α:Type}{p:α→Prop}:∀ {l:List α},(∀x∈l,p x)→All p l
 | [],_=> .nil
 |x::l,h=> .cons (h x (by simp)) (all_mem fun y hy=>h y (by simp [hy]))
theorem slO_mem:∀ {os:List (Option Ob)}{k:Nat}{p:Nat×Ob},p∈slO k os→∃i,p.1=k+i∧os[i]?=some (some p.2)
 | [],_,_,h=>by simp [slO]at h
 |none::os,k,p,h=>by
  obtain⟨i,h1,h2⟩:=slO_mem (os:=os) h
  exact⟨i+1,by omega,by simpa using h2⟩
 |some o::os,k,p,h=>by
  rcases List.mem_cons.1 h with rfl |h
  ·
   exact⟨0,rfl,rfl⟩
  ·
   obtain⟨i,h1,h2⟩:=slO_mem (os:=os) h
   exact⟨i+1,by omega,by simpa using h2⟩
theorem numL_find:∀ {nl:List Nat}{j i:Nat}{k:Nat},nl[i]?=some k→(numL j nl).find? (·.1 == j+i)=some (j+i,k)
 |a::nl,j,0,k,h=>by simp at h;subst h;simp [numL]
 |a::nl,j,i+1,k,h=>by
  have:=numL_find (j:=j+1) (i:=i) (nl:=nl) (by simpa using h)
  rw [numL,List.find?_cons]
  have e:((j,a).1 == j+(i+1))=false:=by simp
  rw [e,show j+(i+1)=j+1+i by omega]
  exact this
theorem numL_none:∀ {nl:List Nat}{j m:Nat},j+nl.length≤m→(numL j nl).find? (·.1 == m)=none
 | [],_,_,_=>rfl
 |a::nl,j,m,h=>by
  simp only [List.length_cons]at h
  rw [numL,List.find?_cons]
  have e:((j,a).1 == m)=false:=by
   simp only [beq_eq_false_iff_ne];omega
  rw [e]
  exact numL_none oM
theorem renP_all{g gi:Nat→Nat}{tm:Nat→V}:∀ {tl:List (Nat×V)},(∀p∈tl,tm p.1=p.2)→vals tl=V.renL g (vals (renP gi tl))→All (fun p=>tm p.1=p.2.ren g) (renP gi tl)
 | [],_,_=> .nil
 |p::tl,h,e=>by
  simp only [vals,renP,V.renL,List.cons.injEq]at e
  exact .cons ((h p (by simp)).trans e.1) (renP_all (fun q hq=>h q (by simp [hq])) e.2)
end
end Go.Ab

namespace Go.Ab
open Go.RowKit Go.Dw Go.Shelf
structure YE4(P:Program)(es:List (List V)) where
 l:Nat
 J:Nat→Bool→(Nat→Prop)→World→Prop
 L0:Nat→Prop
 B:Nat
 hY:∀k x A W1,k< es.length→ItE4 es k x W1→(∀b,A b→B≤b∧b< W1.heap.size)→B≤W1.heap.size→J k true A W1→YieldAt Fence.wide 0 P l x W1 fun e W2=>∃b:Bool,e= .returned (.bool b)∧Tch (fun i=>¬A i∧¬L0 i) W1 W2∧(b=true→J (k+1) true A W2)∧(b=false→J k false A W2)
 hJ:∀k g A W1 W2,J k g A W1→(∀b,A b→B≤b∧b< W1.heap.size)→B≤W1.heap.size→Tch A W1 W2→J k g (fun b=>A b∨(W1.heap.size≤b∧b< W2.heap.size)) W2
 hL:∀b,L0 b→b< B
structure YC4{P:Program}{N:Nat}{es:List (List V)}(C:Cx P N)(Y:YE4 P es)(A:Nat→Prop)(w:World):Prop where
 F:C.F=Fence.wide
 d:C.dfs=dp0
 W:∀b,C.W b↔A b∨w.heap.size≤b
 LB:∀b,C.LB b→Y.L0 b∨A b∨w.heap.size≤b
 A:∀b,A b→Y.B≤b∧b< w.heap.size
 B:Y.B≤w.heap.size
def AWJ4{P:Program}(N:Nat){es:List (List V)}(Y:YE4 P es)(c:Code)(Q:Exit→S→Nat→Bool→Prop)(s:S)(k:Nat)(g:Bool):Prop:=
 ∀(C:Cx P N) (A:Nat→Prop) a w,YC4 C Y A w→Gm C s a w→Y.J k g A w→c.wpIn Fence.wide 0 P (fun e a' w'=>∃(s':S) (k':Nat) (g':Bool) (C':Cx P N) (A':Nat→Prop),Q e s' k' g'∧YC4 C' Y A' w'∧Gm C' s' a' w'∧Y.J k' g' A' w') a w
section
variable {P:Program}{N:Nat}{es:List (List V)}{Y:YE4 P es}{Q:Exit→S→Nat→Bool→Prop}{s:S}{k:Nat}{g:Bool}
theorem YC4.later{C:Cx P N}{A:Nat→Prop}{w w':World}(h:YC4 C Y A w)(t:Tch C.W w w'):YC4 C Y (fun b=>A b∨(w.heap.size≤b∧b< w'.heap.size)) w'∧Tch A w w':=by
 have hs:=t.size
 refine⟨⟨h.F,h.d,fun b=>(h.W b).trans ?_,fun b hb=> ?_,fun b hb=> ?_,Nat.le_trans h.B hs⟩,t.mono fun j hj hW=>by rcases(h.W j).1 hW with h |h;exact h;omega⟩
 ·
  constructor
  ·
   rintro(h |h)
   ·
    exact .inl (.inl h)
   ·
    by_cases hb:b< w'.heap.size
    ·
     exact .inl (.inr ⟨h,hb⟩)
    ·
     exact .inr oM
  ·
   rintro((h |h) |h)
   ·
    exact .inl h
   ·
    exact .inr h.1
   ·
    exact .inr oM
 ·
  rcases h.LB b hb with h |h |h
  ·
   exact .inl h
  ·
   exact .inr (.inl (.inl h))
  ·
   by_cases hb:b< w'.heap.size
   ·
    exact .inr (.inl (.inr ⟨h,hb⟩))
   ·
    exact .inr (.inr oM)
 ·
  rcases hb with hb |hb
  ·
   exact⟨(h.A b hb).1,Nat.lt_of_lt_of_le (h.A b hb).2 hs⟩
  ·
   exact⟨Nat.le_trans h.B hb.1,hb.2⟩
theorem awj4_aw{c:Code}(h:∀C:Cx P N,C.F=Fence.wide→C.dfs=dp0→AW C c (fun e s'=>Q e s' k g) s):AWJ4 N Y c Q s k g:=by
 intro C A a w yc gm hj
 have:=h C yc.F yc.d a w gm
 rw [yc.F]at this
 refine wpIn_mono this ?_
 rintro e a' w' ⟨s',q,gm',t⟩
 obtain⟨y1,y2⟩:=yc.later t
 exact⟨s',k,g,C,_,q,y1,gm',Y.hJ _ _ _ _ _ hj yc.A yc.B y2⟩
theorem awj4_seq{x y:Code}(h:AWJ4 N Y x (XThenJ (fun s' k' g'=>AWJ4 N Y y Q s' k' g') Q) s k g):AWJ4 N Y (.seq x y) Q s k g:=by
 intro C A a w yc gm hj
 refine wpIn_seq (wpIn_mono (h C A a w yc gm hj) ?_)
 rintro e a' w' ⟨s',k',g',C',A',q,yc',gm',hj'⟩
 cases e with
 |normal=>exact q C' A' a' w' yc' gm' hj'
 |_=>exact⟨s',k',g',C',A',q,yc',gm',hj'⟩
theorem awj4_block{id:Nat}{c:Code}(h:AWJ4 N Y c (XBlockJ id Q) s k g):AWJ4 N Y (.block id c) Q s k g:=by
 intro C A a w yc gm hj
 refine wpIn_block (wpIn_mono (h C A a w yc gm hj) ?_)
 rintro e a' w' ⟨s',k',g',C',A',q,r⟩
 cases e with
 |exit id'=>
  simp only [Exit.inBlock,XBlockJ]at q ⊢
  split at q
  ·
   rename_i h;rw [if_pos h];exact⟨s',k',g',C',A',q,r⟩
  ·
   rename_i h;rw [if_neg h];exact⟨s',k',g',C',A',q,r⟩
 |_=>exact⟨s',k',g',C',A',q,r⟩
theorem awj4_cond{c:Operand}{x y:Code}{t:Bool}(hc:ev s.tm c= .b t)(h1:t=true→AWJ4 N Y x Q s k g)(h2:t=false→AWJ4 N Y y Q s k g):AWJ4 N Y (.cond c x y) Q s k g:=by
 intro C A a w yc gm hj
 obtain⟨L,ρ,g'⟩:=gm
 have:=g'.tm.eval g'.g.gl c
 rw [hc]at this
 refine wpIn_cond this.c_inv ?_
 cases t with
 |true=>exact h1 rfl C A a w yc ⟨L,ρ,g'⟩ hj
 |false=>exact h2 rfl C A a w yc ⟨L,ρ,g'⟩ hj
theorem awj4_ret(h:Q .ret s k g):AWJ4 N Y .ret Q s k g:=fun C A _ _ yc gm hj=>wpIn_ret ⟨s,k,g,C,A,h,yc,gm,hj⟩
theorem awj4_exit{id:Nat}(h:Q (.exit id) s k g):AWJ4 N Y (.exit id) Q s k g:=fun C A _ _ yc gm hj=>wpIn_exit ⟨s,k,g,C,A,h,yc,gm,hj⟩
theorem awj4_skip(h:Q .normal s k g):AWJ4 N Y .skip Q s k g:=fun C A _ _ yc gm hj=>wpIn_skip ⟨s,k,g,C,A,h,yc,gm,hj⟩
end
structure YS4{P:Program}(N:Nat){es:List (List V)}(Y:YE4 P es)(ops:Array Oper)(nx:Nat)(os:List Oper)(fo:Operand)(ar:Array Operand)(d:Nat)(Q:Exit→S→Nat→Bool→Prop)(k:Nat)(tm:Nat→V)(σ:Nat→Option Ob):Prop where
 hf:ev tm fo= .c (.func (.yield Y.l) #[] #[])
 hv:∃v,es[k]?=some v∧A2 (ar.toList.map (ev tm)) v
 fl:V.flatL (ar.toList.map (ev tm))=true∧∀v,es[k]?=some v→V.flatL v=true
 t:∀C:Cx P N,C.F=Fence.wide→C.dfs=dp0→AOps C ops nx os (upd tm d (.b true)) σ [] fun tm' σ' _=>Q .normal ⟨tm',σ',nx+1⟩ (k+1) true
 f:∀C:Cx P N,C.F=Fence.wide→C.dfs=dp0→AOps C ops nx os (upd tm d (.b false)) σ [] fun tm' σ' _=>Q .normal ⟨tm',σ',nx+1⟩ k false
theorem awj4_yield{P:Program}{N:Nat}{es:List (List V)}{Y:YE4 P es}{Q:Exit→S→Nat→Bool→Prop}{id nx k:Nat}{ol:List Oper}{tm:Nat→V}{σ:Nat→Option Ob}(n:Nat){fo:Operand}{ar:Array Operand}{ats:Array TypeId}{d:Nat}{ty:TypeId}{pos:String}{af:Array Edge}
  (hok:okReg N ol=true) (hy:ol[n]?=some ⟨some d,.call {callee:= .value fo,args:=ar,argTypes:=ats},ty,pos,af,none⟩)
  (h:∀C:Cx P N,C.F=Fence.wide→C.dfs=dp0→AOps C ol.toArray nx (ol.take n) tm σ [] fun tm1 σ1 _=>YS4 N Y ol.toArray nx (ol.drop (n+1)) fo ar d Q k tm1 σ1):AWJ4 N Y (.region id ol.toArray false) Q ⟨tm,σ,nx⟩ k true:=by
 intro C A a w yc ⟨L,ρ,g⟩ hj
 obtain⟨h1,h2⟩:=okReg_spec hok
 obtain⟨tr,tm1,σ1,h3,ys⟩:=(h C yc.F yc.d).run
 have hn:n< ol.length:=(List.getElem?_eq_some_iff.1 hy).1
 obtain⟨y,hyd⟩:∃y:Oper,y=⟨some d,.call {callee:= .value fo,args:=ar,argTypes:=ats},ty,pos,af,none⟩:=⟨_,rfl⟩
 have hsp:ol=ol.take n++y::ol.drop (n+1):=by
  rw [hyd]
  have e1:ol.drop n=ol[n]::ol.drop (n+1):=List.drop_eq_getElem_cons hn
  have e2:ol[n]=_:=(List.getElem?_eq_some_iff.1 hy).2
  rw [←e2,←e1,List.take_append_drop]
 refine wpIn_region ?_
 have hsz:ol.toArray.size=(ol.take n).length+(y::ol.drop (n+1)).length:=by
  simp;omega
 rw [List.range_eq_range',hsz]
 have hmem:∀o∈ol.take n++y::ol.drop (n+1),o∈ol:=fun o ho=>by rwa [←hsp]at ho
 refine run_pre (P:=P) (W:=C.W) (LB:=C.LB) (ops:=ol.toArray) (nx:=nx) (N:=N) (dfs:=C.dfs) (.inl rfl) (by simpa using h1) (y::ol.drop (n+1)) (ol.take n) 0 tr tm tm1 σ σ1 a w w L ρ (freshA nx) (fun j=>by rw [←hsp];simp) h3 g (fun o ho t ht id h5 h6 h7=>h5) (fun id hid=>freshA_succ hid) (by rw [←hsp];exact h2) (Tch.refl _ _) ?_
 intro a1 W1 L1 ρ1 fr1 g1 q1 q2 t1
 rw [Nat.zero_add,List.length_take,Nat.min_eq_left (Nat.le_of_lt hn),List.length_cons,List.range'_succ,wpOpsIn_cons]
 obtain⟨yc1,ta1⟩:=yc.later t1
 have hj1:=Y.hJ _ _ _ _ _ hj yc.A yc.B ta1
 obtain⟨A1,hA1⟩:∃A1:Nat→Prop,A1=fun b=>A b∨(w.heap.size≤b∧b< W1.heap.size):=⟨_,rfl⟩
 rw [←hA1]at yc1 hj1
 obtain⟨v,hv,ha⟩:=ys.hv
 have hk:k< es.length:=(List.getElem?_eq_some_iff.1 hv).1
 have hargs:RV W1 (fun _=>False) ρ0 v (ar.map a1.eval).toList:=by
  refine ha.rv ⟨by simp,fun i u x hu hx=> ?_⟩
  have hu':=hu
  simp only [List.getElem?_map,Option.map_eq_some_iff,Array.toList_map]at hu hx
  obtain⟨p,hp,rfl⟩:=hu
  obtain⟨q,hq,rfl⟩:=hx
  rw [hp]at hq
  injection hq with hq
  subst hq
  exact(g1.tm.eval g1.g.gl p).flat (V.flatL_get ys.fl.1 hu')
 have hLl:∀b,L1 b→Y.L0 b∨A1 b:=fun b hb=>by
  have:=g1.g.ll b hb
  rcases yc1.LB b this.2 with h |h |h
  ·
   exact .inl h
  ·
   exact .inr h
  ·
   omega
 obtain⟨fn,tmps,assign,body,hyr,hR⟩:=Y.hY k (ar.map a1.eval) A1 W1 hk ⟨v,hv,ys.fl.2 v hv,hargs⟩ yc1.A yc1.B hj1
 have hfe:a1.eval fo= .func (.yield Y.l) #[] #[]:=by
  have:=g1.tm.eval g1.g.gl fo
  rw [ys.hf]at this
  exact this.c_inv
 have ho:ol.toArray[n]?=some y:=by simp [hy,hyd]
 unfold wpOpIn
 rw [ho]
 simp only
 have hwt:Region.wanted y (yielded ol.toArray a1.tmps)=true:=by rw [hyd];rfl
 rw [if_pos hwt]
 refine⟨fun f _=>trivial,?_⟩
 have hrun:(y.semAt Fence.wide.round a1.eval).run P W1= .ok (.round Y.l fn tmps assign body) W1:=by
  rw [Oper.semAt_eq _ _ _ (fun c e=>by rw [hyd]at e;cases e),hyd]
  simp [execOp,resolve,Deferred.ofValue,invoke,hfe,hyr]
 rw [hrun,Oper.uponIn_round]
 refine⟨fun e=>by simp [Fence.wide]at e,hR.mono ?_⟩
 rintro e W2 ⟨b,rfl,ht2,j1,j2⟩
 have hyd2:y.dst=some d:=by rw [hyd]
 have hdN:d< N:=h1 y (hmem y (by simp)) d hyd2
 obtain⟨C2,c1,c2,c3,c4⟩:∃C2:Cx P N,C2.W=(fun b=>A1 b∨W2.heap.size≤b)∧C2.LB=(fun b=>Y.L0 b∨A1 b∨W2.heap.size≤b)∧C2.dfs=C.dfs∧C2.F=Fence.wide:=
  ⟨⟨fun b=>A1 b∨W2.heap.size≤b,fun b=>Y.L0 b∨A1 b∨W2.heap.size≤b,fun b h=> .inr h,C.dfs,C.mx,Fence.wide,.inl rfl⟩,rfl,rfl,rfl,rfl⟩
 have yc2:YC4 C2 Y A1 W2:=⟨c4,c3.trans yc.d,fun b=>by rw [c1],fun b hb=>by rw [c2]at hb;exact hb,fun b hb=>⟨(yc1.A b hb).1,Nat.lt_of_lt_of_le (yc1.A b hb).2 ht2.size⟩,Nat.le_trans yc1.B ht2.size⟩
 have ex:Ext W1 L1 ρ1 W2 L1 ρ1:=⟨fun b hb=>⟨hb,ht2.block b (g1.g.ll b hb).1 fun hc=>(hLl b hb).elim hc.2 hc.1⟩,fun _ _ h=>h⟩
 have inA:∀b,b< W1.heap.size→C.W b→A1 b:=fun b hb hW=>by
  rcases(yc1.W b).1 hW with h |h
  ·
   exact h
  ·
   omega
 have gb:∀z:Bool,z=b→Gam C2.W C2.LB N C2.dfs fr1 (upd tm1 d (.b z)) σ1 (a1.put y.dst (.bool b)) W2 L1 ρ1:=by
  rintro z rfl
  rw [hyd2,c1,c2,c3]
  refine⟨⟨fun b hb=>⟨Nat.lt_of_lt_of_le (g1.g.ll b hb).1 ht2.size,?_⟩,fun b hb=>⟨.inr hb,.inr (.inr hb)⟩,fun id o ho=> ?_,g1.g.sep,g1.g.glE ex⟩,g1.fr,(show TM (updO tm1 (some d) (V.b z)) _ _ _ _ from(g1.tm.ext ex).put (fun t ht=>by injection ht with ht;rw [←ht,g1.size];exact hdN) (.c _ _)),by simp [Act.put,g1.size],?_,g1.pin⟩
  ·
   rcases hLl b hb with h |h
   ·
    exact .inl h
   ·
    exact .inr (.inl h)
  ·
   have hr1:=g1.g.ob id o ho
   obtain⟨u,hu,hu2⟩:=hr1.lt
   refine hr1.keepW ex fun x j hx hj=> ?_
   rw [hx]at hu;injection hu with hu;subst hu
   have hA:=inA j (hu2 j hj).1 (hu2 j hj).2.1
   exact⟨ht2.block j (hu2 j hj).1 fun hc=>hc.1 hA,(hu2 j hj).2.2,.inl hA⟩
  ·
   obtain⟨Es,p1,p2,p3⟩:=g1.defers
   refine⟨Es,p1,p2,fun D hD=> ?_⟩
   have hlt:=(Array.getElem?_eq_some_iff.1 (p3 D hD).1).1
   have hA:=inA D hlt (p3 D hD).2.1
   exact⟨(ht2.block D hlt fun hc=>hc.1 hA).trans (p3 D hD).1,.inl hA,(p3 D hD).2.2⟩
 have hnd:((ol.drop (n+1)).filterMap (·.dst)).Nodup:=by
  rw [hsp,List.filterMap_append,List.filterMap_cons,hyd2]at h2
  exact(List.nodup_cons.1 (List.nodup_append.1 h2).2.1).2
 have tail:∀(z:Bool) (k':Nat),z=b→Y.J k' z A1 W2→AOps C2 ol.toArray nx (ol.drop (n+1)) (upd tm1 d (.b z)) σ1 [] (fun tm' σ' _=>Q .normal ⟨tm',σ',nx+1⟩ k' z)→
   wpOpsIn Fence.wide 0 P ol.toArray (fun e a' w'=>∃(s':S) (k':Nat) (g':Bool) (C':Cx P N) (A':Nat→Prop),Q e s' k' g'∧YC4 C' Y A' w'∧Gm C' s' a' w'∧Y.J k' g' A' w') (List.range' (n+1) (ol.drop (n+1)).length) (a1.put y.dst (.bool b)) W2:=by
  intro z k' hz hj' hA
  obtain⟨tr2,tm2,σ2,h4,hq⟩:=hA.run
  refine run_text (P:=P) (W:=C2.W) (LB:=C2.LB) (ops:=ol.toArray) (nx:=nx) (N:=N) (dfs:=C2.dfs) (.inl rfl) (by simpa using h1) (ol.drop (n+1)) (n+1) tr2 _ tm2 _ σ2 _ W2 W2 L1 ρ1 fr1 (fun j=>by simp) h4 (gb z hz) (fun o ho=>q1 o (by simp [ho])) q2 hnd (Tch.refl _ _) fun a' w' L' ρ' g' t'=> ?_
  obtain⟨y1,y2⟩:=yc2.later t'
  exact⟨⟨tm2,σ2,nx+1⟩,k',z,C2,_,hq,y1,⟨L',ρ',g'⟩,Y.hJ _ _ _ _ _ hj' yc2.A yc2.B y2⟩
 cases b with
 |true=>exact tail true (k+1) rfl (j1 rfl) (ys.t C2 c4 (c3.trans yc.d))
 |false=>exact tail false k rfl (j2 rfl) (ys.f C2 c4 (c3.trans yc.d))
theorem ait4_intro{T:List TI}{P:Program}(hT:TabOk T P)(hmx:P.follows .mixedOrders=true){f:FuncId}{fn:Func}{c:Code}{N:Nat}(hk:FnOk P f fn c N)(hres:fn.results= #[]){caps:List V}{es:List (List V)}(hargs:caps.length+1≤N)
  (h:∀Y:YE4 P es,AWJ4 N Y c (EndIt es.length) ⟨fun t=>((V.c (.func (.yield Y.l) #[] #[]))::caps).getD t .any,fun _=>none,1⟩ 0 true):AIt4 P f caps es:=by
 refine⟨hk.call,fun L w lb hL hgl hlb=> ?_⟩
 intro l J W hsz hLW hl hlW hJ hY h0
 obtain⟨C,cW,cLB,cd,cF⟩:∃C:Cx P N,C.W=(fun b=>W.heap.size≤b)∧C.LB=(fun b=>L b∨W.heap.size≤b)∧C.dfs=dp0∧C.F=Fence.wide:=⟨⟨fun b=>W.heap.size≤b,fun b=>L b∨W.heap.size≤b,fun b h=> .inr h,dp0,hmx,Fence.wide,.inl rfl⟩,rfl,rfl,rfl,rfl⟩
 obtain⟨Y,yl,yJ,yL,yB⟩:∃Y:YE4 P es,Y.l=l∧Y.J=J∧Y.L0=L∧Y.B=W.heap.size:=
  ⟨⟨l,J,L,W.heap.size,hY,hJ,fun b hb=>Nat.lt_of_lt_of_le (hL b hb) hsz⟩,rfl,rfl,rfl,rfl⟩
 have yc:YC4 C Y (fun _=>False) W:=⟨cF,cd,fun b=>by rw [cW];simp,fun b hb=>by rw [cLB]at hb;rw [yL];exact hb.elim .inl fun h=> .inr (.inr h),fun _ h=>h.elim,by rw [yB];exact Nat.le_refl _⟩
 have hvs:RV W L ρ0 ((V.c (.func (.yield Y.l) #[] #[]))::caps) (#[Value.func (.yield l) #[] #[]]++lb).toList:=by
  have e1:(#[Value.func (.yield l) #[] #[]]++lb).toList=Value.func (.yield l) #[] #[]::lb.toList:=by simp
  rw [e1,yl]
  exact .cons (.c _ _) ⟨hlb.1,fun i u x hu hx=>(hlb.2 i u x hu hx).ext ⟨fun b hb=>⟨hb,hLW b hb⟩,fun _ _ h=>h⟩⟩
 generalize hargsL:((V.c (.func (.yield Y.l) #[] #[]))::caps)=args at hvs
 generalize (#[Value.func (.yield l) #[] #[]]++lb)=vs at hvs
 have hal:args.length=caps.length+1:=by rw [←hargsL];simp
 have hvl:vs.size=args.length:=by have:=hvs.1;simpa using this.symm
 refine callsIn_of_wp_marks (n:=0) hk.hf hk.hb trivial ?_ rfl
 have hw:=h Y
 rw [hargsL]at hw
 refine wpIn_mono (hw C _ _ W yc ⟨L,ρ0,⟨⟨fun b hb=>⟨Nat.lt_of_lt_of_le (hL b hb) hsz,by rw [cLB];exact .inl hb⟩,fun b hb=>⟨by rw [cW];exact hb,by rw [cLB];exact .inr hb⟩,(fun id o ho=>by cases ho),fun i j x y k _ hi=>absurd rfl hi,fun g=>(hgl g).mono (fun b hb=>⟨hb,hLW b hb⟩) fun _ _ h=>h⟩,fun _ _=>rfl,fun t=> ?_,?_,?_,fun id x hp=>by rw [cd]at hp;cases hp⟩⟩ ?_) ?_
 ·
  by_cases ht:t< args.length
  ·
   have h1:args[t]?=some args[t]:=List.getElem?_eq_getElem ht
   obtain⟨x,hx,hr⟩:=hvs.get h1
   have e1:args.getD t .any=args[t]:=by simp [List.getD_eq_getElem?_getD,h1]
   have e2:(vs++Array.replicate (fn.ntmps- vs.size) undef).getD t undef=x:=by
    rw [Array.getD_eq_getD_getElem?,Array.getElem?_append_left oM]
    have:vs[t]?=some x:=by simpa using hx
    rw [this];rfl
   show Go.Ab.R W L ρ0 (args.getD t .any) _
   rw [e1,e2];exact hr
  ·
   have e1:args.getD t .any= .any:=by simp [List.getD_eq_getElem?_getD,List.getElem?_eq_none (Nat.le_of_not_lt ht)]
   show Go.Ab.R W L ρ0 (args.getD t .any) _
   rw [e1];exact .any _ _
 ·
  have:=hk.hn
  simp;omega
 ·
  exact⟨[],by rw [cd];rfl,by simp,by simp⟩
 ·
  rw [yJ];exact h0
 ·
  rintro e a' w' ⟨s',k,g,C',A',⟨he,hg1,hg2⟩,yc',⟨L',ρ',g'⟩,hj⟩
  obtain⟨Ds,d1,d2,d3⟩:=g'.defers
  rw [yc'.d,show dp0.tl=[]from rfl,List.append_nil]at d1
  refine end_marks' Ds he d1 d2 (fun D hD=>(d3 D hD).1) fun w2 ht2=> ?_
  obtain⟨g2,e2⟩:=g'.g.marks ht2 d3
  obtain⟨x,hx,_⟩:=resV_run hT g2 (fun t=>(g'.tm t).ext e2) fn (v:= .tup []) (by rw [hres];rfl)
  have hj2:=Y.hJ k g A' _ _ hj yc'.A yc'.B (ht2.mono fun D hl hD=>by
   rcases(yc'.W D).1 (d3 D hD).2.1 with h |h
   ·
    exact h
   ·
    omega)
  rw [yJ]at hj2
  refine⟨x,hx,⟨x,rfl⟩,fun b=>A' b∨(w'.heap.size≤b∧b< w2.heap.size),fun b hb=> ?_,?_⟩
  rotate_left
  ·
   cases g with
   |true=>
    have:=hg1 rfl;subst this
    exact .inl hj2
   |false=>exact .inr ⟨k,hg2 rfl,hj2⟩
  ·
   rcases hb with hb |hb
   ·
    have:=(yc'.A b hb).1
    rw [yB]at this;exact this
   ·
    have:=yc'.B
    rw [yB]at this;omega
end Go.Ab

namespace Go.Ab
open Go.RowKit Go.Dw Go.Shelf
def ugT:V→Bool
 | .gd g _=>g
 |_=>true
theorem ugT_ok{v:V}(h:ugT v=true):ugOk true v:=by
 cases v <;> first |exact fun _=>h |trivial
structure YSG{P:Program}{N:Nat}{es:List (List V)}(C:Cx P N)(Y:YE P es)(ops:Array Oper)(nx:Nat)(os:List Oper)(fo:Operand)(ar:Array Operand)(d:Nat)(y:Oper)(Q:Exit→S→Nat→Bool→Prop)(k:Nat)(tm:Nat→V)(σ:Nat→Option Ob):Prop where
 hg:wantedV ops tm y=some true
 hu:((fo::ar.toList).all fun x=>ugT (ev tm x))=true
 hf:ug (ev tm fo)= .c (.func (.yield Y.l) #[] #[])
 hv:∃v,es[k]?=some v∧A2 (ar.toList.map fun x=>ug (ev tm x)) v
 idf:V.idfL (ar.toList.map fun x=>ug (ev tm x))=true
 t:AOps C ops nx os (upd tm d (.b true)) σ [] fun tm' σ' _=>Q .normal ⟨tm',σ',nx+1⟩ (k+1) true
 f:AOps C ops nx os (upd tm d (.b false)) σ [] fun tm' σ' _=>Q .normal ⟨tm',σ',nx+1⟩ k false
theorem awj_yieldG{P:Program}{N:Nat}{es:List (List V)}{C:Cx P N}{Y:YE P es}{Q:Exit→S→Nat→Bool→Prop}(hC:YC C Y){id nx k:Nat}{ol:List Oper}{tm:Nat→V}{σ:Nat→Option Ob}(n:Nat){fo:Operand}{ar:Array Operand}{ats:Array TypeId}{d:Nat}{ty:TypeId}{pos:String}{af:Array Edge}{gd':Nat×Bool}
  (hok:okReg N ol=true) (hy:ol[n]?=some ⟨some d,.call {callee:= .value fo,args:=ar,argTypes:=ats},ty,pos,af,some gd'⟩)
  (h:AOps C ol.toArray nx (ol.take n) tm σ [] fun tm1 σ1 _=>YSG C Y ol.toArray nx (ol.drop (n+1)) fo ar d ⟨some d,.call {callee:= .value fo,args:=ar,argTypes:=ats},ty,pos,af,some gd'⟩ Q k tm1 σ1):AWJ C Y (.region id ol.toArray false) Q ⟨tm,σ,nx⟩ k true:=by
 intro a w ⟨L,ρ,g⟩ hj hb
 obtain⟨h1,h2⟩:=okReg_spec hok
 obtain⟨tr,tm1,σ1,h3,ys⟩:=h.run
 have hn:n< ol.length:=(List.getElem?_eq_some_iff.1 hy).1
 obtain⟨y,hyd⟩:∃y:Oper,y=⟨some d,.call {callee:= .value fo,args:=ar,argTypes:=ats},ty,pos,af,some gd'⟩:=⟨_,rfl⟩
 have hsp:ol=ol.take n++y::ol.drop (n+1):=by
  rw [hyd]
  have e1:ol.drop n=ol[n]::ol.drop (n+1):=List.drop_eq_getElem_cons hn
  have e2:ol[n]=_:=(List.getElem?_eq_some_iff.1 hy).2
  rw [←e2,←e1,List.take_append_drop]
 refine wpIn_region ?_
 have hsz:ol.toArray.size=(ol.take n).length+(y::ol.drop (n+1)).length:=by
  simp;omega
 rw [List.range_eq_range',hsz]
 have hmem:∀o∈ol.take n++y::ol.drop (n+1),o∈ol:=fun o ho=>by rwa [←hsp]at ho
 refine run_pre (P:=P) (W:=C.W) (LB:=C.LB) (ops:=ol.toArray) (nx:=nx) (N:=N) (dfs:=C.dfs) (.inl rfl) (by simpa using h1) (y::ol.drop (n+1)) (ol.take n) 0 tr tm tm1 σ σ1 a w w L ρ (freshA nx) (fun j=>by rw [←hsp];simp) h3 g (fun o ho t ht id h5 h6 h7=>h5) (fun id hid=>freshA_succ hid) (by rw [←hsp];exact h2) (Tch.refl _ _) ?_
 intro a1 W1 L1 ρ1 fr1 g1 q1 q2 t1
 rw [Nat.zero_add,List.length_take,Nat.min_eq_left (Nat.le_of_lt hn),List.length_cons,List.range'_succ,wpOpsIn_cons]
 have hj1:Y.J k true W1:=Y.hJ _ _ _ _ hj (t1.belU hb fun j hj hW=>(hC.W j hW).resolve_left oM)
 have hb1:Y.B≤W1.heap.size:=Nat.le_trans hb t1.size
 obtain⟨v,hv,ha⟩:=ys.hv
 have hk:k< es.length:=(List.getElem?_eq_some_iff.1 hv).1
 have hargs:RV W1 L1 ρ0 v (ar.map a1.eval).toList:=by
  refine ha.rv (RV.free (ρ:=ρ1) ⟨by simp,fun i u x hu hx=> ?_⟩ ys.idf)
  simp only [List.getElem?_map,Option.map_eq_some_iff,Array.toList_map]at hu hx
  obtain⟨p,hp,rfl⟩:=hu
  obtain⟨q,hq,rfl⟩:=hx
  rw [hp]at hq
  injection hq with hq
  subst hq
  exact(g1.tm.eval g1.g.gl p).ug (ugT_ok (List.all_eq_true.1 ys.hu p (List.mem_cons_of_mem _ (List.mem_of_getElem? hp))))
 have hLl:∀b,L1 b→(Y.L0 b∨Y.U b)∨Y.B≤b:=fun b hb=>hC.LB b (g1.g.ll b hb).2
 obtain⟨fn,tmps,assign,body,hyr,hR⟩:=Y.hY k (ar.map a1.eval) W1 hk ⟨v,hv,L1,fun b hbl=>by
  rcases hLl b hbl with h |h
  ·
   exact .inl h
  ·
   exact .inr ⟨Nat.le_trans Y.hB h,(g1.g.ll b hbl).1,by have:=Y.hl.2;omega⟩,hargs⟩ hb1 hj1
 have hfe:a1.eval fo= .func (.yield Y.l) #[] #[]:=by
  have:=(g1.tm.eval g1.g.gl fo).ug (ugT_ok (List.all_eq_true.1 ys.hu fo (List.mem_cons_self ..)))
  rw [ys.hf]at this
  exact this.c_inv
 have ho:ol.toArray[n]?=some y:=by simp [hy,hyd]
 unfold wpOpIn
 rw [ho]
 simp only
 have hwt:Region.wanted y (yielded ol.toArray a1.tmps)=true:=by rw [hyd];exact wantedV_spec g1.tm ys.hg
 rw [if_pos hwt]
 refine⟨fun f _=>trivial,?_⟩
 have hrun:(y.semAt Fence.wide.round a1.eval).run P W1= .ok (.round Y.l fn tmps assign body) W1:=by
  rw [Oper.semAt_eq _ _ _ (fun c e=>by rw [hyd]at e;cases e),hyd]
  simp [execOp,resolve,Deferred.ofValue,invoke,hfe,hyr]
 rw [hrun,Oper.uponIn_round]
 refine⟨fun e=>by simp [Fence.wide]at e,hR.mono ?_⟩
 rintro e W2 ⟨b,rfl,ht2,j1,j2⟩
 have hyd2:y.dst=some d:=by rw [hyd]
 have hdN:d< N:=h1 y (hmem y (by simp)) d hyd2
 have nL:∀j,L1 j→¬(Y.R0 j∨j=Y.l):=by
  rintro j hjl (h |rfl)
  ·
   have q:=Y.hR j h
   rcases hLl j hjl with(h' |h') |h'
   ·
    exact q.2 h'
   ·
    exact(Y.hU j h').2.2 h
   ·
    have:=Y.hB;omega
  ·
   rcases hLl _ hjl with(h' |h') |h'
   ·
    have:=Y.hL _ h';have:=Y.hl.1;omega
   ·
    have:=(Y.hU _ h').1;have:=Y.hl.1;omega
   ·
    have:=Y.hl.2;omega
 have nW:∀j,C.W j→¬(Y.R0 j∨j=Y.l):=by
  rintro j hjw (h |rfl)
  ·
   rcases hC.W j hjw with hw |hw
   ·
    have q:=Y.hR j h;have:=Y.hB;omega
   ·
    exact(Y.hU j hw).2.2 h
  ·
   rcases hC.W _ hjw with hw |hw
   ·
    have:=Y.hl.2;omega
   ·
    have:=(Y.hU _ hw).1;have:=Y.hl.1;omega
 have ex:Ext W1 L1 ρ1 W2 L1 ρ1:=⟨fun b hb=>⟨hb,ht2.block b (g1.g.ll b hb).1 (nL b hb)⟩,fun _ _ h=>h⟩
 have gb:∀z:Bool,z=b→Gam C.W C.LB N C.dfs fr1 (upd tm1 d (.b z)) σ1 (a1.put y.dst (.bool b)) W2 L1 ρ1:=by
  rintro z rfl
  rw [hyd2]
  refine⟨⟨fun b hb=>⟨Nat.lt_of_lt_of_le (g1.g.ll b hb).1 ht2.size,(g1.g.ll b hb).2⟩,fun b hb=>g1.g.new b (Nat.le_trans ht2.size hb),fun id o ho=> ?_,g1.g.sep,g1.g.glE ex⟩,g1.fr,(show TM (updO tm1 (some d) (V.b z)) _ _ _ _ from(g1.tm.ext ex).put (fun t ht=>by injection ht with ht;rw [←ht,g1.size];exact hdN) (.c _ _)),by simp [Act.put,g1.size],?_,g1.pin⟩
  ·
   have hr1:=g1.g.ob id o ho
   obtain⟨u,hu,hu2⟩:=hr1.lt
   refine hr1.keep ex fun x j hx hj=> ?_
   rw [hx]at hu;injection hu with hu;subst hu
   exact⟨ht2.block j (hu2 j hj).1 (nW j (hu2 j hj).2.1),(hu2 j hj).2.2⟩
  ·
   obtain⟨Es,p1,p2,p3⟩:=g1.defers
   exact⟨Es,p1,p2,fun D hD=>⟨(ht2.block D (Array.getElem?_eq_some_iff.1 (p3 D hD).1).1 (nW D (p3 D hD).2.1)).trans (p3 D hD).1,(p3 D hD).2⟩⟩
 have hb2:Y.B≤W2.heap.size:=Nat.le_trans hb1 ht2.size
 have hnd:((ol.drop (n+1)).filterMap (·.dst)).Nodup:=by
  rw [hsp,List.filterMap_append,List.filterMap_cons,hyd2]at h2
  exact(List.nodup_cons.1 (List.nodup_append.1 h2).2.1).2
 have tail:∀(z:Bool) (k':Nat),z=b→Y.J k' z W2→AOps C ol.toArray nx (ol.drop (n+1)) (upd tm1 d (.b z)) σ1 [] (fun tm' σ' _=>Q .normal ⟨tm',σ',nx+1⟩ k' z)→
   wpOpsIn Fence.wide 0 P ol.toArray (fun e a' w'=>∃s' k' g',Q e s' k' g'∧Gm C s' a' w'∧Y.J k' g' w'∧Y.B≤w'.heap.size) (List.range' (n+1) (ol.drop (n+1)).length) (a1.put y.dst (.bool b)) W2:=by
  intro z k' hz hj' hA
  obtain⟨tr2,tm2,σ2,h4,hq⟩:=hA.run
  exact run_text (P:=P) (W:=C.W) (LB:=C.LB) (ops:=ol.toArray) (nx:=nx) (N:=N) (dfs:=C.dfs) (.inl rfl) (by simpa using h1) (ol.drop (n+1)) (n+1) tr2 _ tm2 _ σ2 _ W2 W2 L1 ρ1 fr1 (fun j=>by simp) h4 (gb z hz) (fun o ho=>q1 o (by simp [ho])) q2 hnd (Tch.refl _ _) fun a' w' L' ρ' g' t'=>
   ⟨⟨tm2,σ2,nx+1⟩,k',z,hq,⟨L',ρ',g'⟩,Y.hJ _ _ _ _ hj' (t'.belU hb2 fun j hj hW=>(hC.W j hW).resolve_left oM),Nat.le_trans hb2 t'.size⟩
 cases b with
 |true=>exact tail true (k+1) rfl (j1 rfl) ys.t
 |false=>exact tail false k rfl (j2 rfl) ys.f
end Go.Ab

namespace Go.Ab
open Go.RowKit Go.Dw Go.Shelf
noncomputable section
def AWJR{P:Program}(N:Nat){es:List (List V)}(Y:YE4 P es)(c:Code)(Q:Exit→S→Nat→Bool→Prop):Nat→S→Nat→Bool→Prop
 |0,_,_,_=>False
 |m+1,s,k,g=>AWJ4 N Y c (XThenJ (AWJR N Y c Q m) Q) s k g
theorem awj4_rounds{P:Program}{N:Nat}{es:List (List V)}{Y:YE4 P es}{Q:Exit→S→Nat→Bool→Prop}{c:Code}{s:S}{k:Nat}{g:Bool}(m:Nat)(h:AWJR N Y c Q m s k g):AWJ4 N Y (.loop c) Q s k g:=by
 intro C A a w yc gm hj
 refine wpIn_loop_rounds m ?_
 have key:∀(m:Nat) (s:S) (k:Nat) (g:Bool) (C:Cx P N) (A:Nat→Prop) (a:Act) (w:World),AWJR N Y c Q m s k g→YC4 C Y A w→Gm C s a w→Y.J k g A w→Code.roundsIn Fence.wide 0 P c (fun e a' w'=>∃(s':S) (k':Nat) (g':Bool) (C':Cx P N) (A':Nat→Prop),Q e s' k' g'∧YC4 C' Y A' w'∧Gm C' s' a' w'∧Y.J k' g' A' w') m a w:=by
  intro m
  induction m with
  |zero=>intro s k g C A a w h;exact h.elim
  |succ m ih=>
   intro s k g C A a w h yc gm hj
   refine wpIn_mono (h C A a w yc gm hj) ?_
   rintro e a' w' ⟨s',k',g',C',A',q,yc',gm',hj'⟩
   cases e with
   |normal=>exact ih s' k' g' C' A' a' w' q yc' gm' hj'
   |_=>exact⟨s',k',g',C',A',q,yc',gm',hj'⟩
 exact key m s k g C A a w h yc gm hj
section
variable {P:Program}(N:Nat){es:List (List V)}(Y:YE4 P es) (Q:Exit→S→Nat→Bool→Prop)
def WkJ:List Fr→Exit→S→Nat→Bool→Prop
 | []=>Q
 | .c y::k=>XThenJ (fun s' n g=>AWJ4 N Y y (WkJ k) s' n g) (WkJ k)
 | .b id::k=>XBlockJ id (WkJ k)
 | .l y m::k=>XThenJ (AWJR N Y y (WkJ k) m) (WkJ k)
 | .s::_=>fun _ _ _ _=>False
def HdJ:CC→Nat→Bool→Prop
 | .code c k s,n,g=>AWJ4 N Y c (WkJ N Y Q k) s.den n g
 | .done e k s,n,g=>WkJ N Y Q k e s.den n g
 | .ops _ _ _ _ _ _,_,_=>False
end
structure JX where
 g:CC
 y:Option (List V)
 side:Option CC
 e:CT
def isYld(tm:Nat→V)(ys:List Nat):Operand→Bool
 | .tmp t=>match inNs ys t with
  |true=>true
  |false=>match tm t with
   | .c (.func (.yield _) _ _)=>true
   |_=>false
 |_=>false
def yIdx(tm:Nat→V):List Nat→List Oper→Option Nat
 |_,[]=>none
 |ys,o::os=>match o.op with
  | .call c=>match c.callee with
   | .value fo=>match isYld tm ys fo with
    |true=>some 0
    |false=>match yIdx tm ys os with
     |some n=>some (n+1)
     |none=>none
   |_=>match yIdx tm ys os with
    |some n=>some (n+1)
    |none=>none
  | .move x=>match yIdx tm (match isYld tm ys x with
    |true=>o.dst.getD 0::ys
    |false=>ys) os with
   |some n=>some (n+1)
   |none=>none
  |_=>match yIdx tm ys os with
   |some n=>some (n+1)
   |none=>none
def yArg(tm:Nat→V)(o:Oper):Option (V×List V):=match o.op with
 | .call c=>match c.callee with
  | .value fo=>match V.idfL (c.args.toList.map (fun x=>ug (ev tm x))) && ((fo::c.args.toList).all fun x=>ugT (ev tm x))with
   |true=>some (ug (ev tm fo),c.args.toList.map (fun x=>ug (ev tm x)))
   |false=>none
  |_=>none
 |_=>none
def yGd(gOk:Bool)(ol:List Oper)(tm:Nat→V)(o:Oper):Bool:=match o.guard with
 |none=>(opsV tm o).all fun v=>match v with
  | .gd _ _=>false
  |_=>true
 |some _=>match gOk with
  |false=>false
  |true=>match guardV (ol.map (·.dst)) tm o with
   |some (some g)=>g
   |_=>false
def jReg(gOk:Bool)(call:Clr)(T:List TI)(M:List Nat)(l:Nat)(ol:List Oper)(k:List Fr)(s:CS)(n:Nat):Option JX:=
 match ol[n]? with
 |some o=>match o.dst with
   |some d=>match decide (d< 1000)with
    |true=>match rOps call T M ol (ol.take n) s []with
     |some (s1,_,e1)=>match yGd gOk ol s1.tr.get o with
      |true=>match yArg s1.tr.get o with
       |some (fv,as0)=>match rOps call T M ol (ol.drop (n+1)) ⟨TR.put 10 s1.tr d (.b true),s1.sl,s1.nx⟩ []with
        |some (s2,_,e2)=>match rOps call T M ol (ol.drop (n+1)) ⟨TR.put 10 s1.tr d (.b false),s1.sl,s1.nx⟩ []with
         |some (s3,_,e3)=>some ⟨.done .normal k ⟨s2.tr,s2.sl,s2.nx+1⟩,some as0,some (.done .normal k ⟨s3.tr,s3.sl,s3.nx+1⟩),.nd (.lf [(.vs [fv],.vs [.c (.func (.yield l) #[] #[])])]) (.nd e1 (.nd e2 e3))⟩
         |none=>none
        |none=>none
       |none=>none
      |false=>none
     |none=>none
    |false=>none
   |none=>none
 |none=>none
def jstp(gOk:Bool)(call:Clr)(T:List TI)(M mu:List Nat)(N l:Nat):CC→Option JX
 | .done e k s=>match k with
  | []=>none
  | .c y::k=>match e with
   | .normal=>some ⟨.code y k s,none,none,c0⟩
   |e=>some ⟨.done e k s,none,none,c0⟩
  | .b id::k=>match e with
   | .exit id'=>match Nat.beq id' id with
    |true=>some ⟨.done .normal k s,none,none,c0⟩
    |false=>some ⟨.done (.exit id') k s,none,none,c0⟩
   |e=>some ⟨.done e k s,none,none,c0⟩
  | .l y m::k=>match e with
   | .normal=>match m with
    |0=>none
    |m+1=>some ⟨.code y (.l y m::k) s,none,none,c0⟩
   |e=>some ⟨.done e k s,none,none,c0⟩
  | .s::_=>none
 | .code c k s=>match c with
  | .skip=>some ⟨.done .normal k s,none,none,c0⟩
  | .exit id=>some ⟨.done (.exit id) k s,none,none,c0⟩
  | .ret=>some ⟨.done .ret k s,none,none,c0⟩
  | .seq x y=>some ⟨.code x (.c y::k) s,none,none,c0⟩
  | .block id x=>some ⟨.code x (.b id::k) s,none,none,c0⟩
  | .loop x=>some ⟨.code x (.l x 1000000::k) s,none,none,c0⟩
  | .cond c x y=>match ev s.tr.get c with
   | .c (.bool t)=>match t with
    |true=>some ⟨.code x k s,none,none,c0⟩
    |false=>some ⟨.code y k s,none,none,c0⟩
   |_=>none
  | .region _ ops dr=>match okReg N ops.toList with
   |true=>match rOps call T M ops.toList ops.toList (frzR mu s ops.toList) []with
    |some (s',ks,e)=>match dr with
     |false=>some ⟨.done .normal k ⟨s'.tr,s'.sl,s'.nx+1⟩,none,none,e⟩
     |true=>match okDF ops.toList ks with
      |true=>some ⟨.done .normal k ⟨s'.tr,s'.sl,s'.nx+1⟩,none,none,e⟩
      |false=>none
    |none=>match yIdx s.tr.get [] ops.toList with
     |some n=>match dr with
      |false=>jReg gOk call T M l ops.toList k s n
      |true=>none
     |none=>none
   |false=>none
  |_=>none
 | .ops _ _ _ _ _ _=>none
section
variable {P:Program}{N:Nat}{es:List (List V)}{Y:YE4 P es}{Q:Exit→S→Nat→Bool→Prop}{T:List TI}{M mu:List Nat}{call:Clr}
theorem wkj_c{y:Code}{k:List Fr}{e:Exit}{s:S}{n:Nat}{g:Bool}(hne:e≠ .normal)(h:WkJ N Y Q k e s n g):WkJ N Y Q (.c y::k) e s n g:=by
 cases e <;> first |exact absurd rfl hne |exact h
theorem wkj_l{y:Code}{m:Nat}{k:List Fr}{e:Exit}{s:S}{n:Nat}{g:Bool}(hne:e≠ .normal)(h:WkJ N Y Q k e s n g):WkJ N Y Q (.l y m::k) e s n g:=by
 cases e <;> first |exact absurd rfl hne |exact h
theorem wkj_b{id:Nat}{k:List Fr}{e:Exit}{s:S}{n:Nat}{g:Bool}(hne:∀i,e≠ .exit i)(h:WkJ N Y Q k e s n g):WkJ N Y Q (.b id::k) e s n g:=by
 cases e <;> first |exact absurd rfl (hne _) |exact h
theorem awj4_roundsS{c:Code}{s:S}{k:Nat}{g:Bool}(u:Nat)(h:AWJ4 N Y c (XThenJ (AWJR N Y c Q u) Q) s k g):AWJ4 N Y (.loop c) Q s k g:=awj4_rounds (u+1) h
def JStep(N:Nat){P:Program}{es:List (List V)}(Y:YE4 P es)(Q:Exit→S→Nat→Bool→Prop)(g:CC)(x:JX):Prop:=
 (x.y=none→∀n b,HdJ N Y Q x.g n b→HdJ N Y Q g n b)∧
 ∀as0,x.y=some as0→∃sd,x.side=some sd∧∀n,es[n]?=some as0→HdJ N Y Q x.g (n+1) true→HdJ N Y Q sd n false→HdJ N Y Q g n true
theorem jst_n{g g':CC}{e:CT}(h:∀n b,HdJ N Y Q g' n b→HdJ N Y Q g n b):JStep N Y Q g ⟨g',none,none,e⟩:=⟨fun _=>h,fun as0 h=>by cases h⟩
theorem A2_refl:∀l:List V,A2 l l
 | []=>trivial
 |_::l=>⟨RImp.refl _,A2_refl l⟩
theorem ug_noGd{tm:Nat→V}{o:Oper}(h:((opsV tm o).all fun v=>match v with
  | .gd _ _=>false
  |_=>true)=true){x:Operand}(hx:x∈o.op.operands):ug (ev tm x)=ev tm x:=by
 have:=List.all_eq_true.1 h _ (opsV_mem (tm:=tm) hx)
 cases hv:ev tm x <;> rw [hv]at this <;> first |rfl |cases this
theorem jReg_ok(hT:TabOk T P)(hcl:ClrOk P call)(hfl:∀v∈es,V.flatL v=true){id n:Nat}{ops:Array Oper}{k:List Fr}{s:CS}{x:JX}(hok:okReg N ops.toList=true)(h:jReg false call T M Y.l ops.toList k s n=some x)(he:EqT x.e):JStep N Y Q (.code (.region id ops false) k s) x:=by
 have eo:ops=ops.toList.toArray:=by simp
 unfold jReg at h
 split at h
 ·
  rename_i o ho
  split at h
  ·
   rename_i d hd
   split at h
   ·
    rename_i hlt
    have hlt:=of_decide_eq_true hlt
    split at h
    ·
     rename_i s1 ks1 e1 h1
     split at h
     ·
      rename_i hgd
      split at h
      ·
       rename_i fv as0 hy
       split at h
       ·
        rename_i s2 ks2 e2 h2
        split at h
        ·
         rename_i s3 ks3 e3 h3
         injection h with h;subst h
         obtain⟨he0,he1,he2,he3⟩:=he
         refine⟨fun h=>(by cases h),fun as1 has=> ?_⟩
         injection has with has;subst has
         refine⟨_,rfl,fun m hm hk1 hk2=> ?_⟩
         obtain⟨d',op,ty,pos,af,gd⟩:=o
         simp only at hd
         subst hd
         unfold yGd at hgd
         simp only at hgd
         split at hgd
         ·
          unfold yArg at hy
          simp only at hy
          split at hy
          ·
           rename_i c
           obtain⟨callee,args,ats⟩:=c
           simp only at hy
           split at hy
           ·
            rename_i fo
            split at hy
            ·
             rename_i hfl0
             simp only [Option.some.injEq,Prod.mk.injEq]at hy
             obtain⟨rfl,rfl⟩:=hy
             have ea:(args.toList.map fun x=>ug (ev s1.tr.get x))=args.toList.map (ev s1.tr.get):=List.map_congr_left fun x hx=>ug_noGd hgd (by simp only [Op.operands,Call.operands];simp at hx ⊢;exact .inr hx)
             have ef:ug (ev s1.tr.get fo)=ev s1.tr.get fo:=ug_noGd hgd (by simp [Op.operands,Call.operands])
             have hf:=EqE.hd he0
             injection hf with hf
             simp only [List.cons.injEq,and_true]at hf
             rw [ef]at hf
             rw [ea]at hm
             have hflv:=hfl _ (List.mem_of_getElem? hm)
             show AWJ4 N Y (.region id ops false) (WkJ N Y Q k) s.den m true
             rw [eo]
             refine awj4_yield n (by simpa using hok) ho fun C hF hdf=> ?_
             obtain⟨q1,q2⟩:=rOps_ok hT hcl (C:=C) (K:=fun tm1 σ1 _=>YS4 N Y ops.toList.toArray s.nx (ops.toList.drop (n+1)) fo args d (WkJ N Y Q k) m tm1 σ1) h1 he1
             refine q2 ⟨hf,⟨_,hm,A2_refl _⟩,⟨hflv,fun v hv=>by rw [hm]at hv;injection hv with hv;subst hv;exact hflv⟩,fun C2 hF2 hd2=> ?_,fun C2 hF2 hd2=> ?_⟩
             ·
              obtain⟨r1,r2⟩:=rOps_ok hT hcl (C:=C2) (K:=fun tm' σ' _=>WkJ N Y Q k .normal ⟨tm',σ',s.nx+1⟩ (m+1) true) h2 he2
              simp only at r1 r2
              rw [TR.put_upd hlt,q1]at r2
              exact r2 (by have:=hk1;unfold HdJ CS.den at this;simp only at this;rw [r1,q1]at this;exact this)
             ·
              obtain⟨r1,r2⟩:=rOps_ok hT hcl (C:=C2) (K:=fun tm' σ' _=>WkJ N Y Q k .normal ⟨tm',σ',s.nx+1⟩ m false) h3 he3
              simp only at r1 r2
              rw [TR.put_upd hlt,q1]at r2
              exact r2 (by have:=hk2;unfold HdJ CS.den at this;simp only at this;rw [r1,q1]at this;exact this)
            ·
             cases hy
           ·
            cases hy
          ·
           cases hy
         ·
          cases hgd
        ·
         cases h
       ·
        cases h
      ·
       cases h
     ·
      cases h
    ·
     cases h
   ·
    cases h
  ·
   cases h
 ·
  cases h
theorem jstp_ok(hT:TabOk T P)(hcl:ClrOk P call)(hfl:∀v∈es,V.flatL v=true){g:CC}{x:JX}(h:jstp false call T M mu N Y.l g=some x)(he:EqT x.e):JStep N Y Q g x:=by
 unfold jstp at h
 split at h
 ·
  rename_i e k s
  split at h
  ·
   cases h
  ·
   split at h
   ·
    injection h with h;subst h
    exact jst_n fun n b hk=>hk
   ·
    rename_i hne
    injection h with h;subst h
    exact jst_n fun n b hk=>wkj_c hne hk
  ·
   split at h
   ·
    split at h
    ·
     rename_i hb
     injection h with h;subst h
     have hb:=Nat.eq_of_beq_eq_true hb
     subst hb
     exact jst_n fun n b hk=>xjb_same hk
    ·
     rename_i hb
     injection h with h;subst h
     exact jst_n fun n b hk=>xjb_ne (by simpa using Nat.ne_of_beq_eq_false hb) hk
   ·
    rename_i hne
    injection h with h;subst h
    exact jst_n fun n b hk=>wkj_b hne hk
  ·
   split at h
   ·
    split at h
    ·
     cases h
    ·
     injection h with h;subst h
     exact jst_n fun n b hk=>hk
   ·
    rename_i hne
    injection h with h;subst h
    exact jst_n fun n b hk=>wkj_l hne hk
  ·
   cases h
 ·
  rename_i c k s
  split at h
  ·
   injection h with h;subst h;exact jst_n fun n b hk=>awj4_skip hk
  ·
   injection h with h;subst h;exact jst_n fun n b hk=>awj4_exit hk
  ·
   injection h with h;subst h;exact jst_n fun n b hk=>awj4_ret hk
  ·
   injection h with h;subst h;exact jst_n fun n b hk=>awj4_seq hk
  ·
   injection h with h;subst h;exact jst_n fun n b hk=>awj4_block hk
  ·
   injection h with h;subst h;exact jst_n fun n b hk=>awj4_roundsS 1000000 hk
  ·
   split at h
   ·
    rename_i t ht
    split at h
    ·
     injection h with h;subst h
     exact jst_n fun n b hk=>awj4_cond ht (fun _=>hk) fun h=>by cases h
    ·
     injection h with h;subst h
     exact jst_n fun n b hk=>awj4_cond ht (fun h=>by cases h) fun _=>hk
   ·
    cases h
  ·
   rename_i id ops dr
   split at h
   ·
    rename_i hok
    split at h
    ·
     rename_i s' ks e hr
     have e0:ops=ops.toList.toArray:=by simp
     split at h
     ·
      injection h with h;subst h
      refine jst_n fun n b hk=>awj4_aw fun C hF hd=> ?_
      refine aw_le (frzR_le mu s ops.toList) ?_
      rw [e0]
      obtain⟨q1,q2⟩:=rOps_ok hT hcl (C:=C) (K:=fun tm' σ' _=>WkJ N Y Q k .normal ⟨tm',σ',(frzR mu s ops.toList).nx+1⟩ n b) (by simpa using hr) he
      refine aw_region (s:=(frzR mu s ops.toList).den) (by simpa using hok) (q2 ?_)
      have:=hk
      unfold HdJ CS.den at this
      simp only at this
      rw [q1]at this
      exact this
     ·
      split at h
      ·
       rename_i hdr
       injection h with h;subst h
       refine jst_n fun n b hk=>awj4_aw fun C hF hd=> ?_
       refine aw_le (frzR_le mu s ops.toList) ?_
       rw [e0]
       obtain⟨q1,q2⟩:=rOps_ok hT hcl (C:=C) (K:=fun tm' σ' ks'=>okDraw ops.toList ks'=true∧WkJ N Y Q k .normal ⟨tm',σ',(frzR mu s ops.toList).nx+1⟩ n b) (by simpa using hr) he
       refine aw_regionD (s:=(frzR mu s ops.toList).den) (by simpa using hok) (q2 ⟨okDF_ok hdr,?_⟩)
       have:=hk
       unfold HdJ CS.den at this
       simp only at this
       rw [q1]at this
       exact this
      ·
       cases h
    ·
     split at h
     ·
      split at h
      ·
       exact jReg_ok hT hcl hfl hok h he
      ·
       cases h
     ·
      cases h
   ·
    cases h
  ·
   cases h
 ·
  cases h
end
def jNo(gOk:Bool)(call:Clr)(T:List TI)(M mu:List Nat)(N l:Nat):Nat→CC→Option CT
 |0,_=>none
 |m+1,g=>match jstp gOk call T M mu N l g with
  |some x=>match x.y with
   |none=>match jNo gOk call T M mu N l m x.g with
    |some e=>some (.nd x.e e)
    |none=>none
   |some _=>none
  |none=>match g with
   | .done e [] _=>match e with
    | .ret=>some c0
    | .normal=>some c0
    |_=>none
   |_=>none
def jRun(gOk:Bool)(call:Clr)(T:List TI)(M mu:List Nat)(N l:Nat):Nat→CC→Option (List (List V)×CT)
 |0,_=>none
 |m+1,g=>match jstp gOk call T M mu N l g with
  |some x=>match x.y with
   |none=>match jRun gOk call T M mu N l m x.g with
    |some (as0,e)=>some (as0,.nd x.e e)
    |none=>none
   |some a=>match x.side with
    |some sd=>match jNo gOk call T M mu N l 5000 sd with
     |some e0=>match jRun gOk call T M mu N l m x.g with
      |some (as0,e)=>some (a::as0,.nd x.e (.nd e0 e))
      |none=>none
     |none=>none
    |none=>none
  |none=>match g with
   | .done e [] _=>match e with
    | .ret=>some ([],c0)
    | .normal=>some ([],c0)
    |_=>none
   |_=>none
theorem jNo_ok{P:Program}{N:Nat}{es:List (List V)}{Y:YE4 P es}{T:List TI}{M mu:List Nat}{call:Clr}(hT:TabOk T P)(hcl:ClrOk P call)(hfl:∀v∈es,V.flatL v=true){n:Nat}(hn:n< es.length):∀ {m:Nat}{g:CC}{e:CT},jNo false call T M mu N Y.l m g=some e→EqT e→HdJ N Y (EndIt es.length) g n false
 |0,_,_,h,_=>by cases h
 |m+1,g,e,h,he=>by
  unfold jNo at h
  split at h
  ·
   rename_i x hx
   split at h
   ·
    rename_i hy
    split at h
    ·
     rename_i e1 h1
     injection h with h;subst h
     exact(jstp_ok (Q:=EndIt es.length) hT hcl hfl hx he.1).1 hy n false (jNo_ok hT hcl hfl hn h1 he.2)
    ·
     cases h
   ·
    cases h
  ·
   split at h
   ·
    rename_i e0 s
    split at h
    ·
     exact⟨.inr rfl,(fun h=>nomatch h),fun _=>hn⟩
    ·
     exact⟨.inl rfl,(fun h=>nomatch h),fun _=>hn⟩
    ·
     cases h
   ·
    cases h
theorem jRun_ok{P:Program}{N:Nat}{es:List (List V)}{Y:YE4 P es}{T:List TI}{M mu:List Nat}{call:Clr}(hT:TabOk T P)(hcl:ClrOk P call)(hfl:∀v∈es,V.flatL v=true):∀ {m:Nat}{g:CC}{as0:List (List V)}{e:CT}{n:Nat},jRun false call T M mu N Y.l m g=some (as0,e)→EqT e→es.drop n=as0→n≤es.length→HdJ N Y (EndIt es.length) g n true
 |0,_,_,_,_,h,_,_,_=>by cases h
 |m+1,g,as0,e,n,h,he,hd,hn=>by
  unfold jRun at h
  split at h
  ·
   rename_i x hx
   split at h
   ·
    rename_i hy
    split at h
    ·
     rename_i as1 e1 h1
     simp only [Option.some.injEq,Prod.mk.injEq]at h
     obtain⟨rfl,rfl⟩:=h
     exact(jstp_ok (Q:=EndIt es.length) hT hcl hfl hx he.1).1 hy n true (jRun_ok hT hcl hfl h1 he.2 hd hn)
    ·
     cases h
   ·
    rename_i a hy
    split at h
    ·
     rename_i sd hsd
     split at h
     ·
      rename_i e0 h0
      split at h
      ·
       rename_i as1 e1 h1
       simp only [Option.some.injEq,Prod.mk.injEq]at h
       obtain⟨rfl,rfl⟩:=h
       have hlt:n< es.length:=by
        have:=congrArg List.length hd
        simp only [List.length_drop,List.length_cons]at this
        omega
       have hget:es[n]?=some a:=by
        have:=congrArg (·[0]?) hd
        simpa using this
       have hdr:es.drop (n+1)=as1:=by
        have h2:=congrArg List.tail hd
        simpa using h2
       obtain⟨sd',hs',hall⟩:=(jstp_ok (Q:=EndIt es.length) hT hcl hfl hx he.1).2 a hy
       rw [hsd]at hs'
       injection hs' with hs'
       subst hs'
       exact hall n hget (jRun_ok hT hcl hfl h1 he.2.2 hdr oM) (jNo_ok hT hcl hfl hlt h0 he.2.1)
      ·
       cases h
     ·
      cases h
    ·
     cases h
  ·
   split at h
   ·
    rename_i e0 s
    have fin:as0=[]→n=es.length:=fun h0=>by
     rw [h0]at hd
     have:=congrArg List.length hd
     simp only [List.length_drop,List.length_nil]at this
     omega
    split at h
    ·
     simp only [Option.some.injEq,Prod.mk.injEq]at h
     exact⟨.inr rfl,fun _=>fin h.1.symm,(fun h=>nomatch h)⟩
    ·
     simp only [Option.some.injEq,Prod.mk.injEq]at h
     exact⟨.inl rfl,fun _=>fin h.1.symm,(fun h=>nomatch h)⟩
    ·
     cases h
   ·
    cases h
def CT.toL:CT→List (CE×CE)
 | .lf l=>l
 | .nd a b=>a.toL++b.toL
theorem CT.toL_eq:∀ {t:CT},EqE t.toL→EqT t
 | .lf _,h=>h
 | .nd _ _,h=>⟨CT.toL_eq h.l,CT.toL_eq h.r⟩
def jVal(r:Option (List (List V)×CT)):Option (List (List V)):=match r with
 |some (as0,_)=>some as0
 |none=>none
def jTr(r:Option (List (List V)×CT)):CT:=match r with
 |some (_,e)=>e
 |none=>c0
abbrev Itr:Type:=FuncId→List V→Option (List (List V)×CT)
def ItrOk(P:Program)(itr:Itr):Prop:=∀f caps es e,itr f caps=some (es,e)→EqT e→AIt4 P f caps es
theorem ait_of{P:Program}{N:Nat}{T:List TI}{M mu:List Nat}{call:Clr}{f:FuncId}{fn:Func}{c:Code}{caps:List V}{es:List (List V)}(hT:TabOk T P)(hmx:P.follows .mixedOrders=true)(hcl:ClrOk P call)(hk:FnOk P f fn c N)(hres:fn.results= #[])(hargs:caps.length+1≤N)(hargs2:caps.length+1≤1000)
  (s0:Nat→CS) (h0:∀l,(s0 l).den=⟨fun t=>((V.c (.func (.yield l) #[] #[]))::caps).getD t .any,fun _=>none,1⟩)
  (hfl:∀v∈es,V.flatL v=true) (hv:∀l,jVal (jRun false call T M mu N l 20000 (.code c [] (s0 l)))=some es) (he:∀l,EqT (jTr (jRun false call T M mu N l 20000 (.code c [] (s0 l))))):AIt4 P f caps es:=by
 refine ait4_intro hT hmx hk hres hargs fun Y=> ?_
 have h1:=hv Y.l
 have h2:=he Y.l
 unfold jVal at h1
 unfold jTr at h2
 split at h1
 ·
  rename_i as0 e hr
  rw [hr]at h2
  injection h1 with h1
  subst h1
  have:=jRun_ok (Y:=Y) (n:=0) hT hcl hfl hr h2 rfl (Nat.zero_le _)
  unfold HdJ at this
  simp only at this
  rw [h0]at this
  exact this
 ·
  cases h1
def TR.keys(f:Nat→Nat):TR→List Nat
 | .e=>[]
 | .n _ l r=>f 0::(TR.keys (fun i=>f (2*i+1)) l++TR.keys (fun i=>f (2*i+2)) r)
def tmL(tr:TR):List Nat→List (Nat×V)
 | []=>[]
 |t::l=>(t,tr.get t)::tmL tr l
theorem tmL_mem{tr:TR}:∀ {l:List Nat},∀p∈tmL tr l,tr.get p.1=p.2
 | [],p,h=>by simp [tmL]at h
 |t::l,p,h=>by
  rcases List.mem_cons.1 h with rfl |h
  ·
   rfl
  ·
   exact tmL_mem (l:=l) p h
def trL:List (Nat×V)→TR
 | []=> .e
 |p::l=>TR.put 10 (trL l) p.1 p.2
theorem trL_get:∀ {l:List (Nat×V)},(∀p∈l,p.1< 1000)→(trL l).get=mkT l
 | [],_=>by funext t;exact TR.get_e t
 |p::l,h=>by
  rw [trL,TR.put_upd (h p (by simp)),trL_get fun q hq=>h q (by simp [hq])]
  rfl
def setTR(tr:TR):List Nat→List V→TR
 |p::ps,v::vs=>setTR (TR.put 10 tr p v) ps vs
 |_,_=>tr
theorem setTR_get:∀(ps:List Nat) (vs:List V) (tr:TR),(∀p∈ps,p< 1000)→(setTR tr ps vs).get=setT tr.get ps vs
 | [],vs,tr,_=>by cases vs <;> rfl
 |p::ps,[],tr,_=>rfl
 |p::ps,v::vs,tr,h=>by
  rw [setTR,setT,setTR_get ps vs _ fun q hq=>h q (by simp [hq]),TR.put_upd (h p (by simp))]
def zipS:List Nat→List Ob→List (Nat×Option Ob)
 |n::ns,o::l=>(n,some o)::zipS ns l
 |_,_=>[]
theorem zipS_get:∀(ns:List Nat) (l:List Ob),lkS (zipS ns l)=mkS (ns.zip l)
 | [],l=>by cases l <;> (funext i;rfl)
 |n::ns,[]=>by funext i;rfl
 |n::ns,o::l=>by
  funext i
  show lkS ((n,some o)::zipS ns l) i=upd (mkS (ns.zip l)) n (some o) i
  rw [←zipS_get ns l]
  simp only [lkS]
  split
  ·
   rename_i h;rw [Nat.eq_of_beq_eq_true h,upd_same]
  ·
   rename_i h;rw [upd_ne _ _ (Nat.ne_of_beq_eq_false h)]
def notIn(pn:List Nat):List Nat→List Nat
 | []=>[]
 |k::l=>match inNs pn k with
  |true=>notIn pn l
  |false=>k::notIn pn l
def pinL(np:Nat):List Nat:=(List.range np).map (500+ ·)
inductive RO where
 |nor (l:List Ob) (e:CT)
 |ext (c:Exit) (l:List Ob) (e:CT)
 |bad
@[irreducible] def xn90:List Nat:=List.range 90
def rEnd2(pn:List Nat)(s:CS)(nl:List Nat):Option (List Ob×CT):=
 match insL (lkS s.sl) (invN nl) (pn++nl)with
 |some l=>match decide ((((pn++xn90).zip (l.map Prod.snd)).map fun p=>lookG (numL 0 nl) s.nx p.1).Nodup) && (Nat.ble nl.length 90 && (numL 0 nl).all fun p=>decide (p.1< 500))with
  |true=>some (l.map Prod.snd,.lf (cBackE (lookG (numL 0 nl) s.nx) l))
  |false=>none
 |none=>none
def rEnd(pn:List Nat)(s:CS):Option (List Ob×CT):=rEnd2 pn s (notIn pn (reachN (lkS s.sl) 1000 pn []))
def rdEx(l:List Ob)(t:CT):Exit→RO
 | .normal=> .nor l t
 | .ret=> .ext .ret l t
 | .exit id=> .ext (.exit id) l t
 |_=> .bad
def roundR(call:Clr)(T:List TI)(M mu:List Nat)(N:Nat)(pn:List Nat)(tl:List (Nat×V))(ps:List Nat)(as0 bd:Code)(x:List V)(l:List Ob):RO:=
 match evalC call rng0 T M mu N as0 ⟨setTR (trL tl) ps x,zipS (pn++xn90) l,1⟩with
 |some (.normal,s1,t1)=>match evalC call rng0 T M mu N bd s1 with
  |some (e,s2,t2)=>match rEnd pn s2 with
   |some (l',t3)=>rdEx l' (cNd t1 (cNd t2 t3)) e
   |none=> .bad
  |none=> .bad
 |_=> .bad
def exCode:Exit→Code
 | .exit id=> .exit id
 |_=> .ret
theorem zip_mem{α β:Type}:∀ {l:List α}{m:List β}{p:α×β},p∈l.zip m→∃i:Nat,l[i]?=some p.1∧m[i]?=some p.2
 | [],_,p,h=>by simp at h
 |_::_,[],p,h=>by simp at h
 |a::l,b::m,p,h=>by
  rw [List.zip_cons_cons]at h
  rcases List.mem_cons.1 h with rfl |h
  ·
   exact⟨0,rfl,rfl⟩
  ·
   obtain⟨i,h1,h2⟩:=zip_mem h
   exact⟨i+1,by simpa using h1,by simpa using h2⟩
theorem numL_lt:∀ {nl:List Nat}{j m:Nat},m< j→(numL j nl).find? (·.1 == m)=none
 | [],_,_,_=>rfl
 |a::nl,j,m,h=>by
  rw [numL,List.find?_cons]
  have e:((j,a).1 == m)=false:=by simp only [beq_eq_false_iff_ne];omega
  rw [e]
  exact numL_lt oM
theorem rEnd_ok{pn:List Nat}{s:CS}{l':List Ob}{e:CT}(hpn:∀p∈pn,500≤p∧p< 1000)(h:rEnd pn s=some (l',e))(he:EqT e):Le s.den ⟨fun _=> .any,mkS ((pn++xn90).zip l'),1⟩:=by
 unfold rEnd at h
 generalize notIn _ _=nl at h
 unfold rEnd2 at h
 split at h
 ·
  rename_i l hl
  split at h
  ·
   rename_i hb
   simp only [Option.some.injEq,Prod.mk.injEq]at h
   obtain⟨rfl,rfl⟩:=h
   simp only [Bool.and_eq_true]at hb
   obtain⟨hb1,hb2,hb3⟩:=hb
   have hb2:=Nat.le_of_ble_eq_true hb2
   obtain⟨hlen,hget⟩:=insL_get hl
   have hE:EqE _:=he
   show Le ⟨s.tr.get,lkS s.sl,s.nx⟩ ⟨mkT [],mkS ((pn++xn90).zip (l.map Prod.snd)),1⟩
   refine le_ren (tm:=s.tr.get) (σ:=lkS s.sl) (nx:=s.nx) (numL 0 nl) (tl:=[]) .nil (all_mem fun p hp=> ?_) hb1 hb3
   obtain⟨i,h1,h2⟩:=zip_mem hp
   simp only [List.getElem?_map,Option.map_eq_some_iff]at h2
   obtain⟨q,hq,hq2⟩:=h2
   obtain⟨k,hk,hσ,hno⟩:=hget i q hq
   have hg:lookG (numL 0 nl) s.nx p.1=k:=by
    unfold lookG
    by_cases hi:i< pn.length
    ·
     rw [List.getElem?_append_left hi]at h1 hk
     rw [hk]at h1
     injection h1 with h1
     have:=hpn k (List.mem_of_getElem? hk)
     rw [←h1,numL_none oM]
     exact if_pos this
    ·
     rw [List.getElem?_append_right (Nat.le_of_not_lt hi)]at h1 hk
     have hlt:=(List.getElem?_eq_some_iff.1 hk).1
     have:p.1=0+(i- pn.length):=by
      unfold xn90 at h1
      rw [List.getElem?_range oM]at h1
      injection h1 with h1
      omega
     rw [this,numL_find hk]
   refine⟨q.1,by rw [hg];exact hσ,?_⟩
   rw [←hq2]
   exact nOb_eq hno (cBackE_get hE hq)
  ·
   cases h
 ·
  cases h
theorem roundS_den{pn:List Nat}{tl:List (Nat×V)}{ps:List Nat}{x:List V}{l:List Ob}(htl:∀p∈tl,p.1< 1000)(hps:∀p∈ps,p< 1000):(CS.mk (setTR (trL tl) ps x) (zipS (pn++xn90) l) 1).den=⟨setT (mkT tl) ps x,mkS ((pn++xn90).zip l),1⟩:=by
 unfold CS.den
 rw [setTR_get _ _ _ hps,trL_get htl,zipS_get]
section
variable {P:Program}{N:Nat}{T:List TI}{M mu:List Nat}{call:Clr}{pn:List Nat}{tl:List (Nat×V)}{ps:List Nat}{as0 bd:Code}
def ROk(pn:List Nat)(ok:Nat→Prop)(sl:Nat→List Ob)(X:Nat→Code→List Ob→Prop)(k:Nat):RO→Prop
 | .nor l' e=>EqT e∧ok (k+1)∧sl (k+1)=l'
 | .ext c l' e=>EqT e∧X k (exCode c) l'
 | .bad=>False
theorem roundR_ok(hT:TabOk T P)(hcl:ClrOk P call)(hpn:∀p∈pn,500≤p∧p< 1000)(htl:∀p∈tl,p.1< 1000)(hps:∀p∈ps,p< 1000){ok:Nat→Prop}{sl:Nat→List Ob}{X:Nat→Code→List Ob→Prop}{k:Nat}{x:List V}{l:List Ob}
  (h:ROk pn ok sl X k (roundR call T M mu N pn tl ps as0 bd x l)) (C':Cx P N):AW C' as0 (XThen (fun s'=>AW C' bd (RPost (pn++xn90) ok sl X k) s') (fun _ _=>False)) ⟨setT (mkT tl) ps x,mkS ((pn++xn90).zip l),1⟩:=by
 rw [←roundS_den htl hps]
 unfold roundR at h
 split at h
 ·
  rename_i s1 t1 h1
  split at h
  ·
   rename_i e s2 t2 h2
   split at h
   ·
    rename_i l' t3 h3
    have key:EqT (cNd t1 (cNd t2 t3))→(Le s2.den ⟨fun _=> .any,mkS ((pn++xn90).zip l'),1⟩→RPost (pn++xn90) ok sl X k e s2.den)→
      AW C' as0 (XThen (fun s'=>AW C' bd (RPost (pn++xn90) ok sl X k) s') (fun _ _=>False)) (CS.mk (setTR (trL tl) ps x) (zipS (pn++xn90) l) 1).den:=by
     intro hE hR
     have hE:=cNd_eq hE
     have hE2:=cNd_eq hE.2
     have a2:=evalC_ok (C:=C') (mu:=mu) hT hcl rng0_ok bd _ _ _ _ h2 hE2.1 (RPost (pn++xn90) ok sl X k) (hR (rEnd_ok hpn h3 hE2.2))
     exact evalC_ok (C:=C') (mu:=mu) hT hcl rng0_ok as0 _ _ _ _ h1 hE.1 (XThen (fun s'=>AW C' bd (RPost (pn++xn90) ok sl X k) s') (fun _ _=>False)) a2
    unfold rdEx at h
    split at h
    ·
     obtain⟨q1,q2,q3⟩:=h
     exact key q1 fun hle=>⟨q2,by rw [q3];exact hle⟩
    ·
     obtain⟨q1,q2⟩:=h
     exact key q1 fun hle=>⟨_,q2,hle⟩
    ·
     obtain⟨q1,q2⟩:=h
     exact key q1 fun hle=>⟨_,q2,hle⟩
    ·
     exact h.elim
   ·
    exact h.elim
  ·
   exact h.elim
 ·
  exact h.elim
end
def wlk(rd:List V→List Ob→RO):List (List V)→List Ob→Option (Exit×List Ob×CT)
 | [],l=>some (.normal,l,c0)
 |x::es,l=>match rd x l with
  | .nor l' e=>match wlk rd es l' with
   |some (c,lf,e')=>some (c,lf,.nd e e')
   |none=>none
  | .ext c lf e=>match c with
   | .ret=>some (.ret,lf,e)
   | .exit id=>some (.exit id,lf,e)
   |_=>none
  | .bad=>none
def cStA(rd:List V→List Ob→RO)(es:List (List V))(l0:List Ob):Nat→Option (List Ob)
 |0=>some l0
 |k+1=>match cStA rd es l0 k,es[k]? with
  |some l,some x=>match rd x l with
   | .nor l' _=>some l'
   |_=>none
  |_,_=>none
theorem wlk_at{rd:List V→List Ob→RO}{es:List (List V)}{l0:List Ob}{c:Exit}{lf:List Ob}{e:CT}(h:wlk rd es l0=some (c,lf,e))(he:EqT e):∀k l,cStA rd es l0 k=some l→k≤es.length∧∃t,wlk rd (es.drop k) l=some (c,lf,t)∧EqT t
 |0,l,hl=>by
  simp only [cStA,Option.some.injEq]at hl
  subst hl
  exact⟨Nat.zero_le _,e,h,he⟩
 |k+1,l,hl=>by
  simp only [cStA]at hl
  split at hl
  ·
   rename_i l1 x h1 hx
   obtain⟨hk,t,h2,ht⟩:=wlk_at h he k l1 h1
   have hlt:=(List.getElem?_eq_some_iff.1 hx).1
   have hdr:es.drop k=x::es.drop (k+1):=by
    rw [List.drop_eq_getElem_cons hlt]
    congr 1
    exact(List.getElem?_eq_some_iff.1 hx).2
   rw [hdr]at h2
   unfold wlk at h2
   split at hl
   ·
    rename_i l' e' hr
    injection hl with hl
    subst hl
    rw [hr]at h2
    simp only at h2
    split at h2
    ·
     rename_i c1 lf1 e1 hw
     simp only [Option.some.injEq,Prod.mk.injEq]at h2
     obtain⟨rfl,rfl,rfl⟩:=h2
     exact⟨hlt,_,hw,ht.2⟩
    ·
     cases h2
   ·
    cases hl
  ·
   cases hl
def pnL(np n:Nat):List Nat:=pinL np++(List.range n).map (500+np+ ·)
def invR(np:Nat)(nl:List Nat)(i:Nat):Nat:=match inNs nl i with
 |true=>500+np+idxN nl i
 |false=>i
def rng2(call:Clr)(T:List TI)(M mu:List Nat)(N np:Nat)(ps:List Nat)(as0 bd:Code)(s:CS)(nl:List Nat)(ks:List Nat)(es:List (List V))(obs:List (Ob×Ob)):Option (Exit×CS×CT):=
 match (es.all fun x=>Nat.beq x.length ps.length) && (ps.all (fun p=>decide (p< N)) && (ps.all (fun p=>decide (p< 1000)) && (ks.all (fun p=>decide (p< 1000)) && (decide (500+np+nl.length≤1000) && ((renP (invR np nl) (tmL s.tr ks)).all (fun p=>p.2.nmP (pnL np nl.length)) && decide ((((pnL np nl.length++xn90).zip (obs.map Prod.snd)).map fun p=>lookG (numL (500+np) nl) s.nx p.1).Nodup))))))with
 |true=>match wlk (roundR call T M mu N (pnL np nl.length) (renP (invR np nl) (tmL s.tr ks)) ps as0 bd) es (obs.map Prod.snd)with
  |some (c,lf,e)=>some (c,⟨trL (renP (invR np nl) (tmL s.tr ks)),zipS (pnL np nl.length++xn90) lf,1⟩,.nd (.lf ((.vs (vals (tmL s.tr ks)),.vs (V.renL (lookG (numL (500+np) nl) s.nx) (vals (renP (invR np nl) (tmL s.tr ks)))))::cBackE (lookG (numL (500+np) nl) s.nx) obs)) e)
  |none=>none
 |false=>none
def rng1(call:Clr)(itr:Itr)(T:List TI)(M mu:List Nat)(N np:Nat)(g:Operand)(ps:List Nat)(as0 bd:Code)(s:CS)(ks nl:List Nat):Option (Exit×CS×CT):=
 match ev s.tr.get g with
 | .fn (.func gf) [] caps=>match V.idfL caps with
  |true=>match itr gf caps with
   |some (es,e0)=>match insL (lkS s.sl) (invR np nl) (pinL np++nl)with
    |some obs=>match rng2 call T M mu N np ps as0 bd s nl ks es obs with
     |some (c,s',e)=>some (c,s',.nd e0 e)
     |none=>none
    |none=>none
   |none=>none
  |false=>none
 |_=>none
def rngS(s:CS)(g:Operand):CS:=frzL s (reachN (lkS s.sl) 1000 (ev s.tr.get g).ids [])
def rngE(call:Clr)(itr:Itr)(T:List TI)(M mu:List Nat)(N np:Nat):Rng:=fun g ps as0 bd s=>
 rng1 call itr T M mu N np g ps.toList as0 bd (rngS s g) (TR.keys id (rngS s g).tr) (notIn (pinL np) (reachN (lkS (rngS s g).sl) 1000 (idsP (tmL (rngS s g).tr (TR.keys id (rngS s g).tr))++pinL np) []))
theorem renP_key{g:Nat→Nat}:∀ {l:List (Nat×V)}{p:Nat×V},p∈renP g l→∃q∈l,q.1=p.1
 | [],p,h=>by simp [renP]at h
 |q::l,p,h=>by
  rcases List.mem_cons.1 h with rfl |h
  ·
   exact⟨q,by simp,rfl⟩
  ·
   obtain⟨q',h1,h2⟩:=renP_key (l:=l) h
   exact⟨q',by simp [h1],h2⟩
theorem tmL_key{tr:TR}:∀ {l:List Nat}{p:Nat×V},p∈tmL tr l→p.1∈l
 | [],p,h=>by simp [tmL]at h
 |t::l,p,h=>by
  rcases List.mem_cons.1 h with rfl |h
  ·
   simp
  ·
   exact List.mem_cons_of_mem _ (tmL_key h)
theorem numL_mem:∀ {nl:List Nat}{j:Nat}{p:Nat×Nat},p∈numL j nl→j≤p.1∧p.1< j+nl.length
 | [],_,_,h=>by simp [numL]at h
 |a::nl,j,p,h=>by
  rcases List.mem_cons.1 h with rfl |h
  ·
   simp
  ·
   have:=numL_mem h
   simp only [List.length_cons];omega
theorem rng_core{P:Program}{N:Nat}{C:Cx P N}{Q:Exit→S→Prop}{tm:Nat→V}{σ:Nat→Option Ob}{nx:Nat}{g:Operand}{ps:Array Tmp}{as0 bd:Code}{gf:FuncId}{caps:List V}{es:List (List V)}(hF:C.F=Fence.wide)(pn:List Nat)(gl:List (Nat×Nat))
  (hd:∀id x,C.dfs.pin id=some x→id∈pn∧∀p∈gl,p.1≠id) (it:AIt4 P gf caps es) (hg:ev tm g= .fn (.func gf) [] caps) (hidf:V.idfL caps=true) (hlen:∀x∈es,x.length=ps.size) (hps:ps.toList.all (fun p=>decide (p< N))=true) (tl:List (Nat×V)) (rd:List V→List Ob→RO) (l0:List Ob)
  (hrd:∀ok sl X k x l,ROk pn ok sl X k (rd x l)→∀C':Cx P N,AW C' as0 (XThen (fun s'=>AW C' bd (RPost (pn++xn90) ok sl X k) s') (fun _ _=>False)) ⟨setT (mkT tl) ps.toList x,mkS ((pn++xn90).zip l),1⟩)
  (hpn:∀p∈pn,500≤p∧p< 1000) (htl:tl.all (fun p=>p.2.nmP pn)=true) (hid:∀p∈gl,p.1< 1000) (htm:All (fun p=>tm p.1=p.2.ren (lookG gl nx)) tl) (hσ:All (fun p=>∃ob,σ (lookG gl nx p.1)=some ob∧ObEq ob (p.2.ren (lookG gl nx))) ((pn++xn90).zip l0))
  (hinj:decide ((((pn++xn90).zip l0).map fun p=>lookG gl nx p.1).Nodup)=true){c:Exit}{lf:List Ob}{e:CT}(hw:wlk rd es l0=some (c,lf,e)) (he:EqT e) (hQ:Q c ⟨mkT tl,mkS ((pn++xn90).zip lf),1⟩):AW C (.rangeFunc g ps as0 bd) Q ⟨tm,σ,nx⟩:=by
 have hat:=wlk_at hw he
 refine w_range4 hF pn xn90 gl hd it hg hidf hlen hps tl (fun k=>(cStA rd es l0 k).isSome=true) (fun k=>(cStA rd es l0 k).getD []) (fun k c sx=>∃l x c' e',cStA rd es l0 k=some l∧es[k]?=some x∧rd x l= .ext c' sx e'∧exCode c'=c)
  (by simp [cStA]) (List.all_eq_true.2 fun p hp=>by simpa using hpn p hp) htl (List.all_eq_true.2 fun p hp=>decide_eq_true (hid p hp)) htm hσ hinj (fun C' _ k x hx hok=> ?_) (fun hok=> ?_) (fun k c sx hk hX=> ?_)
 ·
  obtain⟨l,hl⟩:=Option.isSome_iff_exists.1 hok
  rw [hl,Option.getD_some]
  obtain⟨hk,t,ht,htE⟩:=hat k l hl
  have hlt:=(List.getElem?_eq_some_iff.1 hx).1
  have hdr:es.drop k=x::es.drop (k+1):=by
   rw [List.drop_eq_getElem_cons hlt]
   congr 1
   exact(List.getElem?_eq_some_iff.1 hx).2
  rw [hdr]at ht
  refine hrd _ _ _ k x l ?_ C'
  unfold wlk at ht
  split at ht
  ·
   rename_i l' e' hr
   split at ht
   ·
    simp only [Option.some.injEq,Prod.mk.injEq]at ht
    obtain⟨_,_,rfl⟩:=ht
    have hst:cStA rd es l0 (k+1)=some l':=by
     simp only [cStA,hl,hx,hr]
    rw [hr]
    exact⟨htE.1,by simp only [hst,Option.isSome_some],by simp only [hst,Option.getD_some]⟩
   ·
    cases ht
  ·
   rename_i c' l' e' hr
   rw [hr]
   split at ht
   ·
    simp only [Option.some.injEq,Prod.mk.injEq]at ht
    obtain⟨_,_,rfl⟩:=ht
    exact⟨htE,l,x,_,_,hl,hx,hr,rfl⟩
   ·
    simp only [Option.some.injEq,Prod.mk.injEq]at ht
    obtain⟨_,_,rfl⟩:=ht
    exact⟨htE,l,x,_,_,hl,hx,hr,rfl⟩
   ·
    cases ht
  ·
   cases ht
 ·
  obtain⟨l,hl⟩:=Option.isSome_iff_exists.1 hok
  rw [hl,Option.getD_some]
  obtain⟨hk,t,ht,htE⟩:=hat _ l hl
  rw [List.drop_length]at ht
  simp only [wlk,Option.some.injEq,Prod.mk.injEq]at ht
  obtain⟨rfl,rfl,_⟩:=ht
  exact hQ
 ·
  obtain⟨l,x,c',e',hl,hx,hr,rfl⟩:=hX
  obtain⟨hk',t,ht,htE⟩:=hat k l hl
  have hdr:es.drop k=x::es.drop (k+1):=by
   rw [List.drop_eq_getElem_cons hk]
   congr 1
   exact(List.getElem?_eq_some_iff.1 hx).2
  rw [hdr]at ht
  unfold wlk at ht
  rw [hr]at ht
  simp only at ht
  split at ht
  ·
   simp only [Option.some.injEq,Prod.mk.injEq]at ht
   obtain⟨rfl,rfl,_⟩:=ht
   exact aw_ret hQ
  ·
   simp only [Option.some.injEq,Prod.mk.injEq]at ht
   obtain⟨rfl,rfl,_⟩:=ht
   exact aw_exit hQ
  ·
   cases ht
theorem rngE_ok{P:Program}{N:Nat}{C:Cx P N}{T:List TI}{M mu:List Nat}{call:Clr}{itr:Itr}{np:Nat}(hT:TabOk T P)(hcl:ClrOk P call)(hit:ItrOk P itr)(hF:C.F=Fence.wide)(hpin:∀id x,C.dfs.pin id=some x→500≤id∧id< 500+np):RngOk C (rngE call itr T M mu N np):=by
 intro g ps as0 bd s e s' t h he Q hQ
 have hle:∀ {P:Program}{N:Nat}(C:Cx P N) a w,Gm C s.den a w→Gm C (rngS s g).den a w:=frzL_le s _
 refine aw_le (s':=(rngS s g).den) hle ?_
 clear hle
 unfold rngE at h
 generalize rngS s g=s0 at h ⊢
 generalize notIn _ _=nl at h
 generalize TR.keys id s0.tr=ks at h
 unfold rng1 at h
 split at h
 ·
  rename_i gf caps hg
  split at h
  ·
   rename_i hidf
   split at h
   ·
    rename_i es e0 hes
    split at h
    ·
     rename_i obs hobs
     split at h
     ·
      rename_i c s1 e1 h2
      simp only [Option.some.injEq,Prod.mk.injEq]at h
      obtain⟨rfl,rfl,rfl⟩:=h
      obtain⟨he0,he⟩:=he
      unfold rng2 at h2
      split at h2
      ·
       rename_i hb
       split at h2
       ·
        rename_i c1 lf e2 hw
        simp only [Option.some.injEq,Prod.mk.injEq]at h2
        obtain⟨rfl,rfl,rfl⟩:=h2
        simp only [Bool.and_eq_true,decide_eq_true_eq]at hb
        obtain⟨hb1,hb2,hb3,hb4,hb5,hb6,hb7⟩:=hb
        obtain⟨hE,hew⟩:=he
        have hE':EqE _:=hE
        have e1:=hE'.hd
        injection e1 with e1
        have hB:=hE'.tl
        obtain⟨hlen,hget⟩:=insL_get hobs
        have hps:∀p∈ps.toList,p< 1000:=fun p hp=>of_decide_eq_true (List.all_eq_true.1 hb3 p hp)
        have htl:∀p∈renP (invR np nl) (tmL s0.tr ks),p.1< 1000:=fun p hp=>by
         obtain⟨q,hq,hq2⟩:=renP_key hp
         rw [←hq2]
         exact of_decide_eq_true (List.all_eq_true.1 hb4 _ (tmL_key hq))
        have hpn:∀p∈pnL np nl.length,500≤p∧p< 1000:=fun p hp=>by
         unfold pnL pinL at hp
         simp only [List.mem_append,List.mem_map,List.mem_range]at hp
         rcases hp with⟨a,ha,rfl⟩ | ⟨a,ha,rfl⟩ <;> omega
        have hs1:(CS.mk (trL (renP (invR np nl) (tmL s0.tr ks))) (zipS (pnL np nl.length++xn90) lf) 1).den=⟨mkT (renP (invR np nl) (tmL s0.tr ks)),mkS ((pnL np nl.length++xn90).zip lf),1⟩:=by
         unfold CS.den
         rw [trL_get htl,zipS_get]
        rw [hs1]at hQ
        have H1:∀ok sl X k x l,ROk (pnL np nl.length) ok sl X k (roundR call T M mu N (pnL np nl.length) (renP (invR np nl) (tmL s0.tr ks)) ps.toList as0 bd x l)→∀C':Cx P N,AW C' as0 (XThen (fun s'=>AW C' bd (RPost (pnL np nl.length++xn90) ok sl X k) s') (fun _ _=>False)) ⟨setT (mkT (renP (invR np nl) (tmL s0.tr ks))) ps.toList x,mkS ((pnL np nl.length++xn90).zip l),1⟩:=fun ok sl X k x l hr C'=>roundR_ok hT hcl hpn htl hps hr C'
        have H2:∀p∈numL (500+np) nl,p.1< 1000:=fun p hp=>by have:=numL_mem hp;omega
        have H3:=renP_all (g:=lookG (numL (500+np) nl) s0.nx) (gi:=invR np nl) (tm:=s0.tr.get) (tl:=tmL s0.tr ks) tmL_mem e1
        generalize roundR call T M mu N (pnL np nl.length) (renP (invR np nl) (tmL s0.tr ks)) ps.toList as0 bd=rd at hw H1
        generalize renP (invR np nl) (tmL s0.tr ks)=tl at*
        refine rng_core hF (pnL np nl.length) (numL (500+np) nl) (fun id x hx=> ?_) (hit _ _ _ _ hes he0) hg hidf (fun x hx=> ?_) hb2 tl rd (obs.map Prod.snd) H1 hpn hb6 H2 H3 (all_mem fun p hp=> ?_) (decide_eq_true hb7) hw hew hQ
        ·
         have:=hpin id x hx
         refine⟨?_,fun p hp=> ?_⟩
         ·
          unfold pnL pinL
          simp only [List.mem_append,List.mem_map,List.mem_range]
          exact .inl ⟨id- 500,by omega,by omega⟩
         ·
          have:=numL_mem hp;omega
        ·
         have:=List.all_eq_true.1 hb1 x hx
         have:=Nat.eq_of_beq_eq_true this
         simpa using this
        ·
         obtain⟨i,h1,h2⟩:=zip_mem hp
         simp only [List.getElem?_map,Option.map_eq_some_iff]at h2
         obtain⟨q,hq,hq2⟩:=h2
         obtain⟨k,hk,hσ,hno⟩:=hget i q hq
         have hil:=(List.getElem?_eq_some_iff.1 hq).1
         rw [hlen]at hil
         have hpl:(pinL np).length=np:=by simp [pinL]
         simp only [List.length_append,hpl]at hil
         have hlk:lookG (numL (500+np) nl) s0.nx p.1=k:=by
          unfold pnL at h1
          rw [List.append_assoc]at h1
          unfold lookG
          by_cases hi:i< np
          ·
           rw [List.getElem?_append_left oM]at h1 hk
           rw [hk]at h1
           injection h1 with h1
           have hkk:k=500+i:=by
            unfold pinL at hk
            rw [List.getElem?_map,List.getElem?_range hi]at hk
            simp at hk;omega
           rw [←h1,numL_lt oM]
           exact if_pos oM
          ·
           rw [List.getElem?_append_right oM]at h1 hk
           rw [hpl]at h1 hk
           rw [List.getElem?_append_left (by simp;omega),List.getElem?_map,List.getElem?_range oM]at h1
           simp only [Option.map_some,Option.some.injEq]at h1
           rw [←h1,numL_find hk]
         refine⟨q.1,by rw [hlk];exact hσ,?_⟩
         rw [←hq2]
         exact nOb_eq hno (cBackE_get hB hq)
       ·
        cases h2
      ·
       cases h2
     ·
      cases h
    ·
     cases h
   ·
    cases h
  ·
   cases h
 ·
  cases h
end
end Go.Ab

namespace Go.Ab
open Go.RowKit Go.Dw Go.Shelf
noncomputable section
def AWJRI{P:Program}{N:Nat}{es:List (List V)}(C:Cx P N)(Y:YE P es)(c:Code)(Q:Exit→S→Nat→Bool→Prop):Nat→S→Nat→Bool→Prop
 |0,_,_,_=>False
 |m+1,s,k,g=>AWJ C Y c (XThenJ (AWJRI C Y c Q m) Q) s k g
theorem awjI_rounds{P:Program}{N:Nat}{es:List (List V)}{C:Cx P N}{Y:YE P es}{Q:Exit→S→Nat→Bool→Prop}{c:Code}{s:S}{k:Nat}{g:Bool}(m:Nat)(h:AWJRI C Y c Q m s k g):AWJ C Y (.loop c) Q s k g:=by
 intro a w gm hj hb
 refine wpIn_loop_rounds m ?_
 have key:∀(m:Nat) (s:S) (k:Nat) (g:Bool) (a:Act) (w:World),AWJRI C Y c Q m s k g→Gm C s a w→Y.J k g w→Y.B≤w.heap.size→Code.roundsIn Fence.wide 0 P c (fun e a' w'=>∃s' k' g',Q e s' k' g'∧Gm C s' a' w'∧Y.J k' g' w'∧Y.B≤w'.heap.size) m a w:=by
  intro m
  induction m with
  |zero=>intro s k g a w h;exact h.elim
  |succ m ih=>
   intro s k g a w h gm hj hb
   refine wpIn_mono (h a w gm hj hb) ?_
   rintro e a' w' ⟨s',k',g',q,gm',hj',hb'⟩
   cases e with
   |normal=>exact ih s' k' g' a' w' q gm' hj' hb'
   |_=>exact⟨s',k',g',q,gm',hj',hb'⟩
 exact key m s k g a w h gm hj hb
section
variable {P:Program}{N:Nat}{es:List (List V)}(C:Cx P N) (Y:YE P es) (Q:Exit→S→Nat→Bool→Prop)
def WkI:List Fr→Exit→S→Nat→Bool→Prop
 | []=>Q
 | .c y::k=>XThenJ (fun s' n g=>AWJ C Y y (WkI k) s' n g) (WkI k)
 | .b id::k=>XBlockJ id (WkI k)
 | .l y m::k=>XThenJ (AWJRI C Y y (WkI k) m) (WkI k)
 | .s::_=>fun _ _ _ _=>False
def HdI:CC→Nat→Bool→Prop
 | .code c k s,n,g=>AWJ C Y c (WkI C Y Q k) s.den n g
 | .done e k s,n,g=>WkI C Y Q k e s.den n g
 | .ops _ _ _ _ _ _,_,_=>False
end
section
variable {P:Program}{N:Nat}{es:List (List V)}{C:Cx P N}{Y:YE P es}{Q:Exit→S→Nat→Bool→Prop}{T:List TI}{M mu:List Nat}{call:Clr}
theorem wkj_cI{y:Code}{k:List Fr}{e:Exit}{s:S}{n:Nat}{g:Bool}(hne:e≠ .normal)(h:WkI C Y Q k e s n g):WkI C Y Q (.c y::k) e s n g:=by
 cases e <;> first |exact absurd rfl hne |exact h
theorem wkj_lI{y:Code}{m:Nat}{k:List Fr}{e:Exit}{s:S}{n:Nat}{g:Bool}(hne:e≠ .normal)(h:WkI C Y Q k e s n g):WkI C Y Q (.l y m::k) e s n g:=by
 cases e <;> first |exact absurd rfl hne |exact h
theorem wkj_bI{id:Nat}{k:List Fr}{e:Exit}{s:S}{n:Nat}{g:Bool}(hne:∀i,e≠ .exit i)(h:WkI C Y Q k e s n g):WkI C Y Q (.b id::k) e s n g:=by
 cases e <;> first |exact absurd rfl (hne _) |exact h
theorem awjI_roundsS{c:Code}{s:S}{k:Nat}{g:Bool}(u:Nat)(h:AWJ C Y c (XThenJ (AWJRI C Y c Q u) Q) s k g):AWJ C Y (.loop c) Q s k g:=awjI_rounds (u+1) h
def JStepI{P:Program}{es:List (List V)}{N:Nat}(C:Cx P N)(Y:YE P es)(Q:Exit→S→Nat→Bool→Prop)(g:CC)(x:JX):Prop:=
 (x.y=none→∀n b,HdI C Y Q x.g n b→HdI C Y Q g n b)∧
 ∀as0,x.y=some as0→∃sd,x.side=some sd∧∀n,es[n]?=some as0→HdI C Y Q x.g (n+1) true→HdI C Y Q sd n false→HdI C Y Q g n true
theorem jst_nI{g g':CC}{e:CT}(h:∀n b,HdI C Y Q g' n b→HdI C Y Q g n b):JStepI C Y Q g ⟨g',none,none,e⟩:=⟨fun _=>h,fun as0 h=>by cases h⟩
theorem jReg_okI(hT:TabOk T P)(hcl:ClrOk P call)(hC:YC C Y){id n:Nat}{ops:Array Oper}{k:List Fr}{s:CS}{x:JX}(hok:okReg N ops.toList=true)(h:jReg true call T M Y.l ops.toList k s n=some x)(he:EqT x.e):JStepI C Y Q (.code (.region id ops false) k s) x:=by
 have eo:ops=ops.toList.toArray:=by simp
 unfold jReg at h
 split at h
 ·
  rename_i o ho
  split at h
  ·
   rename_i d hd
   split at h
   ·
    rename_i hlt
    have hlt:=of_decide_eq_true hlt
    split at h
    ·
     rename_i s1 ks1 e1 h1
     split at h
     ·
      rename_i hgd
      split at h
      ·
       rename_i fv as0 hy
       split at h
       ·
        rename_i s2 ks2 e2 h2
        split at h
        ·
         rename_i s3 ks3 e3 h3
         injection h with h;subst h
         obtain⟨he0,he1,he2,he3⟩:=he
         refine⟨fun h=>(by cases h),fun as1 has=> ?_⟩
         injection has with has;subst has
         refine⟨_,rfl,fun m hm hk1 hk2=> ?_⟩
         obtain⟨d',op,ty,pos,af,gd⟩:=o
         simp only at hd
         subst hd
         unfold yArg at hy
         simp only at hy
         split at hy
         ·
          rename_i c
          obtain⟨callee,args,ats⟩:=c
          simp only at hy
          split at hy
          ·
           rename_i fo
           split at hy
           ·
            rename_i hfl0
            simp only [Bool.and_eq_true]at hfl0
            simp only [Option.some.injEq,Prod.mk.injEq]at hy
            obtain⟨rfl,rfl⟩:=hy
            have hf:=EqE.hd he0
            injection hf with hf
            simp only [List.cons.injEq,and_true]at hf
            have ht:AOps C ops.toList.toArray s.nx (ops.toList.drop (n+1)) (upd s1.tr.get d (.b true)) (lkS s1.sl) [] (fun tm' σ' _=>WkI C Y Q k .normal ⟨tm',σ',s.nx+1⟩ (m+1) true)∧AOps C ops.toList.toArray s.nx (ops.toList.drop (n+1)) (upd s1.tr.get d (.b false)) (lkS s1.sl) [] (fun tm' σ' _=>WkI C Y Q k .normal ⟨tm',σ',s.nx+1⟩ m false):=by
             have q1:=(rOps_ok hT hcl (C:=C) (K:=fun _ _ _=>True) h1 he1).1
             constructor
             ·
              obtain⟨r1,r2⟩:=rOps_ok hT hcl (C:=C) (K:=fun tm' σ' _=>WkI C Y Q k .normal ⟨tm',σ',s.nx+1⟩ (m+1) true) h2 he2
              simp only at r1 r2
              rw [TR.put_upd hlt,q1]at r2
              exact r2 (by have:=hk1;unfold HdI CS.den at this;simp only at this;rw [r1,q1]at this;exact this)
             ·
              obtain⟨r1,r2⟩:=rOps_ok hT hcl (C:=C) (K:=fun tm' σ' _=>WkI C Y Q k .normal ⟨tm',σ',s.nx+1⟩ m false) h3 he3
              simp only at r1 r2
              rw [TR.put_upd hlt,q1]at r2
              exact r2 (by have:=hk2;unfold HdI CS.den at this;simp only at this;rw [r1,q1]at this;exact this)
            show AWJ C Y (.region id ops false) (WkI C Y Q k) s.den m true
            rw [eo]
            unfold yGd at hgd
            simp only at hgd
            split at hgd
            ·
             have ea:(args.toList.map fun x=>ug (ev s1.tr.get x))=args.toList.map (ev s1.tr.get):=List.map_congr_left fun x hx=>ug_noGd hgd (by simp only [Op.operands,Call.operands];simp at hx ⊢;exact .inr hx)
             have ef:ug (ev s1.tr.get fo)=ev s1.tr.get fo:=ug_noGd hgd (by simp [Op.operands,Call.operands])
             rw [ef]at hf
             rw [ea]at hm
             have hfl1:=hfl0.1
             rw [ea]at hfl1
             refine awj_yield hC n (by simpa using hok) ho ?_
             obtain⟨q1,q2⟩:=rOps_ok hT hcl (C:=C) (K:=fun tm1 σ1 _=>YS C Y ops.toList.toArray s.nx (ops.toList.drop (n+1)) fo args d (WkI C Y Q k) m tm1 σ1) h1 he1
             exact q2 ⟨hf,⟨_,hm,A2_refl _⟩,hfl1,ht.1,ht.2⟩
            ·
             rename_i gd'
             split at hgd
             ·
              rename_i g hg
              subst hgd
              refine awj_yieldG hC n (by simpa using hok) ho ?_
              obtain⟨q1,q2⟩:=rOps_ok hT hcl (C:=C) (K:=fun tm1 σ1 _=>YSG C Y ops.toList.toArray s.nx (ops.toList.drop (n+1)) fo args d ⟨some d,.call {callee:= .value fo,args:=args,argTypes:=ats},ty,pos,af,some gd'⟩ (WkI C Y Q k) m tm1 σ1) h1 he1
              exact q2 ⟨guardV_spec (ops:=ops.toList.toArray) (r:=some true) (by simpa using hg),hfl0.2,hf,⟨_,hm,A2_refl _⟩,hfl0.1,ht.1,ht.2⟩
             ·
              cases hgd
           ·
            cases hy
          ·
           cases hy
         ·
          cases hy
        ·
         cases h
       ·
        cases h
      ·
       cases h
     ·
      cases h
    ·
     cases h
   ·
    cases h
  ·
   cases h
 ·
  cases h
theorem jstp_okI(hT:TabOk T P)(hcl:ClrOk P call)(hC:YC C Y){g:CC}{x:JX}(h:jstp true call T M mu N Y.l g=some x)(he:EqT x.e):JStepI C Y Q g x:=by
 unfold jstp at h
 split at h
 ·
  rename_i e k s
  split at h
  ·
   cases h
  ·
   split at h
   ·
    injection h with h;subst h
    exact jst_nI fun n b hk=>hk
   ·
    rename_i hne
    injection h with h;subst h
    exact jst_nI fun n b hk=>wkj_cI hne hk
  ·
   split at h
   ·
    split at h
    ·
     rename_i hb
     injection h with h;subst h
     have hb:=Nat.eq_of_beq_eq_true hb
     subst hb
     exact jst_nI fun n b hk=>xjb_same hk
    ·
     rename_i hb
     injection h with h;subst h
     exact jst_nI fun n b hk=>xjb_ne (by simpa using Nat.ne_of_beq_eq_false hb) hk
   ·
    rename_i hne
    injection h with h;subst h
    exact jst_nI fun n b hk=>wkj_bI hne hk
  ·
   split at h
   ·
    split at h
    ·
     cases h
    ·
     injection h with h;subst h
     exact jst_nI fun n b hk=>hk
   ·
    rename_i hne
    injection h with h;subst h
    exact jst_nI fun n b hk=>wkj_lI hne hk
  ·
   cases h
 ·
  rename_i c k s
  split at h
  ·
   injection h with h;subst h;exact jst_nI fun n b hk=>awj_skip hk
  ·
   injection h with h;subst h;exact jst_nI fun n b hk=>awj_exit hk
  ·
   injection h with h;subst h;exact jst_nI fun n b hk=>awj_ret hk
  ·
   injection h with h;subst h;exact jst_nI fun n b hk=>awj_seq hk
  ·
   injection h with h;subst h;exact jst_nI fun n b hk=>awj_block hk
  ·
   injection h with h;subst h;exact jst_nI fun n b hk=>awjI_roundsS 1000000 hk
  ·
   split at h
   ·
    rename_i t ht
    split at h
    ·
     injection h with h;subst h
     exact jst_nI fun n b hk=>awj_cond ht (fun _=>hk) fun h=>by cases h
    ·
     injection h with h;subst h
     exact jst_nI fun n b hk=>awj_cond ht (fun h=>by cases h) fun _=>hk
   ·
    cases h
  ·
   rename_i id ops dr
   split at h
   ·
    rename_i hok
    split at h
    ·
     rename_i s' ks e hr
     have e0:ops=ops.toList.toArray:=by simp
     split at h
     ·
      injection h with h;subst h
      refine jst_nI fun n b hk=>awj_aw hC ?_
      refine aw_le (frzR_le mu s ops.toList) ?_
      rw [e0]
      obtain⟨q1,q2⟩:=rOps_ok hT hcl (C:=C) (K:=fun tm' σ' _=>WkI C Y Q k .normal ⟨tm',σ',(frzR mu s ops.toList).nx+1⟩ n b) (by simpa using hr) he
      refine aw_region (s:=(frzR mu s ops.toList).den) (by simpa using hok) (q2 ?_)
      have:=hk
      unfold HdI CS.den at this
      simp only at this
      rw [q1]at this
      exact this
     ·
      split at h
      ·
       rename_i hdr
       injection h with h;subst h
       refine jst_nI fun n b hk=>awj_aw hC ?_
       refine aw_le (frzR_le mu s ops.toList) ?_
       rw [e0]
       obtain⟨q1,q2⟩:=rOps_ok hT hcl (C:=C) (K:=fun tm' σ' ks'=>okDraw ops.toList ks'=true∧WkI C Y Q k .normal ⟨tm',σ',(frzR mu s ops.toList).nx+1⟩ n b) (by simpa using hr) he
       refine aw_regionD (s:=(frzR mu s ops.toList).den) (by simpa using hok) (q2 ⟨okDF_ok hdr,?_⟩)
       have:=hk
       unfold HdI CS.den at this
       simp only at this
       rw [q1]at this
       exact this
      ·
       cases h
    ·
     split at h
     ·
      split at h
      ·
       exact jReg_okI hT hcl hC hok h he
      ·
       cases h
     ·
      cases h
   ·
    cases h
  ·
   cases h
 ·
  cases h
end
theorem jNo_okI{P:Program}{N:Nat}{es:List (List V)}{C:Cx P N}{Y:YE P es}{T:List TI}{M mu:List Nat}{call:Clr}(hT:TabOk T P)(hcl:ClrOk P call)(hC:YC C Y){n:Nat}(hn:n< es.length):∀ {m:Nat}{g:CC}{e:CT},jNo true call T M mu N Y.l m g=some e→EqT e→HdI C Y (EndIt es.length) g n false
 |0,_,_,h,_=>by cases h
 |m+1,g,e,h,he=>by
  unfold jNo at h
  split at h
  ·
   rename_i x hx
   split at h
   ·
    rename_i hy
    split at h
    ·
     rename_i e1 h1
     injection h with h;subst h
     exact(jstp_okI (Q:=EndIt es.length) hT hcl hC hx he.1).1 hy n false (jNo_okI hT hcl hC hn h1 he.2)
    ·
     cases h
   ·
    cases h
  ·
   split at h
   ·
    rename_i e0 s
    split at h
    ·
     exact⟨.inr rfl,(fun h=>nomatch h),fun _=>hn⟩
    ·
     exact⟨.inl rfl,(fun h=>nomatch h),fun _=>hn⟩
    ·
     cases h
   ·
    cases h
theorem jRun_okI{P:Program}{N:Nat}{es:List (List V)}{C:Cx P N}{Y:YE P es}{T:List TI}{M mu:List Nat}{call:Clr}(hT:TabOk T P)(hcl:ClrOk P call)(hC:YC C Y):∀ {m:Nat}{g:CC}{as0:List (List V)}{e:CT}{n:Nat},jRun true call T M mu N Y.l m g=some (as0,e)→EqT e→es.drop n=as0→n≤es.length→HdI C Y (EndIt es.length) g n true
 |0,_,_,_,_,h,_,_,_=>by cases h
 |m+1,g,as0,e,n,h,he,hd,hn=>by
  unfold jRun at h
  split at h
  ·
   rename_i x hx
   split at h
   ·
    rename_i hy
    split at h
    ·
     rename_i as1 e1 h1
     simp only [Option.some.injEq,Prod.mk.injEq]at h
     obtain⟨rfl,rfl⟩:=h
     exact(jstp_okI (Q:=EndIt es.length) hT hcl hC hx he.1).1 hy n true (jRun_okI hT hcl hC h1 he.2 hd hn)
    ·
     cases h
   ·
    rename_i a hy
    split at h
    ·
     rename_i sd hsd
     split at h
     ·
      rename_i e0 h0
      split at h
      ·
       rename_i as1 e1 h1
       simp only [Option.some.injEq,Prod.mk.injEq]at h
       obtain⟨rfl,rfl⟩:=h
       have hlt:n< es.length:=by
        have:=congrArg List.length hd
        simp only [List.length_drop,List.length_cons]at this
        omega
       have hget:es[n]?=some a:=by
        have:=congrArg (·[0]?) hd
        simpa using this
       have hdr:es.drop (n+1)=as1:=by
        have h2:=congrArg List.tail hd
        simpa using h2
       obtain⟨sd',hs',hall⟩:=(jstp_okI (Q:=EndIt es.length) hT hcl hC hx he.1).2 a hy
       rw [hsd]at hs'
       injection hs' with hs'
       subst hs'
       exact hall n hget (jRun_okI hT hcl hC h1 he.2.2 hdr oM) (jNo_okI hT hcl hC hlt h0 he.2.1)
      ·
       cases h
     ·
      cases h
    ·
     cases h
  ·
   split at h
   ·
    rename_i e0 s
    have fin:as0=[]→n=es.length:=fun h0=>by
     rw [h0]at hd
     have:=congrArg List.length hd
     simp only [List.length_drop,List.length_nil]at this
     omega
    split at h
    ·
     simp only [Option.some.injEq,Prod.mk.injEq]at h
     exact⟨.inr rfl,fun _=>fin h.1.symm,(fun h=>nomatch h)⟩
    ·
     simp only [Option.some.injEq,Prod.mk.injEq]at h
     exact⟨.inl rfl,fun _=>fin h.1.symm,(fun h=>nomatch h)⟩
    ·
     cases h
   ·
    cases h
theorem ait_ofI{P:Program}{N:Nat}{T:List TI}{M mu:List Nat}{call:Clr}{f:FuncId}{fn:Func}{c:Code}{caps:List V}{ins:List Ob}{es:List (List V)}(hT:TabOk T P)(hmx:P.follows .mixedOrders=true)(hcl:ClrOk P call)(hk:FnOk P f fn c N)(hres:fn.results= #[])(hargs:caps.length+1≤N)(hins:ins.length≤400)
  (s0:Nat→CS) (h0:∀l,(s0 l).den=⟨fun t=>((V.c (.func (.yield l) #[] #[]))::caps).getD t .any,insF ins,1⟩)
  (hv:∀l,jVal (jRun true call T M mu N l 20000 (.code c [] (s0 l)))=some es) (he:∀l,EqT (jTr (jRun true call T M mu N l 20000 (.code c [] (s0 l))))):AItU P f caps ins es:=by
 refine ait_introU hT hmx hk hres hargs (fun C Y hC=> ?_) hins
 have h1:=hv Y.l
 have h2:=he Y.l
 unfold jVal at h1
 unfold jTr at h2
 split at h1
 ·
  rename_i as0 e hr
  rw [hr]at h2
  injection h1 with h1
  subst h1
  have:=jRun_okI (C:=C) (Y:=Y) (n:=0) hT hcl hC hr h2 rfl (Nat.zero_le _)
  unfold HdI at this
  simp only at this
  rw [h0]at this
  exact this
 ·
  cases h1
def flB(pn:List Nat):Ob→Bool
 | .box _ cs=>V.flatPL pn cs
 | .row _ _ n f=>((List.range n).map f).all (V.flatPL pn)
 | .mp _ _=>false
theorem flB_ok{pn:List Nat}{o:Ob}(h:flB pn o=true):o.flatP pn:=by
 cases o with
 |box t cs=>exact h
 |row e sz n f=>
  intro i hi
  exact List.all_eq_true.1 h _ (List.mem_map.2 ⟨i,List.mem_range.2 hi,rfl⟩)
 |mp _ _=>cases h
def rEndI(pn:List Nat)(s:CS):Option (List Ob×CT):=
 match insL (lkS s.sl) (fun i=>i) pn with
 |some l=>match decide (((pn.zip (l.map Prod.snd)).map fun p=>lookG [] s.nx p.1).Nodup) && (l.map Prod.snd).all (flB pn)with
  |true=>some (l.map Prod.snd,.lf (cBackE (lookG [] s.nx) l))
  |false=>none
 |none=>none
theorem rEndI_ok{pn:List Nat}{s:CS}{l':List Ob}{e:CT}(hpn:∀p∈pn,500≤p∧p< 1000)(h:rEndI pn s=some (l',e))(he:EqT e):Le s.den ⟨fun _=> .any,mkS (pn.zip l'),1⟩∧l'.length=pn.length∧∀o∈l',o.flatP pn:=by
 unfold rEndI at h
 split at h
 ·
  rename_i l hl
  split at h
  ·
   rename_i hb
   simp only [Option.some.injEq,Prod.mk.injEq]at h
   obtain⟨rfl,rfl⟩:=h
   simp only [Bool.and_eq_true]at hb
   obtain⟨hb1,hb2⟩:=hb
   obtain⟨hlen,hget⟩:=insL_get hl
   have hE:EqE _:=he
   refine⟨?_,by simp [hlen],fun o ho=>flB_ok (List.all_eq_true.1 hb2 o ho)⟩
   show Le ⟨s.tr.get,lkS s.sl,s.nx⟩ ⟨mkT [],mkS (pn.zip (l.map Prod.snd)),1⟩
   refine le_ren (tm:=s.tr.get) (σ:=lkS s.sl) (nx:=s.nx) [] (tl:=[]) .nil (all_mem fun p hp=> ?_) hb1 rfl
   obtain⟨i,h1,h2⟩:=zip_mem hp
   simp only [List.getElem?_map,Option.map_eq_some_iff]at h2
   obtain⟨q,hq,hq2⟩:=h2
   obtain⟨k,hk,hσ,hno⟩:=hget i q hq
   rw [hk]at h1
   injection h1 with h1
   have hg:lookG [] s.nx p.1=k:=by
    have:=hpn k (List.mem_of_getElem? hk)
    unfold lookG
    rw [←h1]
    exact if_pos this
   refine⟨q.1,by rw [hg];exact hσ,?_⟩
   rw [←hq2]
   exact nOb_eq hno (cBackE_get hE hq)
  ·
   cases h
 ·
  cases h
def roundI(call:Clr)(T:List TI)(M mu:List Nat)(N:Nat)(pn:List Nat)(tl:List (Nat×V))(ps:List Nat)(as0 bd:Code)(x:List V)(l:List Ob):RO:=
 match evalC call rng0 T M mu N as0 ⟨setTR (trL tl) ps x,zipS pn l,1⟩with
 |some (.normal,s1,t1)=>match evalC call rng0 T M mu N bd s1 with
  |some (e,s2,t2)=>match rEndI pn s2 with
   |some (l',t3)=>rdEx l' (cNd t1 (cNd t2 t3)) e
   |none=> .bad
  |none=> .bad
 |_=> .bad
def ROkI(pn:List Nat)(ok:Nat→Prop)(sl:Nat→List Ob)(X:Nat→Code→List Ob→Prop)(k:Nat):RO→Prop
 | .nor l' e=>EqT e∧(l'.length=pn.length→(∀o∈l',o.flatP pn)→ok (k+1)∧sl (k+1)=l')
 | .ext c l' e=>EqT e∧(l'.length=pn.length→(∀o∈l',o.flatP pn)→X k (exCode c) l')
 | .bad=>False
theorem roundSI_den{pn:List Nat}{tl:List (Nat×V)}{ps:List Nat}{x:List V}{l:List Ob}(htl:∀p∈tl,p.1< 1000)(hps:∀p∈ps,p< 1000):(CS.mk (setTR (trL tl) ps x) (zipS pn l) 1).den=⟨setT (mkT tl) ps x,mkS (pn.zip l),1⟩:=by
 unfold CS.den
 rw [setTR_get _ _ _ hps,trL_get htl,zipS_get]
section
variable {P:Program}{N:Nat}{T:List TI}{M mu:List Nat}{call:Clr}{pn:List Nat}{tl:List (Nat×V)}{ps:List Nat}{as0 bd:Code}
theorem roundI_ok(hT:TabOk T P)(hcl:ClrOk P call)(hpn:∀p∈pn,500≤p∧p< 1000)(htl:∀p∈tl,p.1< 1000)(hps:∀p∈ps,p< 1000){ok:Nat→Prop}{sl:Nat→List Ob}{X:Nat→Code→List Ob→Prop}{k:Nat}{x:List V}{l:List Ob}
  (h:ROkI pn ok sl X k (roundI call T M mu N pn tl ps as0 bd x l)) (C':Cx P N):AW C' as0 (XThen (fun s'=>AW C' bd (RPost pn ok sl X k) s') (fun _ _=>False)) ⟨setT (mkT tl) ps x,mkS (pn.zip l),1⟩:=by
 rw [←roundSI_den htl hps]
 unfold roundI at h
 split at h
 ·
  rename_i s1 t1 h1
  split at h
  ·
   rename_i e s2 t2 h2
   split at h
   ·
    rename_i l' t3 h3
    have key:EqT (cNd t1 (cNd t2 t3))→(Le s2.den ⟨fun _=> .any,mkS (pn.zip l'),1⟩→l'.length=pn.length→(∀o∈l',o.flatP pn)→RPost pn ok sl X k e s2.den)→
      AW C' as0 (XThen (fun s'=>AW C' bd (RPost pn ok sl X k) s') (fun _ _=>False)) (CS.mk (setTR (trL tl) ps x) (zipS pn l) 1).den:=by
     intro hE hR
     have hE:=cNd_eq hE
     have hE2:=cNd_eq hE.2
     obtain⟨z1,z2,z3⟩:=rEndI_ok hpn h3 hE2.2
     have a2:=evalC_ok (C:=C') (mu:=mu) hT hcl rng0_ok bd _ _ _ _ h2 hE2.1 (RPost pn ok sl X k) (hR z1 z2 z3)
     exact evalC_ok (C:=C') (mu:=mu) hT hcl rng0_ok as0 _ _ _ _ h1 hE.1 (XThen (fun s'=>AW C' bd (RPost pn ok sl X k) s') (fun _ _=>False)) a2
    unfold rdEx at h
    split at h
    ·
     obtain⟨q1,q2⟩:=h
     exact key q1 fun hle a b=>⟨(q2 a b).1,by rw [(q2 a b).2];exact hle⟩
    ·
     obtain⟨q1,q2⟩:=h
     exact key q1 fun hle a b=>⟨_,q2 a b,hle⟩
    ·
     obtain⟨q1,q2⟩:=h
     exact key q1 fun hle a b=>⟨_,q2 a b,hle⟩
    ·
     exact h.elim
   ·
    exact h.elim
  ·
   exact h.elim
 ·
  exact h.elim
end
def flR(pn:List Nat)(l:List Ob):Bool:=Nat.beq l.length pn.length && l.all (flB pn)
theorem flR_ok{pn:List Nat}{l:List Ob}(h:flR pn l=true):l.length=pn.length∧∀o∈l,o.flatP pn:=by
 simp only [flR,Bool.and_eq_true]at h
 exact⟨Nat.eq_of_beq_eq_true h.1,fun o ho=>flB_ok (List.all_eq_true.1 h.2 o ho)⟩
def rdF(pn:List Nat):RO→RO
 | .nor l e=>match flR pn l with
  |true=> .nor l e
  |false=> .bad
 | .ext c l e=>match flR pn l with
  |true=> .ext c l e
  |false=> .bad
 | .bad=> .bad
theorem rdF_nor{pn:List Nat}{r:RO}{l:List Ob}{e:CT}(h:rdF pn r= .nor l e):r= .nor l e∧flR pn l=true:=by
 unfold rdF at h
 split at h
 ·
  split at h
  ·
   rename_i hf;injection h with h1 h2;subst h1 h2;exact⟨rfl,hf⟩
  ·
   cases h
 ·
  split at h <;> cases h
 ·
  cases h
theorem rdF_ext{pn:List Nat}{r:RO}{c:Exit}{l:List Ob}{e:CT}(h:rdF pn r= .ext c l e):r= .ext c l e∧flR pn l=true:=by
 unfold rdF at h
 split at h
 ·
  split at h <;> cases h
 ·
  split at h
  ·
   rename_i hf;injection h with h1 h2 h3;subst h1 h2 h3;exact⟨rfl,hf⟩
  ·
   cases h
 ·
  cases h
theorem rngI_core{P:Program}{N:Nat}{C:Cx P N}{Q:Exit→S→Prop}{tm:Nat→V}{σ:Nat→Option Ob}{nx:Nat}{g:Operand}{ps:Array Tmp}{as0 bd:Code}{gf:FuncId}{caps:List V}{ins:List Ob}{es:List (List V)}(ns:List Nat)(hF:C.F=Fence.wide)(hd:C.dfs=dp0)(pn:List Nat)(gl:List (Nat×Nat))
  (it:AItU P gf caps ins es) (hg:ev tm g= .fn (.func gf) [] (V.renL (nmU ns) caps)) (hidf:V.inNL ins.length caps=true) (hns:ns.length=ins.length) (hnd:ns.Nodup) (hins:∀(i k:Nat) (o:Ob),ns[i]?=some k→ins[i]?=some o→σ k=some o∧idfB o=true) (hlen:∀x∈es,x.length=ps.size) (hps:ps.toList.all (fun p=>decide (p< N))=true) (tl:List (Nat×V)) (rd:List V→List Ob→RO) (l0:List Ob) (hl0:flR pn l0=true)
  (hrd:∀ok sl X k x l,ROkI pn ok sl X k (rd x l)→∀C':Cx P N,AW C' as0 (XThen (fun s'=>AW C' bd (RPost pn ok sl X k) s') (fun _ _=>False)) ⟨setT (mkT tl) ps.toList x,mkS (pn.zip l),1⟩)
  (hpn:∀p∈pn,500≤p∧p< 1000) (hid:∀p∈gl,p.1< 1000) (htm:All (fun p=>tm p.1=p.2.ren (lookG gl nx)) tl) (hσ:All (fun p=>∃ob,σ (lookG gl nx p.1)=some ob∧ObEq ob (p.2.ren (lookG gl nx))) (pn.zip l0))
  (hinj:decide (((pn.zip l0).map fun p=>lookG gl nx p.1).Nodup)=true) (hdis:∀p∈pn.zip l0,lookG gl nx p.1∉ns){c:Exit}{lf:List Ob}{e:CT}(hw:wlk (fun x l=>rdF pn (rd x l)) es l0=some (c,lf,e)) (he:EqT e) (hQ:Q c ⟨mkT tl,mkS (pn.zip lf),1⟩):AW C (.rangeFunc g ps as0 bd) Q ⟨tm,σ,nx⟩:=by
 have hat:=wlk_at hw he
 generalize hR:(fun x l=>rdF pn (rd x l))=rr at hw hat
 have hst0:∀k l,cStA rr es l0 k=some l→flR pn l=true:=by
  intro k
  cases k with
  |zero=>intro l hl;simp only [cStA,Option.some.injEq]at hl;subst hl;exact hl0
  |succ k=>
   intro l hl
   simp only [cStA]at hl
   split at hl
   ·
    rename_i l1 x h1 hx
    split at hl
    ·
     rename_i l' e' hr
     injection hl with hl
     subst hl
     rw [←hR]at hr
     exact(rdF_nor hr).2
    ·
     cases hl
   ·
    cases hl
 refine w_rangeU ns hF hd it hg hidf hns hnd hins hlen hps pn gl tl (fun k=>(cStA rr es l0 k).isSome=true) (fun k=>(cStA rr es l0 k).getD []) (fun k c sx=>∃l x c' e',cStA rr es l0 k=some l∧es[k]?=some x∧rr x l= .ext c' sx e'∧exCode c'=c)
  (by simp [cStA]) (List.all_eq_true.2 fun p hp=>by simpa using hpn p hp) (by simpa [cStA]using (flR_ok hl0).1) (List.all_eq_true.2 fun p hp=>decide_eq_true (hid p hp)) htm hσ hinj (by simpa [cStA]using hdis) (fun k o ho=> ?_) (fun k c sx hX o ho=> ?_) (fun C' _ k x hx hok=> ?_) (fun hok=> ?_) (fun k c sx hk hX=> ?_)
 ·
  cases hk:cStA rr es l0 k with
  |none=>rw [hk]at ho;simp at ho
  |some l=>rw [hk]at ho;exact(flR_ok (hst0 k l hk)).2 o (by simpa using ho)
 ·
  obtain⟨l,x,c',e',hl,hx,hr,rfl⟩:=hX
  rw [←hR]at hr
  exact(flR_ok (rdF_ext hr).2).2 o ho
 ·
  obtain⟨l,hl⟩:=Option.isSome_iff_exists.1 hok
  rw [hl,Option.getD_some]
  obtain⟨hk,t,ht,htE⟩:=hat k l hl
  have hlt:=(List.getElem?_eq_some_iff.1 hx).1
  have hdr:es.drop k=x::es.drop (k+1):=by
   rw [List.drop_eq_getElem_cons hlt]
   congr 1
   exact(List.getElem?_eq_some_iff.1 hx).2
  rw [hdr]at ht
  refine hrd _ _ _ k x l ?_ C'
  unfold wlk at ht
  split at ht
  ·
   rename_i l' e' hr
   split at ht
   ·
    simp only [Option.some.injEq,Prod.mk.injEq]at ht
    obtain⟨_,_,rfl⟩:=ht
    have hst:cStA rr es l0 (k+1)=some l':=by
     simp only [cStA,hl,hx,hr]
    rw [←hR]at hr
    rw [(rdF_nor hr).1]
    exact⟨htE.1,fun _ _=>⟨by simp only [hst,Option.isSome_some],by simp only [hst,Option.getD_some]⟩⟩
   ·
    cases ht
  ·
   rename_i c' l' e' hr
   have hr':=hr
   rw [←hR]at hr'
   rw [(rdF_ext hr').1]
   split at ht
   ·
    simp only [Option.some.injEq,Prod.mk.injEq]at ht
    obtain⟨_,_,rfl⟩:=ht
    exact⟨htE,fun _ _=>⟨l,x,_,_,hl,hx,hr,rfl⟩⟩
   ·
    simp only [Option.some.injEq,Prod.mk.injEq]at ht
    obtain⟨_,_,rfl⟩:=ht
    exact⟨htE,fun _ _=>⟨l,x,_,_,hl,hx,hr,rfl⟩⟩
   ·
    cases ht
  ·
   cases ht
 ·
  obtain⟨l,hl⟩:=Option.isSome_iff_exists.1 hok
  rw [hl,Option.getD_some]
  obtain⟨hk,t,ht,htE⟩:=hat _ l hl
  rw [List.drop_length]at ht
  simp only [wlk,Option.some.injEq,Prod.mk.injEq]at ht
  obtain⟨rfl,rfl,_⟩:=ht
  exact hQ
 ·
  obtain⟨l,x,c',e',hl,hx,hr,rfl⟩:=hX
  obtain⟨hk',t,ht,htE⟩:=hat k l hl
  have hdr:es.drop k=x::es.drop (k+1):=by
   rw [List.drop_eq_getElem_cons hk]
   congr 1
   exact(List.getElem?_eq_some_iff.1 hx).2
  rw [hdr]at ht
  unfold wlk at ht
  rw [hr]at ht
  simp only at ht
  split at ht
  ·
   simp only [Option.some.injEq,Prod.mk.injEq]at ht
   obtain⟨rfl,rfl,_⟩:=ht
   exact aw_ret hQ
  ·
   simp only [Option.some.injEq,Prod.mk.injEq]at ht
   obtain⟨rfl,rfl,_⟩:=ht
   exact aw_exit hQ
  ·
   cases ht
abbrev ItrU:Type:=FuncId→List V→List Ob→Option (List (List V)×CT)
def ItrOkI(P:Program)(itr:ItrU):Prop:=∀f caps ins es e,itr f caps ins=some (es,e)→EqT e→AItU P f caps ins es
def insU(σ:Nat→Option Ob):List Nat→Option (List Ob)
 | []=>some []
 |k::l=>match σ k with
  |some o=>match idfB o with
   |true=>match insU σ l with
    |some r=>some (o::r)
    |none=>none
   |false=>none
  |none=>none
def dedN:List Nat→List Nat
 | []=>[]
 |k::l=>match inNs (dedN l) k with
  |true=>dedN l
  |false=>k::dedN l
structure CapU where
 caps:List V
 ns:List Nat
 ins:List Ob
 e:CT
def capU2(caps caps':List V)(ns:List Nat)(ins:List Ob):Option CapU:=match nodupN ns && (V.inNL ins.length caps' && Nat.ble ins.length 400)with
 |true=>some ⟨caps',ns,ins,.lf [(.vs caps,.vs (V.renL (nmU ns) caps'))]⟩
 |false=>none
def capU1(σ:Nat→Option Ob)(caps:List V)(ns:List Nat):Option CapU:=match insU σ ns with
 |some ins=>capU2 caps (V.renL (fun i=>500+idxN ns i) caps) ns ins
 |none=>none
def capU(σ:Nat→Option Ob)(caps:List V):Option CapU:=match V.idfL caps with
 |true=>some ⟨caps,[],[],c0⟩
 |false=>capU1 σ caps (dedN (V.idsL caps))
theorem insU_get{σ:Nat→Option Ob}:∀ {ns:List Nat}{ins:List Ob},insU σ ns=some ins→ns.length=ins.length∧∀(i k:Nat) (o:Ob),ns[i]?=some k→ins[i]?=some o→σ k=some o∧idfB o=true
 | [],ins,h=>by
  simp only [insU,Option.some.injEq]at h
  subst h
  exact⟨rfl,fun i k o h=>by simp at h⟩
 |k::l,ins,h=>by
  simp only [insU]at h
  split at h
  ·
   rename_i o ho
   split at h
   ·
    rename_i hb
    split at h
    ·
     rename_i r hr
     injection h with h;subst h
     obtain⟨h1,h2⟩:=insU_get hr
     refine⟨by simp [h1],fun i k' o' hk ho'=> ?_⟩
     cases i with
     |zero=>simp at hk ho';subst hk ho';exact⟨ho,hb⟩
     |succ i=>exact h2 i k' o' (by simpa using hk) (by simpa using ho')
    ·
     cases h
   ·
    cases h
  ·
   cases h
theorem capU_ok{σ:Nat→Option Ob}{caps:List V}{u:CapU}(h:capU σ caps=some u)(he:EqT u.e):caps=V.renL (nmU u.ns) u.caps∧V.inNL u.ins.length u.caps=true∧u.ns.length=u.ins.length∧u.ns.Nodup∧(∀(i k:Nat) (o:Ob),u.ns[i]?=some k→u.ins[i]?=some o→σ k=some o∧idfB o=true)∧u.ins.length≤400:=by
 unfold capU at h
 split at h
 ·
  rename_i hi
  injection h with h;subst h
  exact⟨(V.renL_idf _ _ hi).symm,idf_inNL 0 caps hi,rfl,.nil,(fun i k o h=>by simp at h),Nat.zero_le _⟩
 ·
  generalize dedN _=ns at h
  unfold capU1 at h
  split at h
  ·
   rename_i ins hins
   obtain⟨h1,h2⟩:=insU_get hins
   unfold capU2 at h
   split at h
   ·
    rename_i hb
    injection h with h;subst h
    simp only [Bool.and_eq_true]at hb
    have hE:EqE _:=he
    have e1:=hE.hd
    injection e1 with e1
    exact⟨e1,hb.2.1,h1,nodupN_ok hb.1,h2,Nat.le_of_ble_eq_true hb.2.2⟩
   ·
    cases h
  ·
   cases h
def numB(σ:Nat→Option Ob):List V→List Nat
 | []=>[]
 |v::l=>match v with
  | .ref i o=>match o with
   |0=>match σ i with
    |some (.box _ cs)=>match cs.all V.isC with
     |true=>i::numB σ l
     |false=>numB σ l
    |_=>numB σ l
   |_+1=>numB σ l
  |_=>numB σ l
def keepU(mu:List Nat)(σ:Nat→Option Ob)(v:V):List Nat:=match v with
 | .fn (.func gf) _ caps=>match inNs mu gf with
  |true=>numB σ caps
  |false=>[]
 |_=>[]
def nfL:List (Nat×Option Ob)→List Nat
 | []=>[]
 | (k,o)::l=>match o with
  |some (.box _ cs)=>match V.idfL cs && !V.flatPL [] cs with
   |true=>k::nfL l
   |false=>nfL l
  |_=>nfL l
def rngSU(mu:List Nat)(s:CS)(g:Operand):CS:=frzL s (notIn (keepU mu (lkS s.sl) (ev s.tr.get g)) (reachN (lkS s.sl) 1000 (ev s.tr.get g).ids [])++nfL s.sl)
def disN(l:List Nat):List Nat→Bool
 | []=>true
 |k::ns=>match inNs l k with
  |true=>false
  |false=>disN l ns
def keysU(tr:TR)(ns:List Nat):List Nat→List Nat
 | []=>[]
 |t::l=>match disN (tr.get t).ids ns with
  |true=>t::keysU tr ns l
  |false=>keysU tr ns l
def capsOf(v:V):List V:=match v with
 | .fn _ _ caps=>caps
 |_=>[]
def nsOf(v:V):List Nat:=match V.idfL (capsOf v)with
 |true=>[]
 |false=>dedN (V.idsL (capsOf v))
def keysV(tr:TR)(ns:List Nat)(ks:List Nat):List Nat:=match ns with
 | []=>ks
 |k::l=>keysU tr (k::l) ks
def rngI2(call:Clr)(T:List TI)(M mu:List Nat)(N np:Nat)(ps:List Nat)(as0 bd:Code)(s:CS)(nl:List Nat)(ks ns:List Nat)(es:List (List V))(obs:List (Ob×Ob)):Option (Exit×CS×CT):=
 match (es.all fun x=>Nat.beq x.length ps.length) && (ps.all (fun p=>decide (p< N)) && (ps.all (fun p=>decide (p< 1000)) && (ks.all (fun p=>decide (p< 1000)) && (decide (500+np+nl.length≤1000) && (flR (pnL np nl.length) (obs.map Prod.snd) && (decide ((((pnL np nl.length).zip (obs.map Prod.snd)).map fun p=>lookG (numL (500+np) nl) s.nx p.1).Nodup) && (((pnL np nl.length).zip (obs.map Prod.snd)).all fun p=> !inNs ns (lookG (numL (500+np) nl) s.nx p.1))))))))with
 |true=>match wlk (fun x l=>rdF (pnL np nl.length) (roundI call T M mu N (pnL np nl.length) (renP (invR np nl) (tmL s.tr ks)) ps as0 bd x l)) es (obs.map Prod.snd)with
  |some (c,lf,e)=>some (c,⟨trL (renP (invR np nl) (tmL s.tr ks)),zipS (pnL np nl.length) lf,1⟩,.nd (.lf ((.vs (vals (tmL s.tr ks)),.vs (V.renL (lookG (numL (500+np) nl) s.nx) (vals (renP (invR np nl) (tmL s.tr ks)))))::cBackE (lookG (numL (500+np) nl) s.nx) obs)) e)
  |none=>none
 |false=>none
def rngI1(call:Clr)(itr:ItrU)(T:List TI)(M mu:List Nat)(N np:Nat)(g:Operand)(ps:List Nat)(as0 bd:Code)(s:CS)(ks nl:List Nat):Option (Exit×CS×CT):=
 match ev s.tr.get g with
 | .fn (.func gf) [] caps=>match capU (lkS s.sl) caps with
  |some u=>match itr gf u.caps u.ins with
   |some (es,e0)=>match insL (lkS s.sl) (invR np nl) (pinL np++nl)with
    |some obs=>match rngI2 call T M mu N np ps as0 bd s nl ks u.ns es obs with
     |some (c,s',e)=>some (c,s',.nd u.e (.nd e0 e))
     |none=>none
    |none=>none
   |none=>none
  |none=>none
 |_=>none
def rngI0(call:Clr)(itr:ItrU)(T:List TI)(M mu:List Nat)(N np:Nat)(g:Operand)(ps:List Nat)(as0 bd:Code)(s:CS)(ks:List Nat):Option (Exit×CS×CT):=
 rngI1 call itr T M mu N np g ps as0 bd s ks (notIn (pinL np) (reachN (lkS s.sl) 1000 (idsP (tmL s.tr ks)++pinL np) []))
def rngIE(call:Clr)(itr:ItrU)(T:List TI)(M mu:List Nat)(N np:Nat):Rng:=fun g ps as0 bd s=>
 rngI0 call itr T M mu N np g ps.toList as0 bd (rngSU mu s g) (keysV (rngSU mu s g).tr (nsOf (ev (rngSU mu s g).tr.get g)) (TR.keys id (rngSU mu s g).tr))
theorem rngIE_ok{P:Program}{N:Nat}{C:Cx P N}{T:List TI}{M mu:List Nat}{call:Clr}{itr:ItrU}{np:Nat}(hT:TabOk T P)(hcl:ClrOk P call)(hit:ItrOkI P itr)(hF:C.F=Fence.wide)(hd:C.dfs=dp0):RngOk C (rngIE call itr T M mu N np):=by
 intro g ps as0 bd s e s' t h he Q hQ
 have hle:∀ {P:Program}{N:Nat}(C:Cx P N) a w,Gm C s.den a w→Gm C (rngSU mu s g).den a w:=frzL_le s _
 refine aw_le (s':=(rngSU mu s g).den) hle ?_
 clear hle
 unfold rngIE at h
 generalize rngSU mu s g=s0 at h ⊢
 generalize keysV _ _ _=ks at h
 unfold rngI0 at h
 generalize notIn _ _=nl at h
 unfold rngI1 at h
 split at h
 ·
  rename_i gf caps hg
  split at h
  ·
   rename_i u hu
   split at h
   ·
    rename_i es e0 hes
    split at h
    ·
     rename_i obs hobs
     split at h
     ·
      rename_i c s1 e1 h2
      simp only [Option.some.injEq,Prod.mk.injEq]at h
      obtain⟨rfl,rfl,rfl⟩:=h
      obtain⟨heu,he0,he⟩:=he
      obtain⟨u1,u2,u3,u4,u5,u6⟩:=capU_ok hu heu
      unfold rngI2 at h2
      split at h2
      ·
       rename_i hb
       split at h2
       ·
        rename_i c1 lf e2 hw
        simp only [Option.some.injEq,Prod.mk.injEq]at h2
        obtain⟨rfl,rfl,rfl⟩:=h2
        simp only [Bool.and_eq_true,decide_eq_true_eq]at hb
        obtain⟨hb1,hb2,hb3,hb4,hb5,hb6,hb7,hb8⟩:=hb
        obtain⟨hE,hew⟩:=he
        have hE':EqE _:=hE
        have e1:=hE'.hd
        injection e1 with e1
        have hB:=hE'.tl
        obtain⟨hlen,hget⟩:=insL_get hobs
        have hps:∀p∈ps.toList,p< 1000:=fun p hp=>of_decide_eq_true (List.all_eq_true.1 hb3 p hp)
        have htl:∀p∈renP (invR np nl) (tmL s0.tr ks),p.1< 1000:=fun p hp=>by
         obtain⟨q,hq,hq2⟩:=renP_key hp
         rw [←hq2]
         exact of_decide_eq_true (List.all_eq_true.1 hb4 _ (tmL_key hq))
        have hpn:∀p∈pnL np nl.length,500≤p∧p< 1000:=fun p hp=>by
         unfold pnL pinL at hp
         simp only [List.mem_append,List.mem_map,List.mem_range]at hp
         rcases hp with⟨a,ha,rfl⟩ | ⟨a,ha,rfl⟩ <;> omega
        have hs1:(CS.mk (trL (renP (invR np nl) (tmL s0.tr ks))) (zipS (pnL np nl.length) lf) 1).den=⟨mkT (renP (invR np nl) (tmL s0.tr ks)),mkS ((pnL np nl.length).zip lf),1⟩:=by
         unfold CS.den
         rw [trL_get htl,zipS_get]
        rw [hs1]at hQ
        have H1:∀ok sl X k x l,ROkI (pnL np nl.length) ok sl X k (roundI call T M mu N (pnL np nl.length) (renP (invR np nl) (tmL s0.tr ks)) ps.toList as0 bd x l)→∀C':Cx P N,AW C' as0 (XThen (fun s'=>AW C' bd (RPost (pnL np nl.length) ok sl X k) s') (fun _ _=>False)) ⟨setT (mkT (renP (invR np nl) (tmL s0.tr ks))) ps.toList x,mkS ((pnL np nl.length).zip l),1⟩:=fun ok sl X k x l hr C'=>roundI_ok hT hcl hpn htl hps hr C'
        have H2:∀p∈numL (500+np) nl,p.1< 1000:=fun p hp=>by have:=numL_mem hp;omega
        have H3:=renP_all (g:=lookG (numL (500+np) nl) s0.nx) (gi:=invR np nl) (tm:=s0.tr.get) (tl:=tmL s0.tr ks) tmL_mem e1
        generalize roundI call T M mu N (pnL np nl.length) (renP (invR np nl) (tmL s0.tr ks)) ps.toList as0 bd=rd at hw H1
        generalize renP (invR np nl) (tmL s0.tr ks)=tl at*
        refine rngI_core u.ns hF hd (pnL np nl.length) (numL (500+np) nl) (hit _ _ _ _ _ hes he0) (by rw [←u1];exact hg) u2 u3 u4 u5 (fun x hx=> ?_) hb2 tl rd (obs.map Prod.snd) hb6 H1 hpn H2 H3 (all_mem fun p hp=> ?_) (decide_eq_true hb7) (fun p hp=>by have:=List.all_eq_true.1 hb8 p hp;simp only [Bool.not_eq_true']at this;exact inNs_mem this) hw hew hQ
        ·
         have:=List.all_eq_true.1 hb1 x hx
         have:=Nat.eq_of_beq_eq_true this
         simpa using this
        ·
         obtain⟨i,h1,h2⟩:=zip_mem hp
         simp only [List.getElem?_map,Option.map_eq_some_iff]at h2
         obtain⟨q,hq,hq2⟩:=h2
         obtain⟨k,hk,hσ,hno⟩:=hget i q hq
         have hil:=(List.getElem?_eq_some_iff.1 hq).1
         rw [hlen]at hil
         have hpl:(pinL np).length=np:=by simp [pinL]
         simp only [List.length_append,hpl]at hil
         have hlk:lookG (numL (500+np) nl) s0.nx p.1=k:=by
          unfold pnL at h1
          unfold lookG
          by_cases hi:i< np
          ·
           rw [List.getElem?_append_left oM]at h1 hk
           rw [hk]at h1
           injection h1 with h1
           have hkk:k=500+i:=by
            unfold pinL at hk
            rw [List.getElem?_map,List.getElem?_range hi]at hk
            simp at hk;omega
           rw [←h1,numL_lt oM]
           exact if_pos oM
          ·
           rw [List.getElem?_append_right oM]at h1 hk
           rw [hpl]at h1 hk
           rw [List.getElem?_map,List.getElem?_range oM]at h1
           simp only [Option.map_some,Option.some.injEq]at h1
           rw [←h1,numL_find hk]
         refine⟨q.1,by rw [hlk];exact hσ,?_⟩
         rw [←hq2]
         exact nOb_eq hno (cBackE_get hB hq)
       ·
        cases h2
      ·
       cases h2
     ·
      cases h
    ·
     cases h
   ·
    cases h
  ·
   cases h
 ·
  cases h
end
end Go.Ab
