/-
  Several texts in one: The step of an operation as a function of values; regions by it. No condition. .. Ends of functions seen otherwise. No condition.
-/
import Derived.Maps.OwnSet
import Derived.Laws.Strings
import Derived.Laws.Slices
import Derived.Laws.IdiomStrings
import Derived.Laws.CopyRow
import Derived.Test.YtjmbpjlojjgggaaGreatDoorMB
namespace Go.Ab
open Go.RowKit Go.Dw
structure SR where
  c:Prop
  v:V
  pre:List (Nat×Ob)
  nw:List Nat
  δ:List (Nat×Option Ob)
def ug:V->V
 | .gd _ v=>v
 |v=>v
def sZ(g:Bool):V->Prop
 | .gd g' _=>g=true->g'=true
 |_=>True
def eP(ds:List (Option Tmp))(tm:Nat->V)(o:Oper):Option (Option Bool):=
 match o.guard with
  |none=>some none
  |some (j,b)=>match (ds[j]?).bind id with
   |some d=>match tm d with
    | .c (.bool x)=>some (some (x == b))
    | .gd g (.c (.bool x))=>some (some (g && (x == b)))
    |_=>none
   |none=>none
theorem gk{ops:Array Oper}{tm:Nat->V}{o:Oper}{r:Option Bool}(h:eP (ops.toList.map (·.dst)) tm o=some r):dJ ops tm o=some (r.getD true):=by
 unfold eP at h;unfold dJ;split at h
 ·rename_i hg;injection h with h;subst h;try rw [hg]
  rfl
 ·rename_i j b hg;try rw [hg]
  try simp only
  have e1:((ops.toList.map (·.dst))[j]?).bind id=(ops[j]?).bind (·.dst):=by rw [List.getElem?_map,Array.getElem?_toList];cases ops[j]? <;> rfl
  rw [e1]at h;split at h
  ·rename_i d hd;rw [hd];simp only;split at h;·rename_i x hx;injection h with h;subst h;rw [hx];rfl
   ·rename_i g x hx;injection h with h;subst h;rw [hx];rfl
   ·cases h
  ·cases h
theorem aU.weaken{P:Program}{W LB:Nat->Prop}{o:Oper}{e e':Operand->V}{v:V}{pre:List (Nat×Ob)}{nw:List Nat}{δ:List (Nat×Option Ob)}(h:aU P W LB o e v pre nw δ)
 (hw:∀x∈o.op.operands,∀w L ρ y,R w L ρ (e' x) y->R w L ρ (e x) y):aU P W LB o e' v pre nw δ:=
 fun σ w L ρ g hG hr hp hn=>h σ w L ρ g hG (fun x hx=>hw x hx w L ρ _ (hr x hx)) hp hn
theorem R.ug{w:World}{L:Nat->Prop}{ρ:Nat->Option Value}{v:V}{y:Value}(h:R w L ρ v y)(hg:sZ true v):R w L ρ (ug v) y:=by
 cases h with
 |gd _ g u _ h h'=>exact h (hg rfl)
 |any=>exact .any _ _
 |c=>exact .c _ _
 |agg _ _ _ f hl hf hr=>exact .agg _ _ _ f hl hf hr
 |tup _ _ _ f hl hf hr=>exact .tup _ _ _ f hl hf hr
 |nil=>exact .nil _
 |emp=>exact .emp _ _
 |sl0=>exact .sl0 _ _ _ _ _
 |sl _ _ _ _ _ _ _ f hb hcap hlen hf hr=>exact .sl _ _ _ _ _ _ _ f hb hcap hlen hf hr
 |ptr _ _ _ _ f hb hf hr=>exact .ptr _ _ _ _ f hb hf hr
 |own _ _ _ h h1=>exact .own _ _ _ h h1
 |ref _ _ _ _ h=>exact .ref _ _ _ _ h
 |oel _ _ _ _ _ _ n c h=>exact .oel _ _ _ _ _ _ n c h
 |osl _ _ _ _ _ _ m c c2 A h hn hA=>exact .osl _ _ _ _ _ _ m c _ _ h hn hA
 |fset _ str has b es cl hb hh hk hf=>exact .fset _ _ _ b es cl hb hh hk hf
 |alt _ _ _ _ _ h h'=>exact .alt _ _ _ _ _ h h'
 |fn _ _ _ _ _ _ p q hl hm hp hq hr hs=>exact .fn _ _ _ _ _ _ p q hl hm hp hq hr hs
 |ifc _ _ _ _ h=>exact .ifc _ _ _ _ h
section
variable {P:Program}{N:Nat}{C:Cx P N}{ops:Array Oper}{nx:Nat}{o:Oper}{os:List Oper}{tm:Nat->V}{σ:Nat->Option Ob}{ks:List (List Nat×List Nat)}{K:(Nat->V)->(Nat->Option Ob)->List (List Nat×List Nat)->Prop}
theorem EU{v:V}{pre:List (Nat×Ob)}{nw:List Nat}{δ:List (Nat×Option Ob)}(hg:o.guard=none)(hu:∀x∈o.op.operands,sZ true (ev tm x))(h:aU P C.W C.LB o (fun x=>ug (ev tm x)) v pre nw δ)(hp:∀p∈pre,σ p.1=some p.2)(hn:l6 nx o.dst nw)
 (hk:bF C ops nx os (eR tm o.dst v) (bG σ δ) (ks++[(aV δ,dZ pre++aV δ)]) K):bF C ops nx (o::os) tm σ ks K:=
 eI hg (h.weaken fun x hx _ _ _ _ hy=>hy.ug (hu x hx)) hp hn hk
theorem mK{v:V}{pre:List (Nat×Ob)}{g:Bool}(hg:eP (ops.toList.map (·.dst)) tm o=some (some g))(hu:∀x∈o.op.operands,sZ g (ev tm x))(h:g=true->aU P C.W C.LB o (fun x=>ug (ev tm x)) v pre [] []/\∀p∈pre,σ p.1=some p.2) (hk:bF C ops nx os (eR tm o.dst (.gd g v)) σ (ks++[([],dZ pre)]) K):bF C ops nx (o::os) tm σ ks K:=by
 have hw:=gk hg;refine⟨⟨g,.gd g v,pre,[],[]⟩,⟨hw,fun he=> ?_,fun he=> ?_⟩,by simpa [aV,bG]using hk⟩;·subst he;refine⟨fun σ w L ρ q hG hr hp hn=>((h rfl).1 σ w L ρ q hG (fun x hx=>(hr x hx).ug (hu x hx)) hp hn).mono ?_,(h rfl).2,by simp [l6]⟩;rintro x w' ⟨L',ρ',h1,h2,h3⟩;exact⟨L',ρ',h1,.gd _ _ _ _ (fun _=>h2) (fun e=>by cases e),h3⟩
 ·subst he;exact⟨fun w L ρ=> .gd _ _ _ _ (fun e=>by cases e) fun _=>rfl,rfl,rfl⟩
def uN(t:Bool)(a b:V):Option V:=
 match a,b with
  | .c (.bool true),.c (.bool y)=>some (.b (t || y))
  | .c (.bool x),.c (.bool false)=>some (.b (t && x))
  | .c (.bool x),.c (.bool y)=>some (.b (cond t x y))
  |_,_=>none
def fD(t:Bool)(b:Bool):V->Prop
 | .gd g _=>t=b->g=true
 |_=>True
theorem xg{d:Option Tmp}{ty:TypeId}{pos:String}{af:Array Edge}{gd:Option (Nat×Bool)}{e:Operand->V}(x a b:Operand){t:Bool}{v:V}(h:e x= .b t)(ha:fD t true (e a))(hb:fD t false (e b))(hv:uN t (ug (e a)) (ug (e b))=some v) : aD P ⟨d,.pick x a b,ty,pos,af,gd⟩ e v:= aD.same rfl fun w L ρ g hr=>by
 have h1:=hr x (by simp [Op.operands]);have h2:=hr a (by simp [Op.operands]);have h3:=hr b (by simp [Op.operands]);rw [h]at h1;have hx:=h1.aN;refine⟨if t then g a else g b,by simp [execOp,hx,asBool],?_⟩;have key:∀(q:Bool) (u:V) (y:Value),fD t q u->t=q->R w L ρ u y->R w L ρ (ug u) y:=by intro q u y ho hq hu;refine hu.ug ?_;cases u <;> first |trivial |exact fun _=>ho hq
 obtain⟨x',y',ea,eb,rfl⟩:∃x' y',ug (e a)= .b x'/\ug (e b)= .b y'/\v= .b (cond t x' y'):=by
  revert hv;generalize ug (e a)=A;generalize ug (e b)=B;intro hv;unfold uN at hv;split at hv;·exact⟨true,_,rfl,rfl,by injection hv with hv;rw [<-hv];cases t <;> rfl⟩
  ·exact⟨_,false,rfl,rfl,by injection hv with hv;rw [<-hv];cases t <;> simp⟩
  ·exact⟨_,_,rfl,rfl,by injection hv with hv;exact hv.symm⟩
  ·cases hv
 cases t with
 |true=>have:=key true _ _ ha rfl h2;rw [ea]at this;simpa [this.aN]using R.c ρ (.bool x')
 |false=>have:=key false _ _ hb rfl h3;rw [eb]at this;simpa [this.aN]using R.c ρ (.bool y')
theorem CH{d:Option Tmp}{ty:TypeId}{pos:String}{af:Array Edge}(x a b:Operand){t:Bool}{v:V}(h:ev tm x= .b t)(ha:fD t true (ev tm a))(hb:fD t false (ev tm b))(hv:uN t (ug (ev tm a)) (ug (ev tm b))=some v)
 (hk:bF C ops nx os (eR tm d v) σ (ks++[([],[])]) K):bF C ops nx (⟨d,.pick x a b,ty,pos,af,none⟩::os) tm σ ks K:=
 CI rfl (xg x a b h ha hb hv) hk
end
def qm:IntKind->Int->Prop
 | .i8,n=> -128<=n/\n<=127
 | .i16,n=> -32768<=n/\n<=32767
 | .i32,n=> -2147483648<=n/\n<=2147483647
 | .i64,n=> -9223372036854775808<=n/\n<=9223372036854775807
 | .u8,n=>0<=n/\n<=255
 | .u16,n=>0<=n/\n<=65535
 | .u32,n=>0<=n/\n<=4294967295
 | .u64,n=>0<=n/\n<=18446744073709551615
theorem gu{k:IntKind}{n:Int}(h:qm k n):k.wrap n=n:=by
 cases k <;> simp only [qm]at h
 ·exact IntWalk.i8_in _ h
 ·exact IntWalk.i16_in _ h
 ·exact IntWalk.i32_in _ h
 ·exact IntWalk.i64_in _ h
 ·exact IntWalk.u8_in _ h
 ·exact IntWalk.u16_in _ h
 ·exact IntWalk.u32_in _ h
 ·exact IntWalk.u64_in _ h
theorem Gn{k:IntKind}{a b:Int}(hb:0< b)(h:qm k a):qm k (a.tdiv b):=by
 have h1:0<=a->0<=a.tdiv b/\a.tdiv b<=a:=fun ha=>by rw [Int.tdiv_eq_ediv_of_nonneg ha];exact⟨Int.ediv_nonneg ha oM,Int.ediv_le_self _ ha⟩
 have h2:a< 0->a<=a.tdiv b/\a.tdiv b<=0:=fun ha=>by
  have e:a.tdiv b= -((-a) / b):=by have:=Int.neg_tdiv (a:= -a) (b:=b);rw [Int.neg_neg]at this;rw [this,Int.tdiv_eq_ediv_of_nonneg oM]
  have h3:=Int.ediv_nonneg (a:= -a) (b:=b) oM oM;have h4:=Int.ediv_le_self (a:= -a) b oM;omega
 by_cases ha:0<=a;·have:=h1 ha;cases k <;> simp only [qm]at h ⊢ <;> omega
 ·have:=h2 oM;cases k <;> simp only [qm]at h ⊢ <;> omega
def IM(wr:Bool)(op:BinOp)(k:IntKind)(a b:Int):Option (Prop×V):=
 match op with
  | .add=>if wr then some (True,.c (.int k (k.wrap (a+b))))else some (qm k (a+b),.c (.int k (a+b)))
  | .sub=>if wr then some (True,.c (.int k (k.wrap (a- b))))else some (qm k (a- b),.c (.int k (a- b)))
  | .mul=>if wr then some (True,.c (.int k (k.wrap (a*b))))else some (qm k (a*b),.c (.int k (a*b)))
  | .quo=>if wr then some (b≠0,.c (.int k (k.wrap (a.tdiv b))))else some (0< b/\qm k a,.c (.int k (a.tdiv b)))
  | .rem=>some (b≠0,.c (.int k (a.tmod b)))
  | .eql=>some (True,.b (decide (a=b)))
  | .neq=>some (True,.b (!decide (a=b)))
  | .lss=>some (True,.b (decide (a< b)))
  | .leq=>some (True,.b (decide (a<=b)))
  | .gtr=>some (True,.b (decide (b< a)))
  | .geq=>some (True,.b (decide (b<=a)))
  | .shl=>none
  | .shr=>none
  |op=>some (True,.c (.int k (Fj op k a b)))
def Dc(wr:Bool)(op:BinOp):V->V->Option (Prop×V)
 | .c (.int k a),.c (.int k' b)=>match op with
  | .shl=>if wr then some (0<=b,.c (.int k (k.wrap (a*2 ^ (min b.toNat k.bits)))))else some (0<=b/\b<=k.bits/\qm k (a*2 ^ b.toNat),.c (.int k (a*2 ^ b.toNat)))
  | .shr=>some (0<=b,.c (.int k (a.fdiv (2 ^ (min b.toNat k.bits)))))
  |op=>if k=k' then IM wr op k a b else none
 |_,_=>none
def aI(c:Prop)(v:V):SR:=⟨c,v,[],[],[]⟩
def kZ(T:List TI)(t:Nat)(σ:Nat->Option Ob):V->Option SR
 | .ptr cs=>match iM T t cs with
  |some v=>some ⟨True,v,[],[],[]⟩
  |none=>none
 | .ref id o=>match σ id with
  |some (.box t' cs)=>match iM T t (cs.drop o)with
   |some v=>some ⟨o<=cs.length,v,[(id,.box t' cs)],[],[]⟩
   |none=>none
  |_=>none
 | .oel id sz i o=>match σ id with
  |some (.row e sz' n row)=>match iM T t ((row i).drop o)with
   |some v=>if sz'=sz then some ⟨i< n/\o<=(row i).length,v,[(id,.row e sz' n row)],[],[]⟩else none
   |none=>none
  |_=>none
 |_=>none
def setCells(cs:List V)(o:Nat):List V->List V
 | [u]=>cs.set o u
 |us=>splice cs o us
def iU(T:List TI)(t:Nat)(σ:Nat->Option Ob)(a v:V):Option SR:=
 match bY v with
  |some us=>match a with
   | .ref id o=>match σ id with
    |some (.box t' cs)=>if(T.getD t bE).size=some us.length then some ⟨o+us.length<=cs.length,.any,[(id,.box t' cs)],[],[(id,some (.box t' (setCells cs o us)))]⟩else none
    |_=>none
   | .oel id sz i o=>match σ id with
    |some (.row e sz' n row)=>if(T.getD t bE).size=some us.length/\sz'=sz then some ⟨i< n/\o+us.length<=(row i).length,.any,[(id,.row e sz' n row)],[],[(id,some (.row e sz' n fun j=>if j=i then setCells (row i) o us else row j))]⟩else none
    |_=>none
   |_=>none
  |none=>none
def nG(T:List TI)(t:Nat)(σ:Nat->Option Ob)(x:V)(i:Int):Option SR:=
 match x with
  | .sl sz n row=>match (T.getD t bE).elem with
   |some e=>if(T.getD e bE).size=some sz then some (aI (0<=i/\i< n) (.ptr (row i.toNat)))else none
   |none=>none
  | .ptr cs=>match (T.getD t bE).arr with
   |some (n,e)=>match (T.getD e bE).size with
    |some sz=>some (aI (0<=i/\i< n) (.ptr (cs.drop (i.toNat*sz))))
    |none=>none
   |none=>none
  | .ref id o=>match (T.getD t bE).arr with
   |some (n,e)=>match (T.getD e bE).size with
    |some sz=>some (aI (0<=i/\i< n) (.ref id (o+i.toNat*sz)))
    |none=>none
   |none=>none
  | .own id=>match (T.getD t bE).elem with
   |some e=>match σ id with
    |some (.row e' sz n row)=>if(T.getD e bE).size=some sz then some ⟨0<=i/\i< n,.oel id sz i.toNat 0,[(id,.row e' sz n row)],[],[]⟩else none
    |_=>none
   |none=>none
  |_=>none
def mS(T:List TI)(e sz:Nat)(zs:List V):Bool:=decide ((T.getD e bE).size=some sz) && decide (zs.length=sz) && decide (0< sz) && (match (T.getD e bE).bytes with |some b=>decide (b<=128) |none=>false)
theorem iJ{T:List TI}{e sz:Nat}{zs:List V}(h:mS T e sz zs=true):(T.getD e bE).size=some sz/\zs.length=sz/\0< sz/\∃b,(T.getD e bE).bytes=some b/\b<=128:=by
 simp only [mS,Bool.and_eq_true,decide_eq_true_eq]at h;obtain⟨⟨⟨h1,h2⟩,h3⟩,h4⟩:=h;refine⟨h1,h2,h3,?_⟩;split at h4;·exact⟨_,by assumption,by simpa using h4⟩
 ·cases h4
def ni(T:List TI)(t id:Nat)(σ:Nat->Option Ob)(s x:V):Option SR:=
 match (T.getD t bE).elem with
  |some e=>match (T.getD e bE).zero with
   |some zs=>match x with
    | .sl sz m row=>if mS T e sz zs then match s with
     | .nil=>some ⟨m<=1099511627776,.own id,[],[id],[(id,some (.row e sz m row))]⟩
     | .own id0=>match σ id0 with
      |some (.row e' sz' n row0)=>if e'=e/\sz'=sz/\id≠id0 then some ⟨n+m<=1099511627776,.own id,[(id0,.row e' sz' n row0)],[id],[(id0,none),(id,some (.row e' sz' (n+m) (aF n row0 row)))]⟩else none
      |_=>none
     |_=>none
      else none
    | .osl id1 sz o m=>match σ id1 with
     |some (.row e1 sz1 n1 fR)=>if mS T e sz zs=true/\sz1=sz then match s with
      | .nil=>some ⟨m<=1099511627776/\o+m<=n1/\∀i u,u∈fR i->u.BW=true,.own id,[(id1,.row e1 sz1 n1 fR)],[id],[(id,some (.row e sz m fun i=>fR (i+o)))]⟩
      | .own id0=>match σ id0 with
       |some (.row e' sz' n row0)=>if e'=e/\sz'=sz/\id≠id0 then some ⟨n+m<=1099511627776/\o+m<=n1/\∀i u,u∈fR i->u.BW=true,.own id,[(id0,.row e' sz' n row0),(id1,.row e1 sz1 n1 fR)],[id],[(id0,none),(id,some (.row e' sz' (n+m) (aF n row0 fun i=>fR (i+o))))]⟩else none
       |_=>none
      |_=>none
       else none
     |_=>none
    | .own id1=>match σ id1 with
     |some (.row e1 sz1 n1 fR)=>if mS T e sz1 zs=true then match s with
      | .nil=>some ⟨n1<=1099511627776,.own id,[(id1,.row e1 sz1 n1 fR)],[id],[(id,some (.row e sz1 n1 fR))]⟩
      | .own id0=>match σ id0 with
       |some (.row e' sz' n row0)=>if e'=e/\sz'=sz1/\id≠id0 then some ⟨n+n1<=1099511627776,.own id,[(id0,.row e' sz' n row0),(id1,.row e1 sz1 n1 fR)],[id],[(id0,none),(id,some (.row e' sz' (n+n1) (aF n row0 fR)))]⟩else none
       |_=>none
      |_=>none
       else none
     |_=>none
    |_=>none
   |none=>none
  |none=>none
def B5(T:List TI)(t:Nat)(σ:Nat->Option Ob):V->Option SR
 | .sl _ n _=>match (T.getD t bE).elem with
  |some _=>some (aI True (.i n))
  |none=>none
 | .nil=>match (T.getD t bE).elem with
  |some _=>some (aI True (.i 0))
  |none=>none
 | .own id=>match (T.getD t bE).elem with
  |some _=>match σ id with
   |some (.row e' sz n row)=>some ⟨True,.i n,[(id,.row e' sz n row)],[],[]⟩
   |_=>none
  |none=>none
 |_=>none
def mY(e:Operand->V):Option Operand->Option Int
 |none=>some 0
 |some y=>match e y with
  | .c (.int _ a)=>some a
  |_=>none
def kn(e:Operand->V)(n:Nat):Option Operand->Option Int
 |none=>some n
 |some y=>match e y with
  | .c (.int _ a)=>some a
  |_=>none
theorem Cs{P:Program}{ev:Operand->V}{g:Operand->Value}{w:World}{L:Nat->Prop}{ρ:Nat->Option Value}(t:Nat)(x:Operand)(lo hi:Option Operand){sz n el:Nat}{l h:Int}{A:Option Addr}{c:Nat}(he:dw P t=some el)(hs:cc P el=some sz) (hl:mY ev lo=some l) (hh:kn ev n hi=some h) (hc:0<=l/\l<=h/\h<=n) (hr:∀y∈(Op.slice t x lo hi none).operands,R w L ρ (ev y) (g y)) (e1:g x= .slice A n c) (hcap:n<=c) : (Instr.sliceAt t (g x) (lo.map g) (hi.map g) none).run P w= .ok (sliced A l.toNat h.toNat c sz) w:=by
 have hu:=bM he;have hel:P.elem t=el:=by simp [Program.elem,hu]
 have hu':P.underlying t=some (.slice (P.elem t)):=by rw [hel];exact hu
 have hlo:∀y,lo=some y->∃k,g y= .int k l:=by
  rintro y rfl;have h2:=hr y (by simp [Op.operands]);simp only [mY]at hl;split at hl;·rename_i k a ea;injection hl with hl;subst hl;rw [ea]at h2;exact⟨k,h2.aN⟩
  ·cases hl
 have hhi:∀y,hi=some y->∃k,g y= .int k h:=by
  rintro y rfl;have h2:=hr y (by simp [Op.operands]);simp only [kn]at hh;split at hh;·rename_i k a ea;injection hh with hh;subst hh;rw [ea]at h2;exact⟨k,h2.aN⟩
  ·cases hh
 rw [run_sliceAt_slice w t (g x) _ _ _ hu',e1];have hsz:(sizeOf (P.elem t)).run P w= .ok sz w:=by rw [hel];exact bO hs w
 cases lo with
 |none=>
  simp only [mY,Option.some.injEq]at hl;subst hl;cases hi with
  |none=>simp only [kn,Option.some.injEq]at hh;subst hh;simp only [Option.map_none];rw [run_slice_all w t A n c hu',hsz];rfl
  |some y=>obtain⟨k,ey⟩:=hhi y rfl;simp only [Option.map_none,Option.map_some,ey];rw [run_slice_h w t A n c hu' k h oM oM,hsz];rfl
 |some z=>
  obtain⟨k',ez⟩:=hlo z rfl;cases hi with
  |none=>simp only [kn,Option.some.injEq]at hh;subst hh;simp only [Option.map_none,Option.map_some,ez];rw [run_slice_l w t A n c hu' k' l oM oM,hsz];rfl
  |some y=>obtain⟨k,ey⟩:=hhi y rfl;simp only [Option.map_some,ey,ez];rw [run_slice_lh w t A n c hu' k' k l h oM oM oM,hsz];rfl
theorem E9{P:Program}{d:Option Tmp}{ty:TypeId}{pos:String}{af:Array Edge}{gd:Option (Nat×Bool)}{ev:Operand->V}(t:Nat)(x:Operand)(lo hi:Option Operand){sz n el:Nat}{row:Nat->List V}{l h:Int}(he:dw P t=some el)(hs:cc P el=some sz)(hx:ev x= .sl sz n row) (hl:mY ev lo=some l) (hh:kn ev n hi=some h) (hc:0<=l/\l<=h/\h<=n):aD P ⟨d,.slice t x lo hi none,ty,pos,af,gd⟩ ev (.sl sz (h.toNat- l.toNat) fun i=>row (i+l.toNat)):= aD.same rfl fun w L ρ g hr=>by
 have h1:=hr x (by simp [Op.operands]);rw [hx]at h1;obtain⟨A,c,e1,hA⟩:=h1.jg;have hcap:n<=c:=by rw [e1]at h1;exact h1.wB
 have hu:=bM he;have hel:P.elem t=el:=by simp [Program.elem,hu]
 have hu':P.underlying t=some (.slice (P.elem t)):=by rw [hel];exact hu
 have hlo:∀y,lo=some y->∃k,g y= .int k l:=by
  rintro y rfl;have h2:=hr y (by simp [Op.operands]);simp only [mY]at hl;split at hl;·rename_i k a ea;injection hl with hl;subst hl;rw [ea]at h2;exact⟨k,h2.aN⟩
  ·cases hl
 have hhi:∀y,hi=some y->∃k,g y= .int k h:=by
  rintro y rfl;have h2:=hr y (by simp [Op.operands]);simp only [kn]at hh;split at hh;·rename_i k a ea;injection hh with hh;subst hh;rw [ea]at h2;exact⟨k,h2.aN⟩
  ·cases hh
 have run:(Instr.sliceAt t (g x) (lo.map g) (hi.map g) none).run P w= .ok (sliced A l.toNat h.toNat c sz) w:=by
  rw [run_sliceAt_slice w t (g x) _ _ _ hu',e1];have hsz:(sizeOf (P.elem t)).run P w= .ok sz w:=by rw [hel];exact bO hs w
  cases lo with
  |none=>
   simp only [mY,Option.some.injEq]at hl;subst hl;cases hi with
   |none=>simp only [kn,Option.some.injEq]at hh;subst hh;simp only [Option.map_none];rw [run_slice_all w t A n c hu',hsz];rfl
   |some y=>obtain⟨k,ey⟩:=hhi y rfl;simp only [Option.map_none,Option.map_some,ey];rw [run_slice_h w t A n c hu' k h oM oM,hsz];rfl
  |some z=>
   obtain⟨k',ez⟩:=hlo z rfl;cases hi with
   |none=>simp only [kn,Option.some.injEq]at hh;subst hh;simp only [Option.map_none,Option.map_some,ez];rw [run_slice_l w t A n c hu' k' l oM oM,hsz];rfl
   |some y=>obtain⟨k,ey⟩:=hhi y rfl;simp only [Option.map_some,ey,ez];rw [run_slice_lh w t A n c hu' k' k l h oM oM oM,hsz];rfl
 refine⟨sliced A l.toNat h.toNat c sz,by simp [execOp,run],R.HE oM fun hpos=> ?_⟩;obtain⟨b,o,rfl,hb,hlen,hcell⟩:=hA oM;refine⟨b,o+l.toNat*sz,?_,hb,fun i hi=>hlen _ oM,fun i j u hi hu=> ?_⟩;·rw [if_neg oM];simp [Addr.add_lit]
 ·have:=hcell (i+l.toNat) j u oM hu;rwa [show o+l.toNat*sz+i*sz+j=o+(i+l.toNat)*sz+j by rw [Nat.add_mul];omega]
theorem C8{P:Program}{d:Option Tmp}{ty:TypeId}{pos:String}{af:Array Edge}{gd:Option (Nat×Bool)}{ev:Operand->V}{W LB:Nat->Prop}(t:Nat)(x:Operand)(lo hi:Option Operand){sz n el e' id:Nat}{row:Nat->List V}{l h:Int}(he:dw P t=some el)(hs:cc P el=some sz)(hx:ev x= .own id) (hl:mY ev lo=some l) (hh:kn ev n hi=some h) (hc:0<=l/\l<=h/\h<=n/\0< n):aU P W LB ⟨d,.slice t x lo hi none,ty,pos,af,gd⟩ ev (.osl id sz l.toNat (h.toNat- l.toNat)) [(id,.row e' sz n row)] [] []:=by
 intro σ w L ρ g hG hr hpre _;have h1:=hr x (by simp [Op.operands]);rw [hx]at h1;have hρ:=h1.cX;obtain⟨v,xs,hv,hown,_⟩:=hG.ob id _ (hpre _ (List.Mem.head _));rw [hρ]at hv;injection hv with hv
 rcases hown.2 with⟨_,h0⟩ | ⟨g',cap,cur,hv2,_,_,hcap,_⟩;·omega
 rw [hv2]at hv;have e1:g x= .slice (some ⟨g',0,none⟩) n cap:=hv;have run:=Cs (ev:=ev) (g:=g) (w:=w) (L:=L) (ρ:=ρ) t x lo hi he hs hl hh ⟨hc.1,hc.2.1,hc.2.2.1⟩ hr e1 hcap;obtain⟨A,hA,hA2⟩:∃A,sliced (some ⟨g',0,none⟩) l.toNat h.toNat cap sz= .slice A (h.toNat- l.toNat) (cap- l.toNat)/\(0< h.toNat- l.toNat->A=some ⟨g',l.toNat*sz,none⟩):=by refine⟨_,rfl,fun hp=> ?_⟩;rw [if_neg oM];simp [Addr.add_lit]
 refine bk.value rfl (v:=sliced (some ⟨g',0,none⟩) l.toNat h.toNat cap sz) (w':=w) ?_ ⟨L,ρ,hG,?_,aZ.refl _ _,Ext.refl _ _ _,fun _ _=>rfl,dM.refl _ _⟩;·simp [execOp,run]
 ·rw [hA];exact .osl _ _ _ _ _ _ n cap _ _ (by rw [hρ,e1]) oM hA2
theorem Da{P:Program}{d:Option Tmp}{ty:TypeId}{pos:String}{af:Array Edge}{gd:Option (Nat×Bool)}{ev:Operand->V}{W LB:Nat->Prop}(t:Nat)(x:Operand)(lo hi:Option Operand){sz n el e' id0:Nat}{row:Nat->List V}{l h:Int}(he:dw P t=some el)(hs:cc P el=some sz)(hx:ev x= .own id0)
    (hl:mY ev lo=some l) (hl0:l=0) (hh:kn ev n hi=some h) (hc:0<=l/\l<=h/\h<=n/\0< n) (id:Nat) (hne:id≠id0):aU P W LB ⟨d,.slice t x lo hi none,ty,pos,af,gd⟩ ev (.own id) [(id0,.row e' sz n row)] [id] [(id0,none),(id,some (.row e' sz h.toNat row))]:=by
  intro σ w L ρ g hG hr hpre hn
  have h1:=hr x (by simp [Op.operands])
  rw [hx]at h1
  have hρ:=h1.cX
  have hσ:=hpre _ (List.Mem.head _)
  obtain⟨v,xs,hv,hown,hrs,hlr,hbl⟩:=hG.ob id0 _ hσ
  rw [hρ]at hv;injection hv with hv
  rcases hown.2 with⟨_,h0⟩ | ⟨g',cap,cur,hv2,hg0,hcur,hcap,hmx,hcs,htk⟩
  · omega
  have e1:g x= .slice (some ⟨g',0,none⟩) n cap:=hv.trans hv2
  have run:=Cs (ev:=ev) (g:=g) (w:=w) (L:=L) (ρ:=ρ) t x lo hi he hs hl hh ⟨hc.1,hc.2.1,hc.2.2.1⟩ hr e1 hcap
  have hsl:sliced (some ⟨g',0,none⟩) l.toNat h.toNat cap sz= .slice (some ⟨g',0,none⟩) h.toNat cap:=by
    subst hl0
    unfold sliced
    have:cap≠0:=by omega
    simp [Addr.add_lit,this]
  have hidn:=hn id (by simp)
  have hlt:=(Array.getElem?_eq_some_iff.1 hcur).1
  have hW:=hbl g' (by rw [hv2];rfl)
  obtain⟨hG',ex⟩:=hG.put (w':=w) (σ1:=bL σ id0 none) (ρ':=bL ρ id (some (.slice (some ⟨g',0,none⟩) h.toNat cap))) (ch:=some g') (World.grownBy.refl _ _) (fun k hk=>by injection hk with hk;subst hk;exact hW) id (.slice (some ⟨g',0,none⟩) h.toNat cap) (.row e' sz h.toNat row) (fun i o hi ho=>by
      by_cases h0:i=id0
      · subst h0;rw [ak]at ho;cases ho
      · rw [ah _ _ h0]at ho
        refine⟨ho,fun y hy k hk hky=> ?_⟩
        injection hk with hk;subst hk
        exact hG.sep i id0 y _ _ h0 (by rw [ho];simp) (by rw [hσ];simp) hy hρ hky (by rw [e1];rfl)) (fun i hi=>ah _ _ hi) (ak _ _ _) (.inl hidn)
    (fun k hk=> .inl (by simp [blk]at hk;rw [hk])) (fun ex=>by
      refine⟨.slice (some ⟨g',0,none⟩) h.toNat cap,xs.take (h.toNat*sz),ak _ _ _,⟨?_,.inr ⟨g',cap,cur,rfl,hg0,hcur,by omega,hmx,hcs,?_⟩⟩,fun i hi=>hrs i oM,?_,fun k hk=> ?_⟩
      · have h2:h.toNat*sz<=n*sz:=Nat.mul_le_mul_right _ oM
        rw [List.length_take,hown.1];omega
      · have h2:h.toNat*sz<=n*sz:=Nat.mul_le_mul_right _ oM
        rw [<-htk,List.take_take,Nat.min_eq_left h2]
      · have h5:=(hlr.ext ex).sub 0 (h.toNat*sz)
        simp only [List.drop_zero]at h5
        have e5:(aE n row).flatten.take (h.toNat*sz)=(aE h.toNat row).flatten:=by
          obtain⟨q,hq⟩:=Nat.le.dest (show h.toNat<=n by omega)
          have hlen:(aE h.toNat row).flatten.length=h.toNat*sz:=by
            rw [cR (sz:=sz)]
            · simp [aE]
            · exact cq fun i hi=>hrs i oM
          have e6:aE n row=aE h.toNat row++aE q fun j=>row (j+h.toNat):=by
            rw [<-hq,<-sQ]
            refine List.map_congr_left fun j _=> ?_
            unfold aF
            split
            · rfl
            · show row j=row (j- h.toNat+h.toNat)
              rw [Nat.sub_add_cancel oM]
          rw [e6,List.flatten_append,List.take_append_of_le_length (by rw [hlen];exact Nat.le_refl _),List.take_of_length_le (by rw [hlen];exact Nat.le_refl _)]
        rw [<-e5];exact h5
      · simp [blk]at hk;subst hk;exact hW)
  refine bk.value rfl (v:= .slice (some ⟨g',0,none⟩) h.toNat cap) (w':=w) ?_ ⟨L,_,hG',.own _ _ _ (ak _ _ _) rfl,aZ.refl _ _,ex,fun i hi=>ah _ _ (by simpa using hi),dM.refl _ _⟩
  rw [<-hsl]
  simp [execOp,run]
def Ai:List V->List V->Option (List Bool×Bool)
 | [],[]=>some ([],true)
 | .c (.int k a)::l,.c (.int k' b)::m=>if k=k' then(match Ai l m with |some r=>some (false::r.1,decide (a=b) && r.2) |none=>none)else none
 | .c (.bool a)::l,.c (.bool b)::m=>match Ai l m with |some r=>some (true::r.1,(a == b) && r.2) |none=>none
 |_,_=>none
theorem RL.vH{w:World}{L:Nat->Prop}{ρ:Nat->Option Value}{v:Value}{l:List V}{xs:List Value}(h:RL w L ρ (.c v::l) xs):∃ys,xs=v::ys/\RL w L ρ l ys:=by
 match xs,h with
 | [],h=>have:=h.1;simp at this
 |x::xs,h=>have h0:=(h.2 0 _ x rfl rfl).1.aN;subst h0;exact⟨xs,rfl,by have:=h.1;simpa using this,fun i u z hu hz=>h.2 (i+1) u z (by simpa using hu) (by simpa using hz)⟩
theorem oG{w:World}{L:Nat->Prop}{ρ:Nat->Option Value}:∀ {l m:List V}{xs ys:List Value}{r:List Bool×Bool},Ai l m=some r->RL w L ρ l xs->RL w L ρ m ys->nh r.1 xs ys/\qh xs ys=r.2
 | [],[],xs,ys,r,h,hx,hy=>by simp [Ai]at h;subst h;have h1:xs=[]:=List.length_eq_zero_iff.1 (by have:=hx.1;simpa using this.symm);have h2:ys=[]:=List.length_eq_zero_iff.1 (by have:=hy.1;simpa using this.symm);subst h1 h2;exact⟨trivial,rfl⟩
 | .c (.int k a)::l,.c (.int k' b)::m,xs,ys,r,h,hx,hy=>by
  obtain⟨xs,rfl,hx1⟩:=hx.vH;obtain⟨ys,rfl,hy1⟩:=hy.vH;simp only [Ai]at h;split at h;case isFalse=>cases h
  rename_i hk;subst hk;split at h;·rename_i r' hr;injection h with h;subst h;obtain⟨q1,q2⟩:=oG hr hx1 hy1;exact⟨⟨rfl,q1⟩,by simp only [qh,q2];congr 1⟩
  ·cases h
 | .c (.bool a)::l,.c (.bool b)::m,xs,ys,r,h,hx,hy=>by
  obtain⟨xs,rfl,hx1⟩:=hx.vH;obtain⟨ys,rfl,hy1⟩:=hy.vH;simp only [Ai]at h;split at h;·rename_i r' hr;injection h with h;subst h;obtain⟨q1,q2⟩:=oG hr hx1 hy1;exact⟨q1,by simp only [qh,q2]⟩
  ·cases h
def I3(T:List TI)(op:BinOp)(t:Nat)(u v:V):Option SR:=match u,v with
 | .agg l,.agg m=>match (T.getD t bE).tC with
  |some n=>match Ai l m with
   |some r=>if n=mX r.1 then(match op with
    | .eql=>some (aI True (.b r.2))
    | .neq=>some (aI True (.b (!r.2)))
    |_=>none)else none
   |none=>none
  |none=>none
 |_,_=>none
def qN(T:List TI)(M:List Nat)(nx:Nat)(d:Option Tmp)(e:Operand->V)(σ:Nat->Option Ob)(t:Nat)(x:Operand)(lo hi:Option Operand):Option SR:=
  match e x with
  | .own id=>match (T.getD t bE).elem with
    |some el=>match σ id with
      |some (.row e' sz n row)=>if(T.getD el bE).size=some sz then match mY e lo,kn e n hi with
          |some l,some h=>if M.contains (d.getD 0)=true then(if l=0/\nx*100000+d.getD 0≠id/\d≠none then
              some ⟨0<=l/\l<=h/\h<=n/\0< n,.own (nx*100000+d.getD 0),[(id,.row e' sz n row)],[nx*100000+d.getD 0],[(id,none),(nx*100000+d.getD 0,some (.row e' sz h.toNat row))]⟩else none)
            else some ⟨0<=l/\l<=h/\h<=n/\0< n,.osl id sz l.toNat (h.toNat- l.toNat),[(id,.row e' sz n row)],[],[]⟩
          |_,_=>none
        else none
      |_=>none
    |none=>none
  | .sl sz n row=>match (T.getD t bE).elem with
    |some el=>if(T.getD el bE).size=some sz then match mY e lo,kn e n hi with
        |some l,some h=>some (aI (0<=l/\l<=h/\h<=n) (.sl sz (h.toNat- l.toNat) fun i=>row (i+l.toNat)))
        |_,_=>none
      else none
    |none=>none
  |_=>none
def BD(T:List TI)(wr:Bool)(M:List Nat)(nx:Nat)(o:Oper)(e:Operand->V)(σ:Nat->Option Ob):Option SR:=
 match o.op with
  | .move x=>some (aI True (e x))
  | .assign x=>some (aI True (e x))
  | .extract x i=>match e x with
   | .tup cs=>match cs[i]? with
    |some v=>some (aI True v)
    |none=>none
   |_=>none
  | .binOp op t x y _=>match Dc wr op (e x) (e y)with
   |some (c,v)=>some (aI c v)
   |none=>I3 T op t (e x) (e y)
  | .unOp .not _ x=>match e x with
   | .c (.bool b)=>some (aI True (.b (!b)))
   |_=>none
  | .unOp .neg _ x=>match e x with
   | .c (.int k a)=>if wr then some (aI True (.c (.int k (k.wrap (0- a)))))else some (aI (qm k (-a)) (.c (.int k (-a))))
   |_=>none
  | .convert s t x=>match e x with
   | .c (.int _ a)=>match (T.getD t bE).kind with
    |some k=>if(T.getD s bE).some'=true then(if wr then some (aI True (.c (.int k (k.wrap a))))else some (aI (qm k a) (.c (.int k a))))else none
    |none=>none
   |_=>none
  | .fieldAddr s x f=>match ((T.getD s bE).fI[f]?).join with
   |some off=>match e x with
    | .ptr cs=>some (aI True (.ptr (cs.drop off)))
    | .ref id o=>some (aI True (.ref id (o+off)))
    | .oel id sz i o=>some (aI True (.oel id sz i (o+off)))
    |_=>none
   |none=>none
  | .indexAddr t x ix=>match e ix with
   | .c (.int _ i)=>nG T t σ (e x) i
   |_=>none
  | .load t x=>kZ T t σ (e x)
  | .store t x y=>iU T t σ (e x) (e y)
  | .slice t x lo hi mx=>match mx with
   |none=>qN T M nx o.dst e σ t x lo hi
   |some _=>none
  | .alloc t=>match (T.getD t bE).zero with
   |some zs=>some ⟨True,.ref (nx*100000+o.dst.getD 0) 0,[],[nx*100000+o.dst.getD 0],[(nx*100000+o.dst.getD 0,some (.box t zs))]⟩
   |none=>none
  | .box t y=>match bY (e y)with
   |some us=>if M.contains (o.dst.getD 0)then some ⟨True,.ref (nx*100000+o.dst.getD 0) 0,[],[nx*100000+o.dst.getD 0],[(nx*100000+o.dst.getD 0,some (.box t us))]⟩
    else if V.bA us=true then some (aI True (.ptr us))else none
   |none=>none
  | .build t parts=>match (T.getD t bE).zero,(T.getD t bE).pl with
   |some zs,some pl=>match iq (pl[·]?) zs (parts.toList.map fun p=>(p.1,e p.2))with
    |some us=>some (aI True (.agg us))
    |none=>none
   |_,_=>none
  | .buildSlice t n parts=>match (T.getD t bE).elem with
   |some el=>match (T.getD el bE).zero,(T.getD el bE).size with
    |some zs,some sz=>match iq (fun i=>some (i*sz,sz)) (l7 n zs) (parts.toList.map fun p=>(p.1,e p.2))with
     |some cs=>if zs.length=sz/\0< sz/\n*sz<=4096/\cs.length=n*sz then(if M.contains (o.dst.getD 0)then
      some ⟨True,.own (nx*100000+o.dst.getD 0),[],[nx*100000+o.dst.getD 0],[(nx*100000+o.dst.getD 0,some (.row el sz n fun i=>(cs.drop (i*sz)).take sz))]⟩
      else if V.bA cs=true then some (aI True (.sl sz n fun i=>(cs.drop (i*sz)).take sz))else none)else none
     |none=>none
    |_,_=>none
   |none=>none
  | .makeSlice t x y=>match e x,e y with
   | .c (.int _ l),.c (.int _ c)=>match (T.getD t bE).elem with
    |some el=>match (T.getD el bE).zero,(T.getD el bE).size with
     |some zs,some sz=>if mS T el sz zs then some ⟨0<=l/\l<=c/\c<=1099511627776,.own (nx*100000+o.dst.getD 0),[],[nx*100000+o.dst.getD 0],[(nx*100000+o.dst.getD 0,some (.row el sz l.toNat fun _=>zs))]⟩else none
     |_,_=>none
    |none=>none
   |_,_=>none
  | .makeFunc f first caps=>some (aI True (.fn f (first.toList.map e) (caps.toList.map e)))
  | .call c=>match c.callee with
   | .builtin .len=>match c.args,c.argTypes with
    | ⟨[x]⟩,⟨[t]⟩=>B5 T t σ (e x)
    |_,_=>none
   | .builtin .append=>match c.args,c.argTypes with
    | ⟨[s,x]⟩,⟨[t,t']⟩=>match ni T t (nx*100000+o.dst.getD 0) σ (e s) (e x)with
     |some r=>if t'=t/\o.type=t then some r else none
     |none=>none
    |_,_=>none
   | .builtin .max=>match c.args with
    | ⟨[x,y]⟩=>match e x,e y with
     | .c (.int k a),.c (.int k' b)=>if k=k' then some (aI True (.c (.int k (max a b))))else none
     |_,_=>none
    | ⟨[x,y,z]⟩=>match e x,e y,e z with
     | .c (.int k a),.c (.int k' b),.c (.int k'' q)=>if k=k'/\k=k'' then some (aI True (.c (.int k (max (max a b) q))))else none
     |_,_,_=>none
    | ⟨[x,y,z,u]⟩=>match e x,e y,e z,e u with
     | .c (.int k a),.c (.int k' b),.c (.int k'' q),.c (.int k3 p)=>if k=k'/\k=k''/\k=k3 then some (aI True (.c (.int k (max (max (max a b) q) p))))else none
     |_,_,_,_=>none
    |_=>none
   | .builtin .min=>match c.args with
    | ⟨[x,y]⟩=>match e x,e y with
     | .c (.int k a),.c (.int k' b)=>if k=k' then some (aI True (.c (.int k (min a b))))else none
     |_,_=>none
    |_=>none
   |_=>none
  |_=>none
section
variable {T:List TI}{P:Program}(hT:aK T P){W LB:Nat->Prop}{wr:Bool}{M:List Nat}{nx:Nat}{σ:Nat->Option Ob}{r:SR}{d:Option Tmp}{ty:TypeId}{pos:String}{af:Array Edge}{gd:Option (Nat×Bool)}{e:Operand->V}
def iI(P:Program)(W LB:Nat->Prop)(nx:Nat)(σ:Nat->Option Ob)(o:Oper)(e:Operand->V)(r:SR):Prop:= aU P W LB o e r.v r.pre r.nw r.δ/\(∀p∈r.pre,σ p.1=some p.2)/\(r.nw=[]\/∃t,o.dst=some t/\r.nw=[nx*100000+t])
def wC:Op->Prop
 | .store _ _ _=>True
 | .insert _ _ _ _=>True
 | .mapUpdate _ _ _ _=>True
 |_=>False
theorem iI.pure{o:Oper}{c:Prop}{v:V}(h:aD P o e v):iI P W LB nx σ o e (aI c v):=⟨h.step,by simp [aI],.inl rfl⟩
theorem zT(op:BinOp)(t t':TypeId)(x y:Operand){k:IntKind}{a b:Int}(ex:e x= .c (.int k a))(ey:e y= .c (.int k b)){c:Prop}{v:V}(h:IM wr op k a b=some (c,v))(hc:c):aD P ⟨d,.binOp op t x y t',ty,pos,af,gd⟩ e v:=by
 have base:=fun(op:BinOp) (hq:(xy op k a b).1)=>Iu (P:=P) (d:=d) (ty:=ty) (pos:=pos) (af:=af) (gd:=gd) op t t' x y ex ey hq;unfold IM at h;cases op <;> simp only at h
 case add=>
  cases wr
  ·simp only [Bool.false_eq_true,if_false,Option.some.injEq,Prod.mk.injEq]at h;obtain⟨rfl,rfl⟩:=h;have:=base .add trivial;simp only [xy]at this;rwa [gu hc]at this
  ·simp only [if_true,Option.some.injEq,Prod.mk.injEq]at h;obtain⟨rfl,rfl⟩:=h;exact base .add trivial
 case sub=>
  cases wr
  ·simp only [Bool.false_eq_true,if_false,Option.some.injEq,Prod.mk.injEq]at h;obtain⟨rfl,rfl⟩:=h;have:=base .sub trivial;simp only [xy]at this;rwa [gu hc]at this
  ·simp only [if_true,Option.some.injEq,Prod.mk.injEq]at h;obtain⟨rfl,rfl⟩:=h;exact base .sub trivial
 case mul=>
  cases wr
  ·simp only [Bool.false_eq_true,if_false,Option.some.injEq,Prod.mk.injEq]at h;obtain⟨rfl,rfl⟩:=h;have:=base .mul trivial;simp only [xy]at this;rwa [gu hc]at this
  ·simp only [if_true,Option.some.injEq,Prod.mk.injEq]at h;obtain⟨rfl,rfl⟩:=h;exact base .mul trivial
 case quo=>
  cases wr
  ·simp only [Bool.false_eq_true,if_false,Option.some.injEq,Prod.mk.injEq]at h;obtain⟨rfl,rfl⟩:=h;have:=base .quo (by show b≠0;omega);simp only [xy]at this;rwa [gu (Gn hc.1 hc.2)]at this
  ·simp only [if_true,Option.some.injEq,Prod.mk.injEq]at h;obtain⟨rfl,rfl⟩:=h;exact base .quo hc
 case shl=>cases h
 case shr=>cases h
 all_goals
  simp only [Option.some.injEq,Prod.mk.injEq]at h
  obtain⟨rfl,rfl⟩:=h
  exact base _ hc
theorem zU(op:BinOp)(t t':TypeId)(x y:Operand){c:Prop}{v:V}(h:Dc wr op (e x) (e y)=some (c,v))(hc:c):aD P ⟨d,.binOp op t x y t',ty,pos,af,gd⟩ e v:=by
 unfold Dc at h;split at h
 ·rename_i k a k' b ex ey;split at h
  ·split at h;·simp only [Option.some.injEq,Prod.mk.injEq]at h;obtain⟨rfl,rfl⟩:=h;exact E8 t t' x y ex ey hc
   ·simp only [Option.some.injEq,Prod.mk.injEq]at h;obtain⟨rfl,rfl⟩:=h;have:=E8 (P:=P) (d:=d) (ty:=ty) (pos:=pos) (af:=af) (gd:=gd) t t' x y ex ey hc.1;rwa [Nat.min_eq_left (by have:=hc.2.1;omega),gu hc.2.2]at this
  ·simp only [Option.some.injEq,Prod.mk.injEq]at h;obtain⟨rfl,rfl⟩:=h;exact Lz t t' x y ex ey hc
  ·split at h;·rename_i hk;subst hk;exact zT _ t t' x y ex ey h hc
   ·cases h
 ·cases h
include hT in
theorem v8(t:TypeId)(x:Operand)(h:kZ T t σ (e x)=some r)(hc:r.c):iI P W LB nx σ ⟨d,.load t x,ty,pos,af,gd⟩ e r:=by
 unfold kZ at h;split at h
 ·rename_i cs ex;split at h
  ·rename_i v hv;injection h with h;subst h;refine⟨aD.step ?_,by simp,.inl rfl⟩;unfold iM at hv;split at hv;·exact E2 t x (hT.agg (by assumption)) ex hv
   ·split at hv
    ·split at hv;·injection hv with hv;subst hv;exact E3 t x (hT.agg (by assumption)) (hT.size (by assumption)) ex (by assumption)
     ·cases hv
    ·cases hv
   ·cases hv
  ·cases h
 ·rename_i id o ex;split at h
  ·rename_i t' cs hσ;split at h
   ·rename_i v hv;injection h with h;subst h;refine⟨?_,by simpa using hσ,.inl rfl⟩;unfold iM at hv;split at hv;·exact C6 t x (hT.agg (by assumption)) ex (by simpa using hv)
    ·split at hv
     ·split at hv;·rename_i n _ hle;injection hv with hv;subst hv;rw [List.length_drop]at hle;exact C7 t x (hT.agg (by assumption)) (hT.size (by assumption)) ex (by have:o<=cs.length:=hc;omega)
      ·cases hv
     ·cases hv
    ·cases hv
   ·cases h
  ·cases h
 ·rename_i id sz i o ex;split at h
  ·rename_i el sz' n row hσ;split at h
   ·rename_i v hv;split at h;case isFalse=>cases h
    rename_i hsz;injection h with h;subst h;subst hsz;obtain⟨h1,h3⟩:=hc;refine⟨?_,by simpa using hσ,.inl rfl⟩;unfold iM at hv;split at hv;·exact C4 t x (hT.agg (by assumption)) ex h1 (by simpa using hv)
    ·split at hv
     ·split at hv;·rename_i m _ hle;injection hv with hv;subst hv;rw [List.length_drop]at hle;exact C5 t x (hT.agg (by assumption)) (hT.size (by assumption)) ex h1 oM
      ·cases hv
     ·cases hv
    ·cases hv
   ·cases h
  ·cases h
 ·cases h
theorem qd{cs:List V}{o:Nat}{us:List V}(h:o+us.length<=cs.length):setCells cs o us=splice cs o us:=by
 unfold setCells;split;·exact(A6 _ _ _ (by simp at h;omega)).symm
 ·rfl
include hT in
theorem t7(t:TypeId)(x y:Operand)(h:iU T t σ (e x) (e y)=some r)(hc:r.c):iI P W LB nx σ ⟨d,.store t x y,ty,pos,af,gd⟩ e r:=by
 unfold iU at h;split at h
 ·rename_i us hus;split at h
  ·rename_i id o ex;split at h
   ·rename_i t' cs hσ;split at h;case isFalse=>cases h
    rename_i h1;injection h with h;subst h;have h2:o+us.length<=cs.length:=hc;refine⟨?_,by simpa using hσ,.inl rfl⟩;simp only [qd h2];exact ou t x y ex rfl hus (hT.size h1) h2
   ·cases h
  ·rename_i id sz i o ex;split at h
   ·rename_i el sz' n row hσ;split at h;case isFalse=>cases h
    rename_i hh;obtain⟨h1,rfl⟩:=hh;injection h with h;subst h;obtain⟨h2,h4⟩:=hc;refine⟨?_,by simpa using hσ,.inl rfl⟩;simp only [qd h4];exact C9 t x y ex rfl hus (hT.size h1) h2 h4
   ·cases h
  ·cases h
 ·cases h
include hT in
theorem tP(t:TypeId)(x ix:Operand){k:IntKind}{i:Int}(ei:e ix= .c (.int k i))(h:nG T t σ (e x) i=some r)(hc:r.c):iI P W LB nx σ ⟨d,.indexAddr t x ix,ty,pos,af,gd⟩ e r:=by
 unfold nG at h;split at h
 ·rename_i sz n row ex;split at h
  ·split at h;·rename_i hs;injection h with h;subst h;exact .pure (CQ t x ix (hT.elem (by assumption)) (hT.size hs) ex ei hc)
   ·cases h
  ·cases h
 ·rename_i cs ex;split at h
  ·split at h;·injection h with h;subst h;exact .pure (CP t x ix (hT.arr (by assumption)) (hT.size (by assumption)) ex ei hc)
   ·cases h
  ·cases h
 ·rename_i id o ex;split at h
  ·split at h;·injection h with h;subst h;exact .pure (zN t x ix (hT.arr (by assumption)) (hT.size (by assumption)) ex ei hc)
   ·cases h
  ·cases h
 ·rename_i id ex;split at h
  ·split at h
   ·rename_i e' sz n row hσ;split at h;·rename_i hs;injection h with h;subst h;exact⟨C1 t x ix (hT.elem (by assumption)) (hT.size hs) ex ei hc,by simpa using hσ,.inl rfl⟩
    ·cases h
   ·cases h
  ·cases h
 ·cases h
include hT in
theorem ye(t:TypeId)(x:Operand)(h:B5 T t σ (e x)=some r):iI P W LB nx σ ⟨d,.call {callee:= .builtin .len,args:= #[x],argTypes:= #[t]},ty,pos,af,gd⟩ e r:=by
 unfold B5 at h;split at h
 ·rename_i sz n row ex;split at h;·injection h with h;subst h;exact .pure (Iw t x (hT.elem (by assumption)) ex)
  ·cases h
 ·rename_i ex;split at h;·injection h with h;subst h;exact .pure (Iv t x (hT.elem (by assumption)) ex)
  ·cases h
 ·rename_i id ex;split at h
  ·split at h;·rename_i e' sz n row hσ;injection h with h;subst h;exact⟨IF t x (hT.elem (by assumption)) ex,by simpa using hσ,.inl rfl⟩
   ·cases h
  ·cases h
 ·cases h
include hT in
theorem qX(t:TypeId)(s x:Operand){q:Tmp}(h:ni T t (nx*100000+q) σ (e s) (e x)=some r)(hc:r.c):iI P W LB nx σ ⟨some q,.call {callee:= .builtin .append,args:= #[s,x],argTypes:= #[t,t]},t,pos,af,gd⟩ e r:=by
 unfold ni at h;split at h
 ·rename_i el hel;split at h
  ·rename_i zs hz;split at h
   ·rename_i sz m row ex;split at h;case isFalse=>cases h
    rename_i hok;obtain⟨h1,h2,h3,b,h4,h5⟩:=iJ hok;split at h;·rename_i es;injection h with h;subst h;exact⟨zP t s x (hT.elem hel) (hT.size h1) (hT.bytes h4) (hT.zero hz) h2 h3 h5 es ex hc _,by simp,.inr ⟨q,rfl,rfl⟩⟩
    ·rename_i id0 es;split at h
     ·rename_i e' sz' n row0 hσ;split at h;case isFalse=>cases h
      rename_i hh;obtain⟨rfl,rfl,h7⟩:=hh;injection h with h;subst h;exact⟨zQ t s x (hT.elem hel) (hT.size h1) (hT.bytes h4) (hT.zero hz) h2 h3 h5 es ex hc _ h7,by simpa using hσ,.inr ⟨q,rfl,rfl⟩⟩
     ·cases h
    ·cases h
   ·rename_i id1 sz o m ex;split at h
    ·rename_i e1 sz1 n1 fR hσ1;split at h;case isFalse=>cases h
     rename_i hok;obtain⟨hok,rfl⟩:=hok;obtain⟨h1,h2,h3,b,h4,h5⟩:=iJ hok;split at h;·rename_i es;injection h with h;subst h;obtain⟨c1,c2,c3⟩:=hc;exact⟨kG t s x (hT.elem hel) (hT.size h1) (hT.bytes h4) (hT.zero hz) h2 h3 h5 es _ (Cd ex c2 c3) c1 _,by simpa using hσ1,.inr ⟨q,rfl,rfl⟩⟩
     ·rename_i id0 es;split at h
      ·rename_i e' sz' n row0 hσ;split at h;case isFalse=>cases h
       rename_i hh;obtain⟨rfl,rfl,h7⟩:=hh;injection h with h;subst h;obtain⟨c1,c2,c3⟩:=hc;exact⟨kH t s x (hT.elem hel) (hT.size h1) (hT.bytes h4) (hT.zero hz) h2 h3 h5 es _ (Cd ex c2 c3) c1 _ h7,by simp [hσ,hσ1],.inr ⟨q,rfl,rfl⟩⟩
      ·cases h
     ·cases h
    ·cases h
   ·rename_i id1 ex;split at h
    ·rename_i e1 sz n1 fR hσ1;split at h;case isFalse=>cases h
     rename_i hok;obtain⟨h1,h2,h3,b,h4,h5⟩:=iJ hok;split at h;·rename_i es;injection h with h;subst h;exact⟨kG t s x (hT.elem hel) (hT.size h1) (hT.bytes h4) (hT.zero hz) h2 h3 h5 es _ (Cf ex) hc _,by simpa using hσ1,.inr ⟨q,rfl,rfl⟩⟩
     ·rename_i id0 es;split at h
      ·rename_i e' sz' n row0 hσ;split at h;case isFalse=>cases h
       rename_i hh;obtain⟨rfl,rfl,h7⟩:=hh;injection h with h;subst h;exact⟨kH t s x (hT.elem hel) (hT.size h1) (hT.bytes h4) (hT.zero hz) h2 h3 h5 es _ (Cf ex) hc _ h7,by simp [hσ,hσ1],.inr ⟨q,rfl,rfl⟩⟩
      ·cases h
     ·cases h
    ·cases h
   ·cases h
  ·cases h
 ·cases h
include hT in
theorem Af(op:BinOp)(t t':TypeId)(x y:Operand)(h:I3 T op t (e x) (e y)=some r):iI P W LB nx σ ⟨d,.binOp op t x y t',ty,pos,af,gd⟩ e r:=by
 unfold I3 at h;split at h;case h_2=>cases h
 rename_i l m ex ey;split at h;case h_2=>cases h
 rename_i n hn;split at h;case h_2=>cases h
 rename_i q0 hq;split at h;case isFalse=>cases h
 rename_i hn';subst hn';obtain⟨s,q⟩:=q0;have key:∀(w:World) (L:Nat->Prop) (ρ:Nat->Option Value) (g:Operand->Value),R w L ρ (e x) (g x)->R w L ρ (e y) (g y)->∃xs ys:Array Value,g x= .agg xs/\g y= .agg ys/\
  (eqGuard .eql t x y (.agg xs) (.agg ys)).run P w= .ok () w/\(binOp .eql t (.agg xs) (.agg ys)).run P w= .ok (.bool q) w/\
  (eqGuard .neq t x y (.agg xs) (.agg ys)).run P w= .ok () w/\(binOp .neq t (.agg xs) (.agg ys)).run P w= .ok (.bool (!q)) w:=by
  intro w L ρ g h1 h2
  rw [ex]at h1
  rw [ey]at h2
  obtain⟨xs,e1,hx⟩:=h1.eU
  obtain⟨ys,e2,hy⟩:=h2.eU
  obtain⟨q1,q2⟩:=oG hq hx hy
  have:=J2 (hT.tC hn) (x:=x) (y:=y) q1 w
  rw [q2]at this
  exact⟨xs,ys,e1,e2,this⟩
 split at h;·injection h with h;subst h;refine .pure (aD.same rfl fun w L ρ g hr=> ?_);obtain⟨xs,ys,e1,e2,g1,g2,_⟩:=key w L ρ g (hr x (by simp [Op.operands])) (hr y (by simp [Op.operands]));exact⟨.bool q,by simp [execOp,e1,e2,g1,g2],.c _ _⟩
 ·injection h with h;subst h;refine .pure (aD.same rfl fun w L ρ g hr=> ?_);obtain⟨xs,ys,e1,e2,_,_,g1,g2⟩:=key w L ρ g (hr x (by simp [Op.operands])) (hr y (by simp [Op.operands]));exact⟨.bool (!q),by simp [execOp,e1,e2,g1,g2],.c _ _⟩
 ·cases h
include hT in
theorem tZ(t:TypeId)(x:Operand)(lo hi:Option Operand){M:List Nat}(h:qN T M nx d e σ t x lo hi=some r)(hc:r.c):iI P W LB nx σ ⟨d,.slice t x lo hi none,ty,pos,af,gd⟩ e r:=by
 unfold qN at h;split at h
 ·rename_i id ex;split at h
  ·rename_i el hel;split at h
   ·rename_i e' sz n row hσ;split at h
    ·rename_i hsz;split at h
     ·rename_i l u hl hu;split at h
      ·split at h
       ·rename_i hh;obtain⟨h0,hne,hd⟩:=hh;injection h with h;subst h;match d,hd with
        |some q,_=>exact⟨Da t x lo hi (hT.elem hel) (hT.size hsz) ex hl h0 hu hc _ hne,by simpa using hσ,.inr ⟨q,rfl,rfl⟩⟩
       ·cases h
      ·injection h with h;subst h;exact⟨C8 t x lo hi (hT.elem hel) (hT.size hsz) ex hl hu hc,by simpa using hσ,.inl rfl⟩
     ·cases h
    ·cases h
   ·cases h
  ·cases h
 ·rename_i sz n row ex;split at h
  ·rename_i el hel;split at h
   ·rename_i hsz;split at h;·rename_i l u hl hu;injection h with h;subst h;exact .pure (E9 t x lo hi (hT.elem hel) (hT.size hsz) ex hl hu hc)
    ·cases h
   ·cases h
  ·cases h
 ·cases h
include hT in
theorem xm(o:Oper)(h:BD T wr M nx o e σ=some r)(hc:r.c)(hd:o.dst.isSome=true\/wC o.op):iI P W LB nx σ o e r:=by
 obtain⟨d,op,ty,pos,af,gd⟩:=o;unfold BD at h;simp only at h hd;have dst:∀(hop:wC op->False),∃q,d=some q:=by
  intro hop;rcases hd with hd |hd;·exact Option.isSome_iff_exists.1 hd
  ·exact(hop hd).elim
 split at h;·injection h with h;subst h;exact .pure (IC _ rfl)
 ·injection h with h;subst h;exact .pure (CJ _ rfl)
 ·split at h
  ·split at h;·injection h with h;subst h;exact .pure (zM _ _ (by assumption) (by assumption))
   ·cases h
  ·cases h
 ·split at h;·rename_i c v hb;injection h with h;subst h;exact .pure (zU _ _ _ _ _ hb hc)
  ·exact Af hT _ _ _ _ _ h
 ·split at h;·injection h with h;subst h;exact .pure (Ly _ _ (by assumption))
  ·cases h
 ·split at h
  ·split at h;·injection h with h;subst h;exact .pure (E7 _ _ (by assumption))
   ·injection h with h;subst h;refine .pure ?_;rw [<-gu hc,<-Int.zero_sub];exact E7 _ _ (by assumption)
  ·cases h
 ·split at h
  ·split at h
   ·split at h
    ·split at h;·injection h with h;subst h;exact .pure (xb _ _ _ (hT.isSome (by assumption)) (hT.kind (by assumption)) (by assumption))
     ·injection h with h;subst h;refine .pure ?_;rw [<-gu hc];exact xb _ _ _ (hT.isSome (by assumption)) (hT.kind (by assumption)) (by assumption)
    ·cases h
   ·cases h
  ·cases h
 ·split at h
  ·split at h;·injection h with h;subst h;exact .pure (CN _ _ _ (hT.fI (by assumption)) (by assumption))
   ·injection h with h;subst h;exact .pure (CO _ _ _ (hT.fI (by assumption)) (by assumption))
   ·injection h with h;subst h;exact .pure (CM _ _ _ (hT.fI (by assumption)) (by assumption))
   ·cases h
  ·cases h
 ·split at h;·exact tP hT _ _ _ (by assumption) h hc
  ·cases h
 ·exact v8 hT _ _ h hc
 ·exact t7 hT _ _ _ h hc
 ·split at h;·exact tZ hT _ _ _ _ h hc
  ·cases h
 ·split at h;·injection h with h;subst h;obtain⟨q,rfl⟩:=dst (fun h=>h);exact⟨Fe _ (hT.zero (by assumption)) _,by simp,.inr ⟨q,rfl,rfl⟩⟩
  ·cases h
 ·split at h
  ·split at h;·injection h with h;subst h;obtain⟨q,rfl⟩:=dst (fun h=>h);exact⟨LC _ _ rfl (by assumption) _,by simp,.inr ⟨q,rfl,rfl⟩⟩
   ·split at h;·injection h with h;subst h;exact .pure (Lu _ _ rfl (by assumption) (by assumption))
    ·cases h
  ·cases h
 ·split at h
  ·split at h;·injection h with h;subst h;exact .pure (EV _ _ (hT.zero (by assumption)) (hT.pl (by assumption)) (by assumption))
   ·cases h
  ·cases h
 ·split at h
  ·split at h
   ·split at h
    ·split at h;case isFalse=>cases h
     rename_i hh;obtain⟨h1,h2,h3,h4⟩:=hh;split at h;·injection h with h;subst h;obtain⟨q,rfl⟩:=dst (fun h=>h);exact⟨CZ _ _ _ (hT.elem (by assumption)) (hT.size (by assumption)) (hT.zero (by assumption)) h1 h2 h3 (by assumption) h4 _,by simp,.inr ⟨q,rfl,rfl⟩⟩
     ·split at h;·injection h with h;subst h;exact .pure (CL _ _ _ (hT.elem (by assumption)) (hT.size (by assumption)) (hT.zero (by assumption)) h1 h2 h3 (by assumption) h4 (by assumption))
      ·cases h
    ·cases h
   ·cases h
  ·cases h
 ·split at h
  ·split at h
   ·split at h
    ·split at h;case isFalse=>cases h
     rename_i hok;obtain⟨h0,h1,h2,b,h3,h4⟩:=iJ hok;injection h with h;subst h;obtain⟨q,rfl⟩:=dst (fun h=>h);exact⟨IG _ _ _ (hT.elem (by assumption)) (hT.size (by assumption)) (hT.bytes h3) (hT.zero (by assumption)) h1 h2 (by assumption) (by assumption) hc h4 _,by simp,.inr ⟨q,rfl,rfl⟩⟩
    ·cases h
   ·cases h
  ·cases h
 ·injection h with h;subst h;exact .pure Nz
 ·rename_i c;obtain⟨callee,args,ats⟩:=c;simp only at h;split at h
  ·split at h;·exact ye hT _ _ h
   ·cases h
  ·split at h
   ·rename_i s x t t' e1 e2;split at h
    ·rename_i r0 hr0;split at h;case isFalse=>cases h
     rename_i hh;obtain⟨rfl,rfl⟩:=hh;injection h with h;subst h;obtain⟨q,rfl⟩:=dst (fun h=>h);exact qX hT _ _ _ hr0 hc
    ·cases h
   ·cases h
  ·split at h
   ·split at h
    ·split at h;case isFalse=>cases h
     rename_i hh;subst hh;injection h with h;subst h;exact .pure (Iy _ _ _ (by assumption) (by assumption))
    ·cases h
   ·split at h
    ·split at h;case isFalse=>cases h
     rename_i hh;obtain⟨rfl,rfl⟩:=hh;injection h with h;subst h;exact .pure (Iz _ _ _ _ (by assumption) (by assumption) (by assumption))
    ·cases h
   ·split at h
    ·split at h;case isFalse=>cases h
     rename_i hh;obtain⟨rfl,rfl,rfl⟩:=hh;injection h with h;subst h;exact .pure (IA _ _ _ _ _ (by assumption) (by assumption) (by assumption) (by assumption))
    ·cases h
   ·cases h
  ·split at h
   ·split at h
    ·split at h;case isFalse=>cases h
     rename_i hh;subst hh;injection h with h;subst h;exact .pure (IB _ _ _ (by assumption) (by assumption))
    ·cases h
   ·cases h
  ·cases h
 ·cases h
end
mutual
theorem V.eV(g:Nat->Nat):∀v:V,v.ck=true->v.bD g=v
 | .agg cs,h=>by rw [V.ck]at h;rw [V.bD,V.ec g cs h]
 | .tup cs,h=>by rw [V.ck]at h;rw [V.bD,V.ec g cs h]
 | .fn f a b,h=>by rw [V.ck,Bool.and_eq_true]at h;rw [V.bD,V.ec g a h.1,V.ec g b h.2]
 | .ifc t v,h=>by rw [V.ck]at h;rw [V.bD,V.eV g v h]
 | .gd q v,h=>by rw [V.ck]at h;rw [V.bD,V.eV g v h]
 | .alt q v u,h=>by rw [V.ck,Bool.and_eq_true]at h;rw [V.bD,V.eV g v h.1,V.eV g u h.2]
 | .own _,h=>by simp [V.ck]at h
 | .ref _ _,h=>by simp [V.ck]at h
 | .oel _ _ _ _,h=>by simp [V.ck]at h
 | .osl _ _ _ _,h=>by simp [V.ck]at h
 | .fset _ _,_=>by rw [V.bD]
 | .any,_=>rfl
 | .c _,_=>rfl
 | .nil,_=>rfl
 | .emp,_=>rfl
 | .sl _ _ _,_=>rfl
 | .ptr _,_=>rfl
theorem V.ec(g:Nat->Nat):∀l:List V,V.bA l=true->V.aS g l=l
 | [],_=>rfl
 |v::l,h=>by rw [V.bA,Bool.and_eq_true]at h;rw [V.aS,V.eV g v h.1,V.ec g l h.2]
end
def sn:List V->Bool
 | []=>true
 | .gd _ _::_=>false
 |_::l=>sn l
theorem oQ:∀ {l:List V},sn l=true->∀v∈l,sZ true v
 | [],_,v,hv=>by simp at hv
 |u::l,h,v,hv=>by
  rcases List.mem_cons.1 hv with rfl |hv;·cases v <;> first |trivial | (simp [sn]at h)
  ·refine oQ (l:=l) ?_ v hv;cases u <;> first |exact h | (simp [sn]at h)
def Nt(g:Bool):List V->Prop
 | []=>True
 |v::l=>sZ g v/\Nt g l
theorem n8{g:Bool}:∀ {l:List V},Nt g l->∀v∈l,sZ g v
 | [],_,v,hv=>by simp at hv
 |u::l,h,v,hv=>by
  rcases List.mem_cons.1 hv with rfl |hv;·exact h.1
  ·exact n8 h.2 v hv
def Jd:List V->List Bool
 | []=>[]
 | .gd g _::l=>g::Jd l
 |_::l=>Jd l
theorem xX{g:Bool}:∀ {l:List V}{n:Nat},Jd l=List.replicate n g->Nt g l
 | [],_,_=>trivial
 |u::l,n,h=>by
  have key:∀n,Jd (u::l)=List.replicate n g->sZ g u/\∃m,Jd l=List.replicate m g:=by
   intro n h;cases u with
   |gd g' v=>
    simp only [Jd]at h;cases n with
    |zero=>simp at h
    |succ n=>simp only [List.replicate_succ,List.cons.injEq]at h;exact⟨fun hg=>by rw [h.1];exact hg,n,h.2⟩
   |_=>exact⟨trivial,n,h⟩
  obtain⟨h1,m,h2⟩:=key n h;exact⟨h1,xX h2⟩
def opsV(tm:Nat->V)(o:Oper):List V:=o.op.operands.toList.map (ev tm)
theorem ld{tm:Nat->V}{o:Oper}{x:Operand}(h:x∈o.op.operands):ev tm x∈opsV tm o:=List.mem_map.2 ⟨x,by simpa using h,rfl⟩
def jZ(o:Oper):Bool:=match o.dst with
 |some t=>decide (t< 1000)
 |none=>match o.op with
  | .store _ _ _=>true
  | .insert _ _ _ _=>true
  | .mapUpdate _ _ _ _=>true
  |_=>false
theorem jI{o:Oper}(h:jZ o=true):o.dst.isSome=true\/wC o.op:=by
 unfold jZ at h;cases hd:o.dst with
 |some t=>exact .inl rfl
 |none=>
  rw [hd]at h;right;simp only at h;split at h;·rename_i heq;rw [heq];trivial
  ·rename_i heq;rw [heq];trivial
  ·rename_i heq;rw [heq];trivial
  ·cases h
theorem xJ{o:Oper}(h:jZ o=true){t:Nat}(ht:o.dst=some t):t< 1000:=by unfold jZ at h;rw [ht]at h;exact of_decide_eq_true h
section
variable {P:Program}{N:Nat}{C:Cx P N}{T:List TI}{ops:Array Oper}{nx:Nat}{o:Oper}{os:List Oper}{tm:Nat->V}{σ:Nat->Option Ob}{ks:List (List Nat×List Nat)}{K:(Nat->V)->(Nat->Option Ob)->List (List Nat×List Nat)->Prop}
variable {d:Option Tmp}{ty:TypeId}{pos:String}{af:Array Edge}
theorem zL{gd':Nat×Bool}(x a b:Operand){g t:Bool}{v:V}(hg:eP (ops.toList.map (·.dst)) tm ⟨d,.pick x a b,ty,pos,af,some gd'⟩=some (some g))(h:ug (ev tm x)= .b t)(hv:uN t (ug (ev tm a)) (ug (ev tm b))=some v)(hx:sZ g (ev tm x))(ha:g=true->fD t true (ev tm a))(hb:g=true->fD t false (ev tm b)) (hk:bF C ops nx os (eR tm d (.gd g v)) σ (ks++[([],[])]) K):bF C ops nx (⟨d,.pick x a b,ty,pos,af,some gd'⟩::os) tm σ ks K:=by
 have hw:=gk hg;refine⟨⟨g,.gd g v,[],[],[]⟩,⟨hw,fun he=> ?_,fun he=> ?_⟩,by simpa [aV,dZ,bG]using hk⟩
 ·subst he;refine⟨?_,by simp,by simp [l6]⟩;have key:aD P ⟨d,.pick x a b,ty,pos,af,some gd'⟩ (fun y=>ev tm y) v:=by
   refine aD.same rfl fun w L ρ q hr=> ?_;have hr':∀y∈(Op.pick x a b).operands,R w L ρ (ev tm y) (q y):=fun y hy=>by simpa using hr y hy
   have h1:=(hr' x (by simp [Op.operands])).ug hx;rw [h]at h1;have hxx:=h1.aN;refine⟨if t then q a else q b,by simp [execOp,hxx,asBool],?_⟩;have kk:∀(q':Bool) (u:V) (y:Value),fD t q' u->t=q'->R w L ρ u y->R w L ρ (ug u) y:=by intro q' u y ho hq hu;refine hu.ug ?_;cases u <;> first |trivial |exact fun _=>ho hq
   obtain⟨x',y',ea,eb,rfl⟩:∃x' y',ug (ev tm a)= .b x'/\ug (ev tm b)= .b y'/\v= .b (cond t x' y'):=by
    revert hv;generalize ug (ev tm a)=A;generalize ug (ev tm b)=B;intro hv;unfold uN at hv;split at hv;·exact⟨true,_,rfl,rfl,by injection hv with hv;rw [<-hv];cases t <;> rfl⟩
    ·exact⟨_,false,rfl,rfl,by injection hv with hv;rw [<-hv];cases t <;> simp⟩
    ·exact⟨_,_,rfl,rfl,by injection hv with hv;exact hv.symm⟩
    ·cases hv
   cases t with
   |true=>have:=kk true _ _ (ha rfl) rfl (hr' a (by simp [Op.operands]));rw [ea]at this;simpa [this.aN]using R.c ρ (.bool x')
   |false=>have:=kk false _ _ (hb rfl) rfl (hr' b (by simp [Op.operands]));rw [eb]at this;simpa [this.aN]using R.c ρ (.bool y')
  intro σ w L ρ q hG hr hp hn;refine(key.step σ w L ρ q hG (fun y hy=>by simpa using hr y hy) hp hn).mono ?_;rintro y w' ⟨L',ρ',h1,h2,h3⟩;exact⟨L',ρ',h1,.gd _ _ _ _ (fun _=>h2) (fun e=>by cases e),h3⟩
 ·subst he;exact⟨fun w L ρ=> .gd _ _ _ _ (fun e=>by cases e) fun _=>rfl,rfl,rfl⟩
theorem ot{fo:Operand}{ar:Array Operand}{ats:Array TypeId}{f:FuncId}{first caps args:List V}{v:V}{obs:List Ob}(hc:AC P f args v obs)(hf:ev tm fo= .fn (.func f) first caps)(hargs:first++ar.toList.map (ev tm)++caps=args)(hidf:V.bA args=true) (hd:d.all (fun t=>decide (t< 1000))=true) (hds:d.isSome=true) (hobs:obs.length<=90) (hk:bF C ops nx os (eR tm d (v.bD (ay nx d))) (bG σ (cj (ay nx d) 0 obs)) (ks++[(aV (cj (ay nx d) 0 obs),aV (cj (ay nx d) 0 obs))]) K):bF C ops nx (⟨d,.call {callee:= .value fo,args:=ar,argTypes:=ats},ty,pos,af,none⟩::os) tm σ ks K:=by
 refine eI rfl (vi hc hf hargs hidf nx hd hobs) (by simp) ?_ (by simpa [dZ]using hk);obtain⟨t,rfl⟩:∃t:Nat,d=some t:=Option.isSome_iff_exists.1 hds;have hd:t< 1000:=by simpa using hd
 intro id hid;obtain⟨j,hj,rfl⟩:=List.mem_map.1 hid;have hj':j< obs.length:=by simpa using hj
 refine⟨t,rfl,?_,?_,?_⟩ <;> simp only [ay,Option.getD_some] <;> omega
theorem zJ{fo:Operand}{ar:Array Operand}{ats:Array TypeId}{f:FuncId}{first caps args:List V}{v:V}(hc:AC P f args v [])(hf:ev tm fo= .fn (.func f) first caps)(hargs:first++ar.toList.map (ev tm)++caps=args)(hidf:V.bA args=true)(hv:v.ck=true) (hd:d.all (fun t=>decide (t< 1000))=true) (hds:d.isSome=true) (hk:bF C ops nx os (eR tm d v) σ (ks++[([],[])]) K):bF C ops nx (⟨d,.call {callee:= .value fo,args:=ar,argTypes:=ats},ty,pos,af,none⟩::os) tm σ ks K:=by refine ot hc hf hargs hidf hd hds (by simp) ?_;rw [V.eV _ _ hv];exact hk
theorem zK(n:Nat){gd':Nat×Bool}{g:Bool}{fo:Operand}{ar:Array Operand}{ats:Array TypeId}{f:FuncId}{first caps args:List V}{v:V}(hg:eP (ops.toList.map (·.dst)) tm ⟨d,.call {callee:= .value fo,args:=ar,argTypes:=ats},ty,pos,af,some gd'⟩=some (some g)) (hc:g=true->AC P f args v []) (hf:ug (ev tm fo)= .fn (.func f) first caps) (hargs:first++ar.toList.map (fun x=>ug (ev tm x))++caps=args) (hidf:V.bA args=true) (hv:v.ck=true) (hd:d.all (fun t=>decide (t< 1000))=true) (hu:Jd (opsV tm ⟨d,.call {callee:= .value fo,args:=ar,argTypes:=ats},ty,pos,af,some gd'⟩)=List.replicate n g) (hk:bF C ops nx os (eR tm d (.gd g v)) σ (ks++[([],[])]) K):bF C ops nx (⟨d,.call {callee:= .value fo,args:=ar,argTypes:=ats},ty,pos,af,some gd'⟩::os) tm σ ks K:=by refine mK (pre:=[]) hg (fun x hx=>n8 (xX hu) _ (ld hx)) (fun he=> ?_) (by simpa [dZ]using hk);have:=vi (W:=C.W) (LB:=C.LB) (d:=d) (ty:=ty) (pos:=pos) (af:=af) (gd:=some gd') (ats:=ats) (ev:=fun x=>ug (ev tm x)) (hc he) hf hargs hidf nx hd (by simp);rw [V.eV _ _ hv]at this;exact⟨this,by simp⟩
end
section
variable {P:Program}{N:Nat}{C:Cx P N}{T:List TI}{ops:Array Oper}{nx:Nat}{o:Oper}{os:List Oper}{tm:Nat->V}{σ:Nat->Option Ob}{ks:List (List Nat×List Nat)}{K:(Nat->V)->(Nat->Option Ob)->List (List Nat×List Nat)->Prop}
variable {ty:TypeId}{pos:String}{af:Array Edge}
theorem oC{d:Nat}{fo:Operand}{ar:Array Operand}{ats:Array TypeId}{f:FuncId}{first caps args:List V}{v:V}(hc:AC P f args v [])(hf:ev tm fo= .fn (.func f) first caps)(hargs:first++ar.toList.map (ev tm)++caps=args)(hidf:V.bA args=true)(hv:v.ck=true)(hd:decide (d< 1000)=true)
 (hk:bF C ops nx os (bL tm d v) σ (ks++[([],[])]) K):bF C ops nx (⟨some d,.call {callee:= .value fo,args:=ar,argTypes:=ats},ty,pos,af,none⟩::os) tm σ ks K:=
 zJ hc hf hargs hidf hv hd rfl hk
theorem qz{d:Nat}{fo:Operand}{ar:Array Operand}{ats:Array TypeId}{f:FuncId}{first caps args:List V}{v v':V}{ob ob':Ob}(hc:AC P f args v [ob])(hf:ev tm fo= .fn (.func f) first caps)(hargs:first++ar.toList.map (ev tm)++caps=args)(hidf:V.bA args=true)(hd:decide (d< 1000)=true) (hv:v.bD (ay nx (some d))=v') (hob:ob.bD (ay nx (some d))=ob'){k:Nat}(hk0:nx*100000+d=k) (hk:bF C ops nx os (bL tm d v') (bL σ k (some ob')) (ks++[([k],[k])]) K):bF C ops nx (⟨some d,.call {callee:= .value fo,args:=ar,argTypes:=ats},ty,pos,af,none⟩::os) tm σ ks K:=by
 subst hv hob hk0;have e:ay nx (some d) 0=nx*100000+d:=by simp [ay]
 refine ot hc hf hargs hidf hd rfl (by simp) ?_;simp only [cj,aV,List.map_cons,List.map_nil,bG,e];exact hk
theorem I1(n:Nat){d:Nat}{gd':Nat×Bool}{g:Bool}{fo:Operand}{ar:Array Operand}{ats:Array TypeId}{f:FuncId}{first caps args:List V}{v:V}(hg:eP (ops.toList.map (·.dst)) tm ⟨some d,.call {callee:= .value fo,args:=ar,argTypes:=ats},ty,pos,af,some gd'⟩=some (some g))
 (hc:g=true->AC P f args v []) (hf:ug (ev tm fo)= .fn (.func f) first caps) (hargs:first++ar.toList.map (fun x=>ug (ev tm x))++caps=args) (hidf:V.bA args=true) (hv:v.ck=true) (hd:decide (d< 1000)=true) (hu:Jd (opsV tm ⟨some d,.call {callee:= .value fo,args:=ar,argTypes:=ats},ty,pos,af,some gd'⟩)=List.replicate n g)
 (hk:bF C ops nx os (bL tm d (.gd g v)) σ (ks++[([],[])]) K):bF C ops nx (⟨some d,.call {callee:= .value fo,args:=ar,argTypes:=ats},ty,pos,af,some gd'⟩::os) tm σ ks K:=
 zK n hg hc hf hargs hidf hv hd hu hk
variable {Q:Exit->S->Prop}{id:Nat}{ol:List Oper}
theorem ag{n':Nat}(hok:gM N ol=true)(hn:nx+1=n')(h:bF C ol.toArray nx ol tm σ [] fun tm' σ' _=>Q .normal ⟨tm',σ',n'⟩):AW C (.region id ol.toArray false) Q ⟨tm,σ,nx⟩:=by subst hn;exact ov hok h
theorem bU{n':Nat}(hok:gM N ol=true)(hn:nx+1=n')(h:bF C ol.toArray nx ol tm σ [] fun tm' σ' ks=>jc ol ks=true/\Q .normal ⟨tm',σ',n'⟩):AW C (.region id ol.toArray true) Q ⟨tm,σ,nx⟩:=by subst hn;exact mL hok h
theorem ax{c:Operand}{x y:Code}{t:Bool}(hc:ev tm c= .b t)(h1:t=true->AW C x Q ⟨tm,σ,nx⟩)(h2:t=false->AW C y Q ⟨tm,σ,nx⟩):AW C (.cond c x y) Q ⟨tm,σ,nx⟩:=nk hc h1 h2
theorem bQ{c:Operand}{x y:Code}{t:Bool}(hc:ev tm c= .b t)(ht:t=true)(h1:AW C x Q ⟨tm,σ,nx⟩):AW C (.cond c x y) Q ⟨tm,σ,nx⟩:=nk hc (fun _=>h1) fun h=>by rw [ht]at h;cases h
theorem aB{c:Operand}{x y:Code}{t:Bool}(hc:ev tm c= .b t)(ht:t=false)(h1:AW C y Q ⟨tm,σ,nx⟩):AW C (.cond c x y) Q ⟨tm,σ,nx⟩:=nk hc (fun h=>by rw [ht]at h;cases h) fun _=>h1
end
section
variable {next:S->Prop}{Q:Exit->S->Prop}{s:S}{id id':Nat}
theorem ai(h:next s):dS next Q .normal s:=h
theorem bB(h:Q .ret s):dS next Q .ret s:=h
theorem cO(h:Q (.exit id) s):dS next Q (.exit id) s:=h
theorem cn(h:Q .normal s):kD id Q .normal s:=h
theorem dL(h:Q .ret s):kD id Q .ret s:=h
theorem cg(h:Q .normal s):kD id Q (.exit id) s:=by simpa [kD]using h
theorem Lb(hne:(id' == id)=false)(h:Q (.exit id') s):kD id Q (.exit id') s:=by
 have:¬id'=id:=by simpa using hne
 simpa [kD,this]using h
theorem bg{T:List TI}{fn:Func}{v v':V}{e:Exit}(he:e= .normal\/e= .ret)(hres:qt T s fn.results.toList=some v')(hv:v'=v)(hi:v'.ck=true):gO T fn v [] e s:=by subst hv;exact⟨he,s,Le.refl _,hres,by simp,V.eV _ _ hi,by simp⟩
end
def V.ints(l:List Int):V:= .sl 1 l.length fun k=>[.i (gi l k)]
def V.pts(l:List Pt):V:= .sl 2 l.length fun k=>[.i (gp l k).1,.i (gp l k).2]
end Go.Ab

namespace Go.Ab
open Go.RowKit Go.Dw
def m7{α:Type}(p:α->Prop):List α->Prop
 | []=>True
 |x::l=>p x/\m7 p l
theorem m7.nil{α:Type}{p:α->Prop}:m7 p []:=trivial
theorem m7.cons{α:Type}{p:α->Prop}{x:α}{l:List α}(h:p x)(k:m7 p l):m7 p (x::l):=⟨h,k⟩
theorem m7.mem{α:Type}{p:α->Prop}:∀ {l:List α},m7 p l->∀x∈l,p x
 | [],_,x,hx=>by simp at hx
 |y::l,h,x,hx=>by
  rcases List.mem_cons.1 hx with rfl |hx;·exact h.1
  ·exact h.2.mem x hx
theorem fH.row{e sz n n':Nat}{r r':Nat->List V}(hn:n=n')(h:∀i,i< n->r i=r' i):fH (.row e sz n r) (.row e sz n' r'):=⟨rfl,rfl,hn,h⟩
theorem fH.box{t:Nat}{cs cs':List V}(h:cs=cs'):fH (.box t cs) (.box t cs'):=⟨rfl,h⟩
theorem fH.mp{s:Bool×Nat}{f f':MF}(h:∀k,f.look k=f'.look k):fH (.mp s f) (.mp s f'):=⟨rfl,h⟩
def gF(tl:List (Nat×V)):Nat->V:=tl.foldr (fun p f=>bL f p.1 p.2) (fun _=> .any)
def eL(sl:List (Nat×Ob)):Nat->Option Ob:=sl.foldr (fun p f=>bL f p.1 (some p.2)) (fun _=>none)
theorem aH{tm:Nat->V}{σ:Nat->Option Ob}{nx:Nat}(gl:List (Nat×Nat)){tl:List (Nat×V)}{sl:List (Nat×Ob)}
 (htm:m7 (fun p=>tm p.1=p.2.bD (aO gl nx)) tl) (hσ:m7 (fun p=>∃ob,σ (aO gl nx p.1)=some ob/\fH ob (p.2.bD (aO gl nx))) sl)
 (hinj:decide ((sl.map fun p=>aO gl nx p.1).Nodup)=true) (hid:gl.all (fun p=>decide (p.1< 500))=true) :
 Le ⟨tm,σ,nx⟩ ⟨gF tl,eL sl,1⟩:=
 Le.bD (s:=⟨tm,σ,nx⟩) tl sl gl htm.mem hσ.mem (of_decide_eq_true hinj) (by simpa using hid)
theorem qF{tm:Nat->V}{σ:Nat->Option Ob}{nx:Nat}(t e sz:Nat)(row:Nat->List V)(h:tm t= .nil)(ht:decide (t< 100000)=true) :
    Le ⟨tm,σ,nx⟩ ⟨bL tm t (.own (nx*100000+t)),bL σ (nx*100000+t) (some (.row e sz 0 row)),nx+1⟩:=by
  intro P N C a w ⟨L,ρ,g⟩
  have ht:=of_decide_eq_true ht
  have hn:ρ (nx*100000+t)=none:=g.fr _ (Nat.le_add_right _ _)
  have hx:a.tmps.getD t undef= .slice none 0 0:=by
    have this:R w L ρ (tm t) (a.tmps.getD t undef):=g.tm t
    rw [h]at this
    generalize a.tmps.getD t undef=q at this
    cases this;rfl
  obtain⟨hG,ex⟩:=g.g.put (w':=w) (σ1:=σ) (ρ':=bL ρ (nx*100000+t) (some (.slice none 0 0))) (World.grownBy.refl w none) (by simp) (nx*100000+t) _ (.row e sz 0 row) (fun i o hi ho=>⟨ho,by simp⟩) (fun i hi=>ah _ _ hi) (ak _ _ _) (.inl hn) (fun k hk=>by simp [blk]at hk)
    (fun ex=>⟨_,[],ak _ _ _,World.ownsRow_nil _ _ _ _,fun i hi=>by omega,by simp [aE];exact .nil,fun k hk=>by simp [blk]at hk⟩)
  refine⟨L,_,⟨hG,fun id hid=> ?_,fun t'=> ?_,g.size,g.defers,fun id x hp=>ex.r id x (g.pin id x hp)⟩⟩
  · have hid':(nx+1)*100000<=id:=hid
    rw [ah _ _ oM]
    exact g.fr id (Nat.le_trans (Nat.mul_le_mul_right _ (Nat.le_succ nx)) hid')
  · by_cases he:t'=t
    · subst he
      show R _ _ _ (bL tm t' _ t') _
      rw [ak,hx]
      exact .own _ _ _ (ak _ _ _) rfl
    · show R _ _ _ (bL tm t _ t') _
      rw [ah _ _ he]
      exact(g.tm t').ext ex
theorem DP{tm:Nat->V}{σ:Nat->Option Ob}{nx:Nat}(id:Nat){e sz n:Nat}{row:Nat->List V}(hσ:σ id=some (.row e sz n row))(hi:∀i,i< n->V.bA (row i)=true) : Le ⟨tm,σ,nx⟩ ⟨fun t=>V.fz id (.sl sz n row) (tm t),bL σ id none,nx⟩:=Le.freeze (s:=⟨tm,σ,nx⟩) id hσ hi
theorem v5{tm:Nat->V}{σ:Nat->Option Ob}{nx:Nat}(id:Nat){t:Nat}{cs:List V}(hσ:σ id=some (.box t cs))(hi:V.bA cs=true) : Le ⟨tm,σ,nx⟩ ⟨fun t=>V.fz id (.ptr cs) (tm t),bL σ id none,nx⟩:=Le.DE (s:=⟨tm,σ,nx⟩) id hσ hi
section
variable {P:Program}{N:Nat}{C:Cx P N}{tm:Nat->V}{σ:Nat->Option Ob}{nx:Nat}{Q:Exit->S->Prop}
theorem dO{ι:Type}{c:Code}(tl:ι->List (Nat×V))(sl:ι->List (Nat×Ob))(ok:ι->Prop)(μ:ι->Nat)(x0:ι)(hx:ok x0)(h0:Le ⟨tm,σ,nx⟩ ⟨gF (tl x0),eL (sl x0),1⟩)
 (round:∀x,ok x->AW C c (dS (fun s'=>∃y,ok y/\Le s' ⟨gF (tl y),eL (sl y),1⟩/\μ y< μ x) Q) ⟨gF (tl x),eL (sl x),1⟩):AW C (.loop c) Q ⟨tm,σ,nx⟩:=
 II (fun x=>⟨gF (tl x),eL (sl x),1⟩) ok μ x0 hx h0 round
theorem lG{c:Code}{s':S}(h:Le ⟨tm,σ,nx⟩ s')(k:AW C c Q s'):AW C c Q ⟨tm,σ,nx⟩:=pJ h k
end
theorem nY{T:List TI}{fn:Func}{v:V}{e:Exit}{tm:Nat->V}{σ:Nat->Option Ob}{nx:Nat}{ob:Ob}(gl:List (Nat×Nat))(tl:List (Nat×V))(he:e= .normal\/e= .ret) (htm:m7 (fun p=>tm p.1=p.2.bD (aO gl nx)) tl) (hσ:m7 (fun p=>∃ob,σ (aO gl nx p.1)=some ob/\fH ob (p.2.bD (aO gl nx))) [(0,ob)]) (hid:gl.all (fun p=>decide (p.1< 500))=true) (hres:qt T ⟨gF tl,eL [(0,ob)],1⟩ fn.results.toList=some v) (hi:v.bD (gK 1 1)=v) (ho:ob.bD (gK 1 1)=ob):gO T fn v [ob] e ⟨tm,σ,nx⟩:=by
 refine⟨he,_,aH gl (tl:=tl) (sl:=[(0,ob)]) htm hσ (by simp) hid,hres,fun i o ho=> ?_,hi,fun o hm=> ?_⟩
 ·cases i with
  |zero=>simp at ho;subst ho;rfl
  |succ i=>simp at ho
 ·simp only [List.mem_singleton]at hm;subst hm;exact ho
theorem vb{a b:Bool}(h:a=b):V.b a=V.b b:=by rw [h]
def mpos(k:MK):List MapEntry->Nat->Option (Nat×Value)
 | [],_=>none
 |e::es,i=>if k.is e.key then some (i,e.val)else mpos k es (i+1)
theorem g9(k:MK):∀(es:List MapEntry) (i:Nat),(mpos k es i).map (·.2)=aR k es
 | [],_=>rfl
 |e::es,i=>by
  rw [mpos,aR];split;·rfl
  ·exact g9 k es (i+1)
def KD(str:Bool)(kd:TypeDesc):Prop:=match str with
 |true=>kd= .string
 |false=>kd= .int .i64
theorem MK.i4(k q:MK)(h:k.str=q.str):k.is q.val=decide (k=q):=by cases k <;> cases q <;> simp [MK.str]at h <;> simp [MK.is,MK.val]
theorem A3{kd:TypeDesc}{k q:MK}(hd:KD k.str kd)(h:q.str=k.str):Instr.sameNow kd k.val q.val=some (k.is q.val):=by
 cases k <;> cases q <;> simp [MK.str]at h
 ·have hd:kd= .int .i64:=hd;subst hd;simp [Instr.sameNow,MK.val,MK.is,BEq.beq]
 ·have hd:kd= .string:=hd;subst hd;simp only [Instr.sameNow,MK.val,MK.is];congr 1
  rw [Bool.eq_iff_iff,MapKept.bytes_beq,decide_eq_true_eq]
def jY(str:Bool)(es:List MapEntry):Prop:=∀e∈es,∃q:MK,q.str=str/\e.key=q.val
theorem rI{kd:TypeDesc}{k:MK}(hd:KD k.str kd):∀(es:List MapEntry) (i:Nat),jY k.str es->Instr.findNow kd k.val es i=some (mpos k es i)
 | [],i,_=>by simp [Instr.findNow,mpos]
 |e::es,i,h=>by
  obtain⟨q,hq,he⟩:=h e (by simp);rw [Instr.findNow,mpos,he,A3 hd hq];cases hb:k.is q.val with
  |true=>simp
  |false=>simp;exact rI hd es (i+1) fun e' he'=>h e' (by simp [he'])
theorem run_findKey{P:Program}{w:World}{kt:TypeId}{kd:TypeDesc}{k:MK}(hk:P.underlying kt=some kd)(hd:KD k.str kd){es:List MapEntry}(h:jY k.str es):(Instr.findKey kt k.val es).run P w= .ok (mpos k es 0) w:=by unfold Instr.findKey;simp [aA hk,rI hd es 0 h]
theorem run_checkKey{P:Program}{w:World}{kt:TypeId}{kd:TypeDesc}{k:MK}(b:Bool)(hk:P.underlying kt=some kd)(hd:KD k.str kd):(Instr.checkKey b 10000 kt k.val).run P w= .ok () w:=by
 cases k with
 |i n=>exact MapKept.run_checkKey hk (by have hd:kd= .int .i64:=hd;subst hd;exact rfl) b 9999
 |s c=>exact MapKept.run_checkKey hk (by have hd:kd= .string:=hd;subst hd;trivial) b 9999
theorem nP{k:MK}:∀ {es:List MapEntry}{j i:Nat}{v:Value},mpos k es j=some (i,v)->j<=i/\∃e,es[i- j]?=some e/\k.is e.key=true
 | [],j,i,v,h=>by simp [mpos]at h
 |e::es,j,i,v,h=>by
  rw [mpos]at h;split at h;·simp at h;obtain⟨rfl,rfl⟩:=h;exact⟨Nat.le_refl _,e,by simp,by assumption⟩
  ·obtain⟨h1,e',h2,h3⟩:=nP h;refine⟨by omega,e',?_,h3⟩;have:i- j=(i- (j+1))+1:=by omega
   rw [this];simpa using h2
theorem nL{k:MK}(e:MapEntry):∀(es:List MapEntry),aR k (es++[e])=match aR k es with |some x=>some x |none=>if k.is e.key then some e.val else none
 | []=>by simp [aR]
 |e'::es=>by
  rw [List.cons_append,aR,aR];split;·rfl
  ·exact nL e es
theorem nM{key:MK}{x:Value}:∀ {es:List MapEntry}{j i:Nat}{v:Value},mpos key es j=some (i,v)->jY key.str es->∀k:MK,k.str=key.str-> aR k (es.modify (i- j) fun e=>{e with key:=key.val,val:=x})=if k=key then some x else aR k es
 | [],j,i,v,h,_,_,_=>by simp [mpos]at h
 |e::es,j,i,v,h,hk,k,hs=>by
  obtain⟨q,hq,he⟩:=hk e (by simp);rw [mpos]at h;by_cases hb:key.is e.key=true
  ·rw [if_pos hb]at h;simp at h;obtain⟨rfl,rfl⟩:=h;rw [Nat.sub_self,List.modify_zero_cons,aR,aR];simp only;rw [MK.i4 k key hs];rw [he,MK.i4 key q hq.symm]at hb;have:key=q:=of_decide_eq_true hb;by_cases hkk:k=key;·simp [hkk]
   ·rw [if_neg (by simpa using hkk),if_neg hkk,he,MK.i4 k q (by rw [hs,hq]),if_neg (by rw [<-this];simpa using hkk)]
  ·rw [if_neg hb]at h;obtain⟨h1,_⟩:=nP h;have e1:i- j=(i- (j+1))+1:=by omega
   rw [e1,List.modify_succ_cons,aR,aR,nM h (fun e' he'=>hk e' (by simp [he'])) k hs];by_cases hkk:k=key;·subst hkk;simp [hb]
   ·simp only [if_neg hkk]
def tR(P:Program)(t:TypeId)(str:Bool)(et:TypeId):Prop:=∃kt kd,P.underlying t=some (.map kt et)/\P.underlying kt=some kd/\KD str kd
def yo(f:MF)(key:MK)(u:V):MF:=⟨(key,u)::f.l,f.rest⟩
theorem oL(f:MF)(key:MK)(u:V)(k:MK):(yo f key u).look k=if k=key then some u else f.look k:=rfl
def JE:MF:=⟨[],fun _=>none⟩
theorem kA.nil(r:V->Value->Prop)(str:Bool):kA r (str,0) JE.look [] 0:= ⟨by simp,fun k x _ h=>by simp [aR]at h,fun _ _ _=>rfl,rfl,by simp [EF]⟩
def nJ(f:MF)(key:MK)(n:Nat):Nat:=if(f.look key).isSome then n else n+1
theorem kA.set{r:V->Value->Prop}{f:MF}{es es':List MapEntry}{key:MK}{n m cl cl':Nat}{u:V}{x:Value}(h:kA r (key.str,n) f.look es cl)(hu:r u x)(hk:jY key.str es')(hn:es'.length=m)(hi:EF es' cl') (he:∀k:MK,k.str=key.str->aR k es'=if k=key then some x else aR k es):kA r (key.str,m) (yo f key u).look es' cl':=by
 refine⟨hk,fun k y hs hy=> ?_,fun k hs hy=> ?_,hn,hi⟩
 ·rw [he k hs]at hy;by_cases hkk:k=key
  ·rw [if_pos hkk]at hy;injection hy with hy;subst hy
   exact⟨u,by rw [oL,if_pos hkk],hu⟩
  ·rw [if_neg hkk]at hy;obtain⟨v,h1,h2⟩:=h.2.1 k y hs hy;exact⟨v,by rw [oL,if_neg hkk];exact h1,h2⟩
 ·rw [he k hs]at hy;by_cases hkk:k=key;·rw [if_pos hkk]at hy;cases hy
  ·rw [if_neg hkk]at hy;rw [oL,if_neg hkk];exact h.2.2.1 k hs hy
section
variable {P:Program}{W LB:Nat->Prop}{d:Option Tmp}{ty:TypeId}{pos:String}{af:Array Edge}{gd:Option (Nat×Bool)}{ev:Operand->V}
theorem zR(t:TypeId)(str:Bool)(id:Nat):aU P W LB ⟨d,.makeMap t none,ty,pos,af,gd⟩ ev (.own id) [] [id] [(id,some (.mp (str,0) JE))]:=by
 intro σ w L ρ g hG hr hpre hn;have hn':=hn id (by simp);obtain⟨hG',e⟩:=hG.put (World.grownBy_alloc w (.map #[] 0) none) (by simp) id (.map (some w.heap.size)) (.mp (str,0) JE) (σ1:=σ) (ρ':=bL ρ id (some (.map (some w.heap.size))))
  (fun i o hi ho=>⟨ho,by simp⟩) (fun i hi=>ah _ _ hi) (ak _ _ _) (.inl hn') (fun k hk=> .inr (by simp [blk]at hk;omega)) fun e=>
   ⟨w.heap.size,#[],0,ak _ _ _,(hG.new _ (Nat.le_refl _)).1,fun hL=>by have:=(hG.ll _ hL).1;omega,heap_alloc_new w _,kA.nil _ _⟩
 refine bk.value rfl (v:= .map (some w.heap.size)) (w':=w.alloc (.map #[] 0)) ?_ ⟨L,_,hG',.own _ _ _ (ak _ _ _) rfl,cB (L:=L) (World.grownBy_alloc w _ none) (by simp),e,fun i hi=>ah _ _ (by simpa using hi),dM.grown (World.grownBy_alloc w _ none) (by simp)⟩;simp [execOp,run_makeMap t w]
theorem sJ{w:World}{t et:TypeId}{key:MK}{b:Nat}{es:Array MapEntry}{cl:Nat}{x:Value}(ht:tR P t key.str et)(hb:w.heap[b]?=some (.map es cl))(hk:jY key.str es.toList)(hv:EF es.toList cl) :
    ∃es' cl',(Instr.mapUpdate t (.map (some b)) key.val x).run P w= .ok () (ChangeMaps.setBlock w b (.map es' cl'))/\jY key.str es'.toList/\es'.toList.length=(if(aR key es.toList).isSome then es.toList.length else es.toList.length+1)/\(∀k:MK,k.str=key.str->(aR k es'.toList=if k=key then some x else aR k es.toList))/\EF es'.toList cl':=by
  obtain⟨kt,kd,h1,h2,hd⟩:=ht
  have hfk:=run_findKey (P:=P) (w:=w) h2 hd hk
  have hck:=run_checkKey (P:=P) (w:=w) (k:=key) false h2 hd
  cases hp:mpos key es.toList 0 with
  |none=>
    have hf:aR key es.toList=none:=by rw [<-g9 key es.toList 0,hp];rfl
    refine⟨es.push ⟨key.val,x,cl⟩,cl+1,?_,fun e he=> ?_,by rw [hf];simp,fun k hs=> ?_,?_⟩
    · rw [hp]at hfk
      simp [Instr.mapUpdate,aA h1,MapKept.run_getObj_map hb,hck,hfk,MapKept.run_setObj_map _ hb,Result.andThen,ChangeMaps.setBlock]
    · rw [Array.toList_push,List.mem_append]at he
      rcases he with he |he
      · exact hk e he
      · simp at he;subst he;exact⟨key,rfl,rfl⟩
    · rw [Array.toList_push,nL]
      by_cases hkk:k=key
      · subst hkk
        rw [hf,if_pos rfl]
        simp [MK.i4]
      · rw [if_neg hkk]
        cases hm:aR k es.toList with
        |some y=>rfl
        |none=>simp [MK.i4 k key hs,hkk]
    · obtain⟨v1,v2,v3⟩:=hv
      rw [Array.toList_push]
      refine⟨?_,?_,fun e he=> ?_⟩
      · rw [List.map_append,List.nodup_append]
        refine⟨v1,by simp,fun a ha b hb e=> ?_⟩
        simp only [List.map_cons,List.map_nil,List.mem_singleton]at hb
        obtain⟨e0,he0,rfl⟩:=List.mem_map.1 ha
        obtain⟨q,hq1,hq2⟩:=hk e0 he0
        have h5:key.is e0.key=true:=by rw [e,hb,MK.i4 key key rfl];simp
        obtain⟨i,hi⟩:=List.getElem?_of_mem he0
        have:∀(l:List MapEntry) (j:Nat),e0∈l->mpos key l j≠none:=by
          intro l
          induction l with
          |nil=>intro j h;simp at h
          |cons a l ih=>
            intro j h
            rw [mpos]
            split
            · simp
            · rename_i hn
              rcases List.mem_cons.1 h with rfl |h
              · exact absurd h5 hn
              · exact ih _ h
        exact this _ _ he0 hp
      · rw [List.map_append,List.nodup_append]
        refine⟨v2,by simp,fun a ha b hb e=> ?_⟩
        simp only [List.map_cons,List.map_nil,List.mem_singleton]at hb
        obtain⟨e0,he0,rfl⟩:=List.mem_map.1 ha
        have:=v3 e0 he0
        omega
      · rcases List.mem_append.1 he with he |he
        · have:=v3 e he;omega
        · simp at he;subst he;simp
  |some p=>
    obtain⟨i,v⟩:=p
    obtain⟨_,e,he,hq⟩:=nP hp
    have hm:=fun k hs=>nM (x:=x) hp hk k hs
    obtain⟨q,hqs,hqe⟩:=hk e (List.mem_of_getElem? he)
    have hqk:key=q:=by
      rw [hqe,MK.i4 key q hqs.symm]at hq
      exact of_decide_eq_true hq
    have hei:es[i]?=some e:=by simpa using he
    have hst:(Instr.keyThatStays key.val key.val).run P w= .ok key.val w:=by
      unfold Instr.keyThatStays
      have:Instr.sameBits 10000 key.val key.val=true:=by cases key <;> simp [Instr.sameBits,MK.val,MapKept.bytes_beq]
      simp [this]
    rw [hp]at hfk
    refine⟨es.modify i fun e=>{e with key:=key.val,val:=x},cl,?_,fun e' he'=> ?_,by rw [<-g9 key es.toList 0,hp];simp,fun k hs=> ?_,?_⟩
    · have hek:e.key=key.val:=by rw [hqe,hqk]
      simp [Instr.mapUpdate,aA h1,MapKept.run_getObj_map hb,hck,hfk,hei,hek,hst,MapKept.run_setObj_map _ hb,Result.andThen,ChangeMaps.setBlock]
    · rcases MapFrom.mem_modify he' with h | ⟨e0,_,rfl⟩
      · exact hk e' h
      · exact⟨key,rfl,rfl⟩
    · have:=hm k hs
      rw [Nat.sub_zero]at this
      rw [Array.toList_modify]
      exact this
    · obtain⟨v1,v2,v3⟩:=hv
      have hek:e.key=key.val:=by rw [hqe,hqk]
      rw [Array.toList_modify]
      have e1:(es.toList.modify i fun e=>{e with key:=key.val,val:=x}).map (·.key)=es.toList.map (·.key):=by
        refine List.ext_getElem? fun j=> ?_
        simp only [List.getElem?_map,List.getElem?_modify]
        by_cases hj:i=j
        · subst hj
          have:es.toList[i]?=some e:=by simpa using hei
          rw [this];simp [hek]
        · simp [hj]
      have e2:(es.toList.modify i fun e=>{e with key:=key.val,val:=x}).map (·.born)=es.toList.map (·.born):=by
        refine List.ext_getElem? fun j=> ?_
        simp only [List.getElem?_map,List.getElem?_modify]
        by_cases hj:i=j
        · subst hj
          cases es.toList[i]? <;> simp
        · simp [hj]
      refine⟨by rw [e1];exact v1,by rw [e2];exact v2,fun e' he'=> ?_⟩
      have h6:e'.born∈(es.toList.modify i fun e=>{e with key:=key.val,val:=x}).map (·.born):=List.mem_map.2 ⟨e',he',rfl⟩
      rw [e2]at h6
      obtain⟨e0,he0,h7⟩:=List.mem_map.1 h6
      rw [<-h7];exact v3 e0 he0
theorem C3(t:TypeId)(m k x:Operand){id n:Nat}{f:MF}{key:MK}{u:V}{et:TypeId}(hm:ev m= .own id)(hk:ev k= .c key.val)(hx:ev x=u)(ht:tR P t key.str et) : aU P W LB ⟨d,.insert t m k x,ty,pos,af,gd⟩ ev .any [(id,.mp (key.str,n) f)] [] [(id,some (.mp (key.str,nJ f key n) (yo f key u)))]:=by
 intro σ w L ρ g hG hr hpre _;have hσ:=hpre _ (List.mem_singleton.2 rfl);have r1:=hr m (by simp [Op.operands]);have r2:=hr k (by simp [Op.operands]);have r3:=hr x (by simp [Op.operands]);rw [hm]at r1;rw [hk]at r2;rw [hx]at r3;obtain⟨b,es,cl,hρ,hW,hL,hh,hrel⟩:=hG.ob id _ hσ;have e1:=r1.cX;rw [hρ]at e1;injection e1 with e1
 have e2:=r2.aN;obtain⟨es',cl',hrun,hk',hn',hf',hi'⟩:=sJ (x:=g x) ht hh hrel.1 hrel.2.2.2.2;have hcnt:es'.toList.length=nJ f key n:=by
  have e5:(aR key es.toList).isSome=(f.look key).isSome:=by
   cases hm:aR key es.toList with
   |none=>rw [hrel.2.2.1 key rfl hm];rfl
   |some y=>obtain⟨u',hu',_⟩:=hrel.2.1 key y rfl hm;rw [hu'];rfl
  have e6:es.toList.length=n:=hrel.2.2.2.1;rw [hn',e5,e6,nJ]
 have hgr:w.grownBy (ChangeMaps.setBlock w b (.map es' cl')) (some b):=World.mapTurned.grown ⟨es,cl,es',cl',hh,rfl⟩;have hch:∀k,some b=some k->W k/\¬L k:=by rintro k hk;injection hk with hk;subst hk;exact⟨hW,hL⟩
 obtain⟨hG',ex⟩:=hG.put (σ1:=σ) (ρ':=ρ) hgr hch id _ (.mp (key.str,nJ f key n) (yo f key u)) (fun j ob hj ho=>⟨ho,fun z hz k hk hkz=>by
   injection hk with hk;subst hk;exact hG.sep j id z _ b hj (by rw [ho];simp) (by rw [hσ];simp) hz hρ hkz rfl⟩) (fun _ _=>rfl) hρ (.inr hρ) (fun k hk=> .inl (by simpa [blk]using hk)) (fun ex=>
    ⟨b,es',cl',hρ,hW,hL,ChangeMaps.heap_setBlock_same hh _,(hrel.imp fun _ _ _ _ h=>h.ext ex).set (r3.ext ex) hk' hcnt hi' hf'⟩)
 refine bk.skip rfl (w':=ChangeMaps.setBlock w b (.map es' cl')) ?_ ⟨L,ρ,hG',.any _ _,cB hgr hch,ex,fun _ _=>rfl,fun D hD=>⟨(hgr.block D (Array.getElem?_eq_some_iff.1 hD).1 fun e=> ?_).trans hD,fun h=>h⟩⟩;·simp only [execOp];rw [<-e1,e2];simp [hrun]
 ·injection e with e;subst e;rw [hh]at hD;cases hD
theorem vj(t:TypeId)(m k x:Operand){id n:Nat}{f:MF}{key:MK}{u:V}{et:TypeId}(hm:ev m= .own id)(hk:ev k= .c key.val)(hx:ev x=u)(ht:tR P t key.str et) : aU P W LB ⟨d,.mapUpdate t m k x,ty,pos,af,gd⟩ ev .any [(id,.mp (key.str,n) f)] [] [(id,some (.mp (key.str,nJ f key n) (yo f key u)))]:=by
 intro σ w L ρ g hG hr hpre _;have hσ:=hpre _ (List.mem_singleton.2 rfl);have r1:=hr m (by simp [Op.operands]);have r2:=hr k (by simp [Op.operands]);have r3:=hr x (by simp [Op.operands]);rw [hm]at r1;rw [hk]at r2;rw [hx]at r3;obtain⟨b,es,cl,hρ,hW,hL,hh,hrel⟩:=hG.ob id _ hσ;have e1:=r1.cX;rw [hρ]at e1;injection e1 with e1
 have e2:=r2.aN;obtain⟨es',cl',hrun,hk',hn',hf',hi'⟩:=sJ (x:=g x) ht hh hrel.1 hrel.2.2.2.2;have hcnt:es'.toList.length=nJ f key n:=by
  have e5:(aR key es.toList).isSome=(f.look key).isSome:=by
   cases hm:aR key es.toList with
   |none=>rw [hrel.2.2.1 key rfl hm];rfl
   |some y=>obtain⟨u',hu',_⟩:=hrel.2.1 key y rfl hm;rw [hu'];rfl
  have e6:es.toList.length=n:=hrel.2.2.2.1;rw [hn',e5,e6,nJ]
 have hgr:w.grownBy (ChangeMaps.setBlock w b (.map es' cl')) (some b):=World.mapTurned.grown ⟨es,cl,es',cl',hh,rfl⟩;have hch:∀k,some b=some k->W k/\¬L k:=by rintro k hk;injection hk with hk;subst hk;exact⟨hW,hL⟩
 obtain⟨hG',ex⟩:=hG.put (σ1:=σ) (ρ':=ρ) hgr hch id _ (.mp (key.str,nJ f key n) (yo f key u)) (fun j ob hj ho=>⟨ho,fun z hz k hk hkz=>by
   injection hk with hk;subst hk;exact hG.sep j id z _ b hj (by rw [ho];simp) (by rw [hσ];simp) hz hρ hkz rfl⟩) (fun _ _=>rfl) hρ (.inr hρ) (fun k hk=> .inl (by simpa [blk]using hk)) (fun ex=>
    ⟨b,es',cl',hρ,hW,hL,ChangeMaps.heap_setBlock_same hh _,(hrel.imp fun _ _ _ _ h=>h.ext ex).set (r3.ext ex) hk' hcnt hi' hf'⟩)
 refine bk.skip rfl (w':=ChangeMaps.setBlock w b (.map es' cl')) ?_ ⟨L,ρ,hG',.any _ _,cB hgr hch,ex,fun _ _=>rfl,fun D hD=>⟨(hgr.block D (Array.getElem?_eq_some_iff.1 hD).1 fun e=> ?_).trans hD,fun h=>h⟩⟩;·simp only [execOp];rw [<-e1,e2];simp [hrun]
 ·injection e with e;subst e;rw [hh]at hD;cases hD
theorem sI{w:World}{t et:TypeId}{key:MK}{b:Nat}{es:Array MapEntry}{cl:Nat}(c:Bool)(ht:tR P t key.str et)(hb:w.heap[b]?=some (.map es cl))(hk:jY key.str es.toList){z:Value}(hz:(zeroValue et).run P w= .ok z w) : (Instr.lookup t (.map (some b)) key.val c).run P w= .ok (if c then .tuple #[(aR key es.toList).getD z,.bool (aR key es.toList).isSome]else(aR key es.toList).getD z) w:=by
 obtain⟨kt,kd,h1,h2,hd⟩:=ht;have hfk:=run_findKey (P:=P) (w:=w) h2 hd hk;have hck:=run_checkKey (P:=P) (w:=w) (k:=key) es.isEmpty h2 hd;have hp:=g9 key es.toList 0;cases hm:mpos key es.toList 0 with
 |none=>rw [hm]at hp hfk;rw [<-hp];simp [Instr.lookup,aA h1,MapKept.run_getObj_map hb,hck,hfk,hz,Result.andThen]
 |some p=>obtain⟨i,v⟩:=p;rw [hm]at hp hfk;rw [<-hp];simp [Instr.lookup,aA h1,MapKept.run_getObj_map hb,hck,hfk,Result.andThen]
theorem BC(t:TypeId)(m k:Operand){id n:Nat}{f:MF}{key:MK}{et:TypeId}{z:Value}{vz:V}(hm:ev m= .own id)(hk:ev k= .c key.val)(ht:tR P t key.str et) (hz:∀w,(zeroValue et).run P w= .ok z w) (hvz:∀w L ρ,R w L ρ vz z) : aU P W LB ⟨d,.lookup t m k true,ty,pos,af,gd⟩ ev (.tup [(f.look key).getD vz,.b (f.look key).isSome]) [(id,.mp (key.str,n) f)] [] []:=by
 intro σ w L ρ g hG hr hpre _;have hσ:=hpre _ (List.mem_singleton.2 rfl);have r1:=hr m (by simp [Op.operands]);have r2:=hr k (by simp [Op.operands]);rw [hm]at r1;rw [hk]at r2;obtain⟨b,es,cl,hρ,hW,hL,hh,hrel⟩:=hG.ob id _ hσ;have e1:=r1.cX;rw [hρ]at e1;injection e1 with e1
 have e2:=r2.aN;have hrun:=sI (c:=true) ht hh hrel.1 (hz w);have hv:R w L ρ ((f.look key).getD vz) ((aR key es.toList).getD z)/\(f.look key).isSome=(aR key es.toList).isSome:=by
  cases hm:aR key es.toList with
  |none=>rw [hrel.2.2.1 key rfl hm];exact⟨hvz _ _ _,rfl⟩
  |some x=>obtain⟨u,hu,hr⟩:=hrel.2.1 key x rfl hm;rw [hu];exact⟨hr,rfl⟩
 refine bk.value rfl (v:= .tuple #[(aR key es.toList).getD z,.bool (aR key es.toList).isSome]) (w':=w) ?_ ⟨L,ρ,hG,.wK (.cons hv.1 (.cons (by rw [hv.2];exact .c _ _) .nil)),aZ.refl _ _,Ext.refl _ _ _,fun _ _=>rfl,dM.refl _ _⟩;simp only [execOp];rw [<-e1,e2];simp [hrun]
theorem xk(t:TypeId)(m k:Operand){id n:Nat}{f:MF}{key:MK}{et:TypeId}{z:Value}{vz:V}(hm:ev m= .own id)(hk:ev k= .c key.val)(ht:tR P t key.str et) (hz:∀w,(zeroValue et).run P w= .ok z w) (hvz:∀w L ρ,R w L ρ vz z) : aU P W LB ⟨d,.lookup t m k false,ty,pos,af,gd⟩ ev ((f.look key).getD vz) [(id,.mp (key.str,n) f)] [] []:=by
 intro σ w L ρ g hG hr hpre _;have hσ:=hpre _ (List.mem_singleton.2 rfl);have r1:=hr m (by simp [Op.operands]);have r2:=hr k (by simp [Op.operands]);rw [hm]at r1;rw [hk]at r2;obtain⟨b,es,cl,hρ,hW,hL,hh,hrel⟩:=hG.ob id _ hσ;have e1:=r1.cX;rw [hρ]at e1;injection e1 with e1
 have e2:=r2.aN;have hrun:=sI (c:=false) ht hh hrel.1 (hz w);have hv:R w L ρ ((f.look key).getD vz) ((aR key es.toList).getD z):=by
  cases hm:aR key es.toList with
  |none=>rw [hrel.2.2.1 key rfl hm];exact hvz _ _ _
  |some x=>obtain⟨u,hu,hr⟩:=hrel.2.1 key x rfl hm;rw [hu];exact hr
 refine bk.value rfl (v:=(aR key es.toList).getD z) (w':=w) ?_ ⟨L,ρ,hG,hv,aZ.refl _ _,Ext.refl _ _ _,fun _ _=>rfl,dM.refl _ _⟩;simp only [execOp];rw [<-e1,e2];simp [hrun]
theorem E4(t:TypeId)(m k:Operand){has:MK->Bool}{key:MK}{et:TypeId}{z:Value}(hm:ev m= .fset key.str has)(hk:ev k= .c key.val)(ht:tR P t key.str et) (hz:∀w,(zeroValue et).run P w= .ok z w){u:V}(hu:u= .any\/u= .agg []/\∀w L ρ,R w L ρ u z):aD P ⟨d,.lookup t m k true,ty,pos,af,gd⟩ ev (.tup [u,.b (has key)]):= aD.same rfl fun w L ρ g hr=>by
 have r1:=hr m (by simp [Op.operands]);have r2:=hr k (by simp [Op.operands]);rw [hm]at r1;rw [hk]at r2;have e2:=r2.aN;generalize g m=x at r1;obtain⟨b,es,cl,e1,hh,hkk,hf⟩:∃b es cl,g m= .map (some b)/\w.heap[b]?=some (.map es cl)/\jY key.str es.toList/\∀k:MK,k.str=key.str->(aR k es.toList).isSome=has k/\∀y,aR k es.toList=some y->y= .agg #[]:=by
  have r1:=hr m (by simp [Op.operands]);rw [hm]at r1;generalize g m=x at r1;cases r1 with
  |fset _ _ _ b es cl hb hh hk hf=>exact⟨b,es,cl,rfl,hh,hk,hf⟩
 have hrun:=sI (c:=true) ht hh hkk (hz w);refine⟨.tuple #[(aR key es.toList).getD z,.bool (aR key es.toList).isSome],?_,.wK (.cons ?_ (.cons (by rw [<-(hf key rfl).1];exact .c _ _) .nil))⟩;·simp only [execOp];rw [e1,e2];simp [hrun]
 ·rcases hu with rfl | ⟨rfl,hu⟩;·exact .any _ _
  ·cases hm:aR key es.toList with
   |none=>exact hu _ _ _
   |some y=>rw [(hf key rfl).2 y hm];exact .lZ ⟨rfl,fun i u x h=>by simp at h⟩
theorem IE(t:TypeId)(x:Operand){id et:Nat}{str:Bool}{s:Bool×Nat}{f:MF}(ht:tR P t str et)(hx:ev x= .own id) : aU P W LB ⟨d,.call {callee:= .builtin .len,args:= #[x],argTypes:= #[t]},ty,pos,af,gd⟩ ev (.i (s.2:Nat)) [(id,.mp s f)] [] []:=by
 intro σ w L ρ g hG hr hpre _;have hσ:=hpre _ (List.mem_singleton.2 rfl);have r1:=hr x (by simp [Op.operands,Call.operands]);rw [hx]at r1;obtain⟨b,es,cl,hρ,hW,hL,hh,hrel⟩:=hG.ob id _ hσ;have e1:=r1.cX;rw [hρ]at e1;injection e1 with e1
 obtain⟨kt,kd,hu,_⟩:=ht;have hn:es.size=s.2:=by have:=hrel.2.2.2.1;simpa using this
 refine bk.value rfl (v:= .int .i64 (es.size:Nat)) (w':=w) ?_ ⟨L,ρ,hG,by rw [hn];exact .c _ _,aZ.refl _ _,Ext.refl _ _ _,fun _ _=>rfl,dM.refl _ _⟩;simp [execOp,resolve,invoke,builtin,Builtin.len_,<-e1,aA hu,goInt,MapKept.run_getObj_map hh]
end
def nN(f:MF)(key:MK)(z:V):V:=(f.look key).getD z
def v9(f:MF)(key:MK):Bool:=(f.look key).isSome
def GX(f:MF)(key:MK):Int:=match f.look key with
 |some (.c (.int _ n))=>n
 |_=>0
def DT:V->Option MK
 | .c (.int .i64 n)=>some (.i n)
 | .c (.string b)=>some (.s b)
 |_=>none
theorem iz{v:V}{k:MK}(h:DT v=some k):v= .c k.val:=by
 unfold DT at h;split at h;·injection h with h;subst h;rfl
 ·injection h with h;subst h;rfl
 ·cases h
def pW(T:List TI)(t:Nat):Option (Bool×Nat):=match (T.getD t bE).tC with
 |some n=>if 1000010<=n/\n< 2000000 then some (n% 2 == 0,(n- 1000010) / 2)else none
 |none=>none
def HW(T:List TI)(t:Nat):Option V:=match (T.getD t bE).zero,(T.getD t bE).agg with
 |some zs,some true=>some (.agg zs)
 |some [v],some false=>some v
 |_,_=>none
theorem fO{P:Program}{T:List TI}(hT:aK T P){t et:Nat}{str:Bool}(h:pW T t=some (str,et)):tR P t str et/\Ex P et=true:=by
 unfold pW at h;split at h
 ·rename_i n hn;split at h
  ·rename_i hr;simp only [Option.some.injEq,Prod.mk.injEq]at h;obtain⟨h1,h2⟩:=h;rcases lC (hT.NR hn)with⟨e,_⟩ | ⟨e,_⟩ | ⟨s',e,_⟩ | ⟨e,_⟩ | ⟨kt,et',e,_,_,hu⟩;·omega
   ·omega
   ·have:=jw s';omega
   ·omega
   ·rcases o6 e with⟨e1,_,e3,e4⟩ | ⟨e1,_,e3,e4⟩
    ·have:et'=et:=by omega
     subst this;have hs:str=true:=by rw [<-h1,beq_iff_eq];omega
     subst hs;exact⟨⟨kt,_,hu,e3,rfl⟩,e4⟩
    ·have:et'=et:=by omega
     subst this;have hs:str=false:=by rw [<-h1];exact beq_eq_false_iff_ne.2 oM
     subst hs;exact⟨⟨kt,_,hu,e3,rfl⟩,e4⟩
  ·cases h
 ·cases h
theorem Kj{P:Program}{et:Nat}(h:Ex P et=true):∃z,∀w,(zeroValue et).run P w= .ok z w:=by
 unfold Ex at h;split at h
 ·rename_i i hi;cases hz:i.zero with
  |none=>simp [hz]at h
  |some z=>exact⟨z,fun w=>by simp [zeroValue,typeInfo,hi,hz]⟩
 ·cases h
theorem uZ{P:Program}{T:List TI}(hT:aK T P){et:Nat}{vz:V}(h:HW T et=some vz)(ho:Ex P et=true):∃z,(∀w,(zeroValue et).run P w= .ok z w)/\∀w L ρ,R w L ρ vz z:=by
 cases hi:P.info? et with
 |none=>simp [Ex,hi]at ho
 |some i=>
 cases hz:i.zero with
 |none=>simp [Ex,hi,hz]at ho
 |some z=>
 have run:∀w,(zeroValue et).run P w= .ok z w:=fun w=>by simp [zeroValue,typeInfo,hi,hz]
 have cl:∀zs,(T.getD et bE).zero=some zs->z.cells.toList.all (·.oneCell')=true/\zs=z.cells.toList.map A9:=by
  intro zs hzs;obtain⟨i',z',h1,h2,h3,h4⟩:=eZ (hT.zero hzs);rw [hi]at h1;injection h1 with h1;subst h1
  rw [hz]at h2;injection h2 with h2;subst h2
  exact⟨h3,h4⟩
 unfold HW at h;split at h
 ·rename_i zs hzs hag;have hag:=hT.agg hag;injection h with h;subst h;obtain⟨c1,c2⟩:=cl _ hzs;have hxs:∃xs,z= .agg xs:=by simp only [Ex,hi,hz,hag]at ho;cases z <;> first |exact⟨_,rfl⟩ |simp at ho
  obtain⟨xs,rfl⟩:=hxs;refine⟨_,run,fun w L ρ=> .lZ ?_⟩;have:=m0 w L ρ (Value.agg xs).cells.toList c1;rw [<-c2]at this;exact this
 ·rename_i v hzs hag;have hag:=hT.agg hag;injection h with h;subst h;obtain⟨c1,c2⟩:=cl _ hzs;have hcell:z.cells= #[z]:=by simp only [Ex,hi,hz,hag]at ho;cases z <;> first |rfl |simp at ho
  refine⟨z,run,fun w L ρ=> ?_⟩;rw [hcell]at c2;simp at c2;rw [c2];exact R.A9 _ _ _ _
 ·cases h
def NV(T:List TI)(et:Nat):V:=match HW T et with
 |some (.agg [])=> .agg []
 |_=> .any
theorem F5{P:Program}{T:List TI}(hT:aK T P){et:Nat}(ho:Ex P et=true):∃z,(∀w,(zeroValue et).run P w= .ok z w)/\(NV T et= .any\/NV T et= .agg []/\∀w L ρ,R w L ρ (NV T et) z):=by
 unfold NV;split;·rename_i h;obtain⟨z,h1,h2⟩:=uZ hT h ho;exact⟨z,h1,.inr ⟨rfl,h2⟩⟩
 ·obtain⟨z,h1⟩:=Kj ho;exact⟨z,h1,.inl rfl⟩
def vm(T:List TI)(nx:Nat)(o:Oper)(e:Operand->V)(σ:Nat->Option Ob):Option SR:=
 match o.op with
  | .makeMap t none=>match pW T t,o.dst with
   |some (str,_),some q=>some ⟨True,.own (nx*100000+q),[],[nx*100000+q],[(nx*100000+q,some (.mp (str,0) JE))]⟩
   |_,_=>none
  | .insert t m k x=>match pW T t,e m,DT (e k)with
   |some (str,_),.own id,some key=>match σ id with
    |some (.mp (str',n) f)=>if str'=key.str/\str=key.str then some ⟨True,.any,[(id,.mp (str',n) f)],[],[(id,some (.mp (str',nJ f key n) (yo f key (e x))))]⟩else none
    |_=>none
   |_,_,_=>none
  | .mapUpdate t m k x=>match pW T t,e m,DT (e k)with
   |some (str,_),.own id,some key=>match σ id with
    |some (.mp (str',n) f)=>if str'=key.str/\str=key.str then some ⟨True,.any,[(id,.mp (str',n) f)],[],[(id,some (.mp (str',nJ f key n) (yo f key (e x))))]⟩else none
    |_=>none
   |_,_,_=>none
  | .lookup t m k c=>match pW T t,e m,DT (e k)with
   |some (str,et),.own id,some key=>match σ id with
    |some (.mp (str',n) f)=>if str'=key.str/\str=key.str then(match HW T et with
     |some vz=>match (T.getD et bE).kind with
      |some kd=>some ⟨nN f key vz= .c (.int kd (GX f key)),if c then .tup [.c (.int kd (GX f key)),.b (v9 f key)]else .c (.int kd (GX f key)),[(id,.mp (str',n) f)],[],[]⟩
      |none=>some ⟨True,if c then .tup [nN f key vz,.b (v9 f key)]else nN f key vz,[(id,.mp (str',n) f)],[],[]⟩
     |none=>none)else none
    |_=>none
   |some (str,et),.fset s has,some key=>if s=key.str/\str=key.str/\c=true then some ⟨True,.tup [NV T et,.b (has key)],[],[],[]⟩else none
   |_,_,_=>none
  | .call c=>match c.callee with
   | .builtin .len=>match c.args,c.argTypes with
    | ⟨[x]⟩,⟨[t]⟩=>match pW T t,e x with
     |some (_,_),.own id=>match σ id with
      |some (.mp s f)=>some ⟨True,.i (s.2:Nat),[(id,.mp s f)],[],[]⟩
      |_=>none
     |_,_=>none
    |_,_=>none
   |_=>none
  |_=>none
theorem vn{P:Program}{W LB:Nat->Prop}{T:List TI}(hT:aK T P){nx:Nat}{σ:Nat->Option Ob}{e:Operand->V}(o:Oper){r:SR}(h:vm T nx o e σ=some r)(hc:r.c):iI P W LB nx σ o e r:=by
 obtain⟨d,op,ty,pos,af,gd⟩:=o;unfold vm at h;simp only at h;split at h
 ·split at h;·injection h with h;subst h;exact⟨zR _ _ _,by simp,.inr ⟨_,rfl,rfl⟩⟩
  ·cases h
 ·split at h
  ·rename_i str et id key hm em ek;split at h
   ·rename_i str' n f hσ;split at h;·rename_i hh;obtain⟨rfl,rfl⟩:=hh;injection h with h;subst h;exact⟨C3 _ _ _ _ em (iz ek) rfl (fO hT hm).1,by simpa using hσ,.inl rfl⟩
    ·cases h
   ·cases h
  ·cases h
 ·split at h
  ·rename_i str et id key hm em ek;split at h
   ·rename_i str' n f hσ;split at h;·rename_i hh;obtain⟨rfl,rfl⟩:=hh;injection h with h;subst h;exact⟨vj _ _ _ _ em (iz ek) rfl (fO hT hm).1,by simpa using hσ,.inl rfl⟩
    ·cases h
   ·cases h
  ·cases h
 ·rename_i c;split at h
  ·rename_i str et id key hm em ek;split at h
   ·rename_i str' n f hσ;split at h
    ·rename_i hh;obtain⟨rfl,rfl⟩:=hh;split at h
     ·rename_i vz hvz;obtain⟨q1,q2⟩:=fO hT hm;obtain⟨z,z1,z2⟩:=uZ hT hvz q2;split at h
      ·injection h with h;subst h;have hc:nN f key vz=_:=hc;cases c;·refine⟨?_,by simpa using hσ,.inl rfl⟩;show aU _ _ _ _ _ (V.c _) _ _ _;rw [<-hc];exact xk _ _ _ em (iz ek) q1 z1 z2
       ·refine⟨?_,by simpa using hσ,.inl rfl⟩;show aU _ _ _ _ _ (V.tup [V.c _,_]) _ _ _;rw [<-hc];exact BC _ _ _ em (iz ek) q1 z1 z2
      ·injection h with h;subst h;cases c;·exact⟨xk _ _ _ em (iz ek) q1 z1 z2,by simpa using hσ,.inl rfl⟩
       ·exact⟨BC _ _ _ em (iz ek) q1 z1 z2,by simpa using hσ,.inl rfl⟩
     ·cases h
    ·cases h
   ·cases h
  ·rename_i str et s has key hm em ek;split at h;·rename_i hh;obtain⟨rfl,rfl,rfl⟩:=hh;injection h with h;subst h;obtain⟨q1,q2⟩:=fO hT hm;obtain⟨z,z1,z2⟩:=F5 hT q2;exact⟨(E4 _ _ _ em (iz ek) q1 z1 z2).step,by simp,.inl rfl⟩
   ·cases h
  ·cases h
 ·rename_i c;obtain⟨callee,args,ats⟩:=c;simp only at h;split at h
  ·split at h
   ·split at h
    ·rename_i x t _ _ str et id hm ex;split at h;·rename_i s f hσ;injection h with h;subst h;exact⟨IE t x (fO hT hm).1 ex,by simpa using hσ,.inl rfl⟩
     ·cases h
    ·cases h
   ·cases h
  ·cases h
 ·cases h
def t8(b:ByteArray)(i:Nat):Int:=match b.data[i]? with
 |some x=>(x.toNat:Int)
 |none=>0
section
variable {P:Program}{W LB:Nat->Prop}{d:Option Tmp}{ty:TypeId}{pos:String}{af:Array Edge}{gd:Option (Nat×Bool)}{ev:Operand->V}
theorem CV(t:TypeId)(x:Operand){b:ByteArray}(ht:P.underlying t=some .string)(hx:ev x= .c (.string b)):aD P ⟨d,.call {callee:= .builtin .len,args:= #[x],argTypes:= #[t]},ty,pos,af,gd⟩ ev (.i (b.size:Nat)):= aD.same rfl fun w L ρ g hr=>by have h1:=hr x (by simp [Op.operands,Call.operands]);rw [hx]at h1;have e1:=h1.aN;exact⟨_,by simp [execOp,resolve,invoke,builtin,Builtin.len_,e1,aA ht,goInt],.c _ _⟩
theorem xd(t:TypeId)(x ix:Operand){b:ByteArray}{k:IntKind}{i:Int}(ht:P.underlying t=some .string)(hx:ev x= .c (.string b))(hi:ev ix= .c (.int k i))(hc:0<=i/\i< b.size) : aD P ⟨d,.index t x ix,ty,pos,af,gd⟩ ev (.c (.int .u8 (t8 b i.toNat))):= aD.same rfl fun w L ρ g hr=>by
 have h1:=hr x (by simp [Op.operands]);have h2:=hr ix (by simp [Op.operands]);rw [hx]at h1;rw [hi]at h2;have e1:=h1.aN;have e2:=h2.aN;have hlt:i.toNat< b.size:=by omega
 have e3:t8 b i.toNat=(b[i.toNat]'hlt).toNat:=by
  have:b.data[i.toNat]?=some b[i.toNat]:=by have h:i.toNat< b.data.size:=hlt;rw [Array.getElem?_eq_getElem h];rfl
  rw [t8,this]
 refine⟨.int .u8 (t8 b i.toNat),?_,.c _ _⟩;simp only [execOp,e1,e2];rw [e3];have:=run_index_string w t b k i ht;rw [dif_pos ⟨hc.1,by exact_mod_cast hc.2⟩]at this;simp [this]
theorem xh(t:TypeId)(x:Operand)(lo hi:Option Operand){b:ByteArray}{l h:Int}(ht:P.underlying t=some .string)(hx:ev x= .c (.string b))(hl:mY ev lo=some l)(hh:kn ev b.size hi=some h)(hc:0<=l/\l<=h/\h<=b.size) : aD P ⟨d,.slice t x lo hi none,ty,pos,af,gd⟩ ev (.c (.string (b.extract l.toNat h.toNat))):= aD.same rfl fun w L ρ g hr=>by
 have h1:=hr x (by simp [Op.operands]);rw [hx]at h1;have e1:=h1.aN;have hlo:∀y,lo=some y->∃k,g y= .int k l:=by
  rintro y rfl;have h2:=hr y (by simp [Op.operands]);simp only [mY]at hl;split at hl;·rename_i k a ea;injection hl with hl;subst hl;rw [ea]at h2;exact⟨k,h2.aN⟩
  ·cases hl
 have hhi:∀y,hi=some y->∃k,g y= .int k h:=by
  rintro y rfl;have h2:=hr y (by simp [Op.operands]);simp only [kn]at hh;split at hh;·rename_i k a ea;injection hh with hh;subst hh;rw [ea]at h2;exact⟨k,h2.aN⟩
  ·cases hh
 suffices run:(Instr.sliceAt t (g x) (lo.map g) (hi.map g) none).run P w= .ok (.string (b.extract l.toNat h.toNat)) w from⟨.string (b.extract l.toNat h.toNat),by simp [execOp,run],.c _ _⟩
 rw [run_sliceAt_string w t _ _ _ _ ht,e1];have b1:(0:Int)<=l:=hc.1;have b2:l<=h:=hc.2.1;have b3:h<=b.size:=hc.2.2;have eh:(h.toNat:Int)=h:=Int.toNat_of_nonneg oM;have b4:(0:Int)<=h:=by omega
 cases lo with
 |none=>
  simp only [mY,Option.some.injEq]at hl;subst hl;cases hi with
  |none=>simp only [kn,Option.some.injEq]at hh;subst hh;simp [Instr.slice,aA ht,Instr.sliceBounds]
  |some y=>obtain⟨k,ey⟩:=hhi y rfl;simp [Instr.slice,aA ht,Instr.sliceBounds,ey,Instr.sliceBound,asIntOf,b3,b4]
 |some z=>
  obtain⟨k',ez⟩:=hlo z rfl;cases hi with
  |none=>simp only [kn,Option.some.injEq]at hh;subst hh;simp [Instr.slice,aA ht,Instr.sliceBounds,ez,Instr.sliceBound,asIntOf,b1,b2]
  |some y=>obtain⟨k,ey⟩:=hhi y rfl;simp [Instr.slice,aA ht,Instr.sliceBounds,ey,ez,Instr.sliceBound,asIntOf,b1,b2,b3,b4,eh]
theorem vh(s t:TypeId)(x:Operand){b:ByteArray}{e:TypeId}(hs:P.underlying s=some .string)(ht:dw P t=some e)(hk:uW P e=some .u8)(hx:ev x= .c (.string b)) : aD P ⟨d,.convert s t x,ty,pos,af,gd⟩ ev (.sl 1 b.size fun i=>[.c (.int .u8 (t8 b i))]):=by
 intro w L ρ g hr hlt;have h1:=hr x (by simp [Op.operands]);rw [hx]at h1;have e1:=h1.aN;have run:=run_bytes_of_string w s t e b hs (bM ht) (sW hk);have hge:=grownCap_ge w b.size 0 e;obtain⟨cap,hcap⟩:∃cap,cap=grownCap w b.size 0 e:=⟨_,rfl⟩;rw [<-hcap]at run hge;refine bk.value rfl (v:= .slice (some ⟨w.heap.size,0,none⟩) b.size cap) (w':=w.drew.alloc (.cells (bytesRow b cap) e ((bytesRow b cap).size,(bytesRow b cap).size+1))) ?_ ⟨fy (bC w.drew _),fun b'=>L b'\/b'=w.heap.size,fun _ h=> .inl h,fun b' h=>h.imp id fun e=>by subst e;exact⟨Nat.le_refl _,by show w.heap.size< (w.heap.push _).size;simp⟩,.HE hge fun _=>⟨w.heap.size,0,rfl,.inr rfl,fun i hi=>rfl,fun i j u hi hu=> ?_⟩⟩;·simp [execOp,e1,run]
 ·cases j with
  |succ j=>simp at hu
  |zero=>
   simp only [List.getElem?_cons_zero,Option.some.injEq]at hu;subst hu;have hi':i< b.data.size:=hi;have e3:(bytesRow b cap)[i]?=some (.int .u8 (t8 b i)):=by unfold bytesRow;rw [Array.getElem?_append_left (by simpa using hi'),Array.getElem?_map];unfold t8;rw [Array.getElem?_eq_getElem hi'];rfl
   refine⟨.int .u8 (t8 b i),?_,rfl,.c _ _⟩;rw [cell_of_row _ w.heap.size (0+i*1+0) (bytesRow b cap) e _ (heap_alloc_new w.drew _)];rw [show 0+i*1+0=i by omega];exact e3
end
def vo(T:List TI)(o:Oper)(e:Operand->V):Option SR:=
 match o.op with
  | .index t x ix=>match e x,e ix with
   | .c (.string b),.c (.int _ i)=>if(T.getD t bE).tC=some 1000001 then some (aI (0<=i/\i< b.size) (.c (.int .u8 (t8 b i.toNat))))else none
   |_,_=>none
  | .convert s t x=>match e x,(T.getD t bE).elem with
   | .c (.string b),some el=>if(T.getD s bE).tC=some 1000001/\(T.getD el bE).kind=some .u8 then some (aI True (.sl 1 b.size fun i=>[.c (.int .u8 (t8 b i))]))else none
   |_,_=>none
  | .slice t x lo hi none=>match e x with
   | .c (.string b)=>if(T.getD t bE).tC=some 1000001 then(match mY e lo,kn e b.size hi with
    |some l,some h=>some (aI (0<=l/\l<=h/\h<=b.size) (.c (.string (b.extract l.toNat h.toNat))))
    |_,_=>none)else none
   |_=>none
  | .call c=>match c.callee with
   | .builtin .len=>match c.args,c.argTypes with
    | ⟨[x]⟩,⟨[t]⟩=>match e x with
     | .c (.string b)=>if(T.getD t bE).tC=some 1000001 then some (aI True (.i (b.size:Nat)))else none
     |_=>none
    |_,_=>none
   |_=>none
  |_=>none
theorem vp{P:Program}{W LB:Nat->Prop}{T:List TI}(hT:aK T P){nx:Nat}{σ:Nat->Option Ob}{e:Operand->V}(o:Oper){r:SR}(h:vo T o e=some r)(hc:r.c):iI P W LB nx σ o e r:=by
 obtain⟨d,op,ty,pos,af,gd⟩:=o;unfold vo at h;simp only at h;split at h
 ·split at h
  ·rename_i ex ei;split at h;·rename_i ht;injection h with h;subst h;exact .pure (xd _ _ _ (hT.nu ht) ex ei hc)
   ·cases h
  ·cases h
 ·split at h
  ·rename_i ex hel;split at h;·rename_i hh;injection h with h;subst h;exact .pure (vh _ _ _ (hT.nu hh.1) (hT.elem hel) (hT.kind hh.2) ex)
   ·cases h
  ·cases h
 ·split at h
  ·rename_i ex;split at h
   ·rename_i ht;split at h;·rename_i hl hh;injection h with h;subst h;exact .pure (xh _ _ _ _ (hT.nu ht) ex hl hh hc)
    ·cases h
   ·cases h
  ·cases h
 ·rename_i c;obtain⟨callee,args,ats⟩:=c;simp only at h;split at h
  ·split at h
   ·split at h
    ·rename_i ex;split at h;·rename_i ht;injection h with h;subst h;exact .pure (CV _ _ (hT.nu ht) ex)
     ·cases h
    ·cases h
   ·cases h
  ·cases h
 ·cases h
section
variable {P:Program}{W LB:Nat->Prop}{d:Option Tmp}{ty:TypeId}{pos:String}{af:Array Edge}{gd:Option (Nat×Bool)}{ev:Operand->V}
theorem EZ(t:Nat)(x ix:Operand){n e sz:Nat}{k:IntKind}{i:Int}{cs:List V}{v:V}{T:List TI}(hT:aK T P)(ha:wG P t=some (n,e))(hs:cc P e=some sz)(hx:ev x= .agg cs)(hi:ev ix= .c (.int k i))(hc:0<=i/\i< n) (hv:iM T e (cs.drop (i.toNat*sz))=some v):aD P ⟨d,.index t x ix,ty,pos,af,gd⟩ ev v:= aD.same rfl fun w L ρ g hr=>by
 have h1:=hr x (by simp [Op.operands]);have h2:=hr ix (by simp [Op.operands]);rw [hx]at h1;rw [hi]at h2;have e2:=h2.aN;obtain⟨xs,e1,hl⟩:=h1.eU;have hd:RL w L ρ (cs.drop (i.toNat*sz)) (xs.toList.drop (i.toNat*sz)):=by have:=hl.sub (i.toNat*sz) cs.length;rwa [List.take_of_length_le (by simp),List.take_of_length_le (by have:=hl.1;simp at this ⊢;omega)]at this
 have hsz:=bO hs;unfold iM at hv;split at hv;·rename_i hg;obtain⟨y,hy,hr',_⟩:=hd.get hv;rw [List.getElem?_drop,Nat.add_zero,Array.getElem?_toList]at hy;refine⟨y,?_,hr'⟩;simp [execOp,e1,e2,Instr.index,asIntOf,aA (ic ha),hc.1,hc.2,hsz,part,lW (hT.agg hg),hy]
 ·rename_i hg;split at hv
  ·rename_i m hm;have hm':=hT.size hm;have:m=sz:=by rw [hs]at hm';injection hm' with h;exact h.symm
   subst this;split at hv
   ·rename_i hle;injection hv with hv;subst hv;refine⟨.agg (xs.extract (i.toNat*m) (i.toNat*m+m)),?_,.lZ ?_⟩;·simp [execOp,e1,e2,Instr.index,asIntOf,aA (ic ha),hc.1,hc.2,hsz,part,lW (hT.agg hg)]
    ·have:=hl.sub (i.toNat*m) m;simpa [Array.toList_extract,List.extract_eq_take_drop]using this
   ·cases hv
  ·cases hv
 ·cases hv
theorem CK(t:Nat)(parts:Array (Nat×Operand)){zs us:List V}{n e sz:Nat}(hz:gN P t=some zs)(ha:wG P t=some (n,e))(hs:cc P e=some sz)(hf:iq (fun i=>some (i*sz,sz)) zs (parts.toList.map fun p=>(p.1,ev p.2))=some us) : aD P ⟨d,.build t parts,ty,pos,af,gd⟩ ev (.agg us):= aD.same rfl fun w L ρ g hr=>by obtain⟨i,z,hi,hz',h1,rfl⟩:=eZ hz;obtain⟨e1,e2⟩:=sv (w:=w) (L:=L) (ρ:=ρ) (ev:=ev) (g:=g) parts (fun x hx=>hr x hx);obtain⟨ys,hy,hl⟩:=qA _ _ _ z.cells _ (m0 w L ρ z.cells.toList h1) e1 e2 hf;refine⟨.agg ys,?_,.lZ hl⟩;simp only [execOp,Instr.build];simp at hy;simp [zeroValue,typeInfo,hi,hz',aA (ic ha),bO hs,hy]
theorem CX(t:Nat)(x:Operand){n e sz:Nat}{cs:List V}(ha:wG P t=some (n,e))(hs:cc P e=some sz)(hx:ev x= .ptr cs)(hl:cs.length=n*sz) : aD P ⟨d,.slice t x none none none,ty,pos,af,gd⟩ ev (.sl sz n fun i=>(cs.drop (i*sz)).take sz):= aD.same rfl fun w L ρ g hr=>by
 have h1:=hr x (by simp [Op.operands]);rw [hx]at h1;obtain⟨b,o,e1,hb,hcell⟩:=h1.gU;have hu:=ic ha;have hn:P.arrayLen t=n:=by simp [Program.arrayLen,hu]
 have he:P.elem t=e:=by simp [Program.elem,hu]
 have ht:P.underlying t=some (.array (P.arrayLen t) (P.elem t)):=by rw [hn,he];exact hu
 have hsz:(sizeOf (P.elem t)).run P w= .ok sz w:=by rw [he];exact bO hs w
 refine⟨.slice (some ⟨b,o,none⟩) n n,?_,R.HE (Nat.le_refl _) fun hpos=>⟨b,o,rfl,hb,fun i hi=> ?_,fun i j u hi hu'=> ?_⟩⟩;·have:=run_sliceAt_array_all w t ⟨b,o,none⟩ ht;rw [hsz,hn]at this;simp [execOp,e1,this,slicedAt,Addr.add_lit]
 ·have h2:i*sz+sz<=n*sz:=by rw [<-Nat.succ_mul];exact Nat.mul_le_mul_right _ hi
  simp;omega
 ·rw [List.getElem?_take]at hu';split at hu';·rw [List.getElem?_drop]at hu';obtain⟨y,h3,h4,h5⟩:=hcell (i*sz+j) u hu';exact⟨y,by rw [Nat.add_assoc];exact h3,h4,h5⟩
  ·cases hu'
theorem KL:∀(n:Nat) (q:Nat->List V),(∀j,j< n->(q j).length=1)->∀i,i< n->(aE n q).flatten[i]?=(q i)[0]?
 |0,_,_,i,hi=>by omega
 |n+1,q,hq,i,hi=>by
  have e:aE (n+1) q=aE n q++[q n]:=by simp [aE,List.range_succ]
  have hl:(aE n q).flatten.length=n:=by rw [cR (sz:=1) (cq fun j hj=>hq j oM),b8];omega
  rw [e,List.flatten_append];by_cases h:i< n;·rw [List.getElem?_append_left oM];exact KL n q (fun j hj=>hq j oM) i h
  ·obtain rfl:i=n:=by omega
   rw [List.getElem?_append_right oM,hl];simp
theorem ID(t t':Nat)(x y:Operand){id e n m:Nat}{row row':Nat->List V}{el:Nat}(he:dw P t=some el)(hs:cc P el=some 1)(hx:ev x= .own id)(hy:ev y= .sl 1 m row')(hn:0< n)(hm:0< m) :
    aU P W LB ⟨d,.call {callee:= .builtin .copy,args:= #[x,y],argTypes:= #[t,t']},ty,pos,af,gd⟩ ev (.i ((min m n:Nat):Int)) [(id,.row e 1 n row)] [] [(id,some (.row e 1 n fun j=>if j< min m n then row' j else row j))]:=by
  intro σ w L ρ g hG hr hpre _
  have h1:=hr x (by simp [Op.operands,Call.operands])
  have h2:=hr y (by simp [Op.operands,Call.operands])
  rw [hx]at h1
  rw [hy]at h2
  have hσ:=hpre _ (List.Mem.head _)
  have hρ:ρ id=some (g x):=by cases h1;assumption
  obtain⟨v0,xs0,hρ',hown,hsz,hl,hblk⟩:=hG.ob id _ hσ
  have ev0:v0=g x:=by rw [hρ]at hρ';injection hρ' with h;exact h.symm
  subst ev0
  have hform:∃b c,g x= .slice (some ⟨b,0,none⟩) n c:=by
    rcases hown.2 with⟨_,h0⟩ | ⟨b,c,cur,h0,_⟩
    · omega
    · exact⟨b,c,h0⟩
  obtain⟨b,c,hgx⟩:=hform
  rw [hgx]at hρ
  obtain⟨xs,cur,hvs,hW,hL,hh,hnc,hcm,hcs,htk,hsz',hl'⟩:=wv hG hρ hσ
  obtain⟨A,c',e2,hA⟩:=h2.jg
  obtain⟨b2,o2,rfl,hb2,hlen2,hcell2⟩:=hA hm
  obtain⟨k,hk⟩:∃k,k=min m n:=⟨_,rfl⟩
  -- the cells that are copied
  have each:∀i,i< k->∃z,w.cell? ⟨b2,o2+i,none⟩=some z/\z.oneCell'=true/\∃u,row' i=[u]/\R w L ρ0 u z:=by
    intro i hi
    have hlen:=hlen2 i oM
    match hrow:row' i,hlen with
    | [u],_=>
      obtain⟨z,h3,h4,h5⟩:=hcell2 i 0 u oM (by rw [hrow];rfl)
      exact⟨z,by simpa using h3,h4,u,rfl,h5⟩
  obtain⟨zs,hzl,hz⟩:∃l:List Value,l.length=k/\∀(i:Nat) z,l[i]?=some z->w.cell? ⟨b2,o2+i,none⟩=some z/\z.oneCell'=true/\∃u,row' i=[u]/\R w L ρ0 u z:=by
    clear hk
    induction k with
    |zero=>exact⟨[],rfl,fun i z h=>by simp at h⟩
    |succ k ih=>
      obtain⟨l,q1,q2⟩:=ih fun i hi=>each i oM
      obtain⟨z,q3⟩:=each k oM
      refine⟨l++[z],by simp [q1],fun i y hy=> ?_⟩
      by_cases hi:i< l.length
      · rw [List.getElem?_append_left hi]at hy;exact q2 i y hy
      · rw [List.getElem?_append_right oM]at hy
        have e0:i- l.length=0:=by have:=(List.getElem?_eq_some_iff.1 hy).1;simp at this;omega
        rw [e0]at hy
        simp at hy;subst hy
        have:i=k:=by omega
        subst this;exact q3
  have hu:=bM he
  have hinfo:(P.info? el).map (·.size)=some 1:=hs
  have hrun:=run_copy_row (P:=P) w t t' ty el b 0 n c ⟨b2,o2,none⟩ m c' cur e zs hu hinfo hh (by rw [hzl,hk]) (fun j v hj=>by rw [Addr.add_lit];exact(hz j v hj).1) (by rw [hzl,hcs];omega) (fun v hv=>by
    obtain⟨i,hi,rfl⟩:=List.getElem_of_mem hv
    exact(hz i _ (List.getElem?_eq_getElem hi)).2.1)
  simp only [List.take_zero,List.nil_append,Nat.zero_add]at hrun
  generalize hnew:(zs++cur.toList.drop zs.length).toArray=new at hrun
  have hnl:new.size=cur.size:=by rw [<-hnew];simp;omega
  have hxl:xs.length=n*1:=by rw [<-htk];simp;omega
  obtain⟨hG',ex⟩:=hG.put (σ1:=σ) (ρ':=ρ) (cz w b new) (by rintro k hk;injection hk with hk;subst hk;exact⟨hW,hL⟩) id _ (.row e 1 n fun j=>if j< k then row' j else row j)
    (fun j ob hj ho=>⟨ho,fun z hz k hk hkz=>by
      injection hk with hk;subst hk
      exact hG.sep j id z _ b hj (by rw [ho];simp) (by rw [hσ];simp) hz hρ hkz rfl⟩) (fun _ _=>rfl) hρ (.inr hρ) (fun k hk=> .inl (by simpa [blk]using hk)) (fun ex=>by
        refine⟨_,zs++xs.drop zs.length,hρ,?_,?_,?_,fun k hk=>by simp [blk]at hk;subst hk;exact⟨hW,hL⟩⟩
        · refine⟨by simp;omega,.inr ⟨b,c,new,by simp,Nat.zero_le _,setRow_heap w b cur _ e (0,0) hh,by simpa using hnc,hcm,by rw [hnl];exact hcs,?_⟩⟩
          rw [<-hnew,<-htk]
          simp only
          rw [List.take_append,List.drop_take,List.take_of_length_le oM]
        · intro j hj
          by_cases hji:j< k
          · simp only [hji,if_true];exact hlen2 j oM
          · simp only [hji,if_false];exact hsz' j hj
        · have hk0:∀j,j< n->(row j).length=1:=hsz'
          have hflat:∀(q:Nat->List V),(∀j,j< n->(q j).length=1)->∀i,i< n->(aE n q).flatten[i]?=(q i)[0]?:=by
            intro q hq i hi
            have:=KL n q hq i hi
            exact this
          refine⟨?_,fun i u z hu' hz'=> ?_⟩
          · rw [cR (sz:=1) (cq fun j hj=> ?_),b8]
            · simp;omega
            · by_cases hji:j< k
              · simp only [hji,if_true];exact hlen2 j oM
              · simp only [hji,if_false];exact hsz' j hj
          · have hi:i< n:=by have:=(List.getElem?_eq_some_iff.1 hz').1;simp at this;omega
            rw [hflat _ (fun j hj=>by
              by_cases hji:j< k
              · simp only [hji,if_true];exact hlen2 j oM
              · simp only [hji,if_false];exact hsz' j hj) i hi]at hu'
            by_cases hik:i< k
            · simp only [hik,if_true]at hu'
              rw [List.getElem?_append_left oM]at hz'
              obtain⟨_,q2,u',q3,q4⟩:=hz i z hz'
              rw [q3]at hu'
              simp at hu'
              subst hu'
              exact⟨q4.Mv.ext ex,q2⟩
            · simp only [hik,if_false]at hu'
              rw [List.getElem?_append_right oM,List.getElem?_drop,show zs.length+(i- zs.length)=i by omega]at hz'
              have:=hl'.2 i u z (by rw [hflat row hk0 i hi];exact hu') hz'
              exact⟨this.1.ext ex,this.2⟩)
  subst hk
  refine bk.value rfl (v:= .int .i64 ((min m n:Nat):Int)) (w':=w.setRow b new) ?_ ⟨L,ρ,hG',.c _ _,cB (cz w b _) (by rintro k hk;injection hk with hk;subst hk;exact⟨hW,hL⟩),ex,fun _ _=>rfl,dM.grown (cz w b _) (by rintro k hk;injection hk with hk;subst hk;exact⟨_,_,_,hh⟩)⟩
  simp [execOp,resolve,invoke,builtin,hgx,e2,hrun,goInt,hzl]
end
def V.uA:V->Bool
 | .ptr _=>true
 | .ref _ _=>true
 | .oel _ _ _ _=>true
 |_=>false
theorem xe{P:Program}{d:Option Tmp}{ty:TypeId}{pos:String}{af:Array Edge}{gd:Option (Nat×Bool)}{ev:Operand->V}(x:Operand){v:V}(hx:ev x=v)(h:v.uA=true):aD P ⟨d,.nilCheck x,ty,pos,af,gd⟩ ev v:= aD.same rfl fun w L ρ g hr=>by
 have h1:=hr x (by simp [Op.operands]);rw [hx]at h1;refine⟨g x,?_,h1⟩;have:∃a,g x= .pointer (some a):=by
  cases v with
  |ptr cs=>obtain⟨b,o,e,_⟩:=h1.gU;exact⟨_,e⟩
  |ref i o=>obtain⟨b,e,_⟩:=h1.iS;exact⟨_,e⟩
  |oel i a b o=>generalize g x=y at h1;cases h1;exact⟨_,rfl⟩
  |_=>simp [V.uA]at h
 obtain⟨a,ha⟩:=this;simp [execOp,ha]
def DV:V->V->Option (Prop×Bool)
 | .nil,.nil=>some (True,true)
 | .sl _ n _,.nil=>some (0< n,false)
 | .c (.slice A _ _),.nil=>some (True,A.isNone)
 |_,_=>none
theorem EW{P:Program}{d:Option Tmp}{ty:TypeId}{pos:String}{af:Array Edge}{gd:Option (Nat×Bool)}{ev:Operand->V}(t t':TypeId)(x y:Operand){c:Prop}{b:Bool}{el:Nat}(he:dw P t=some el)(h:DV (ev x) (ev y)=some (c,b))(hc:c) : aD P ⟨d,.binOp .eql t x y t',ty,pos,af,gd⟩ ev (.b b)/\aD P ⟨d,.binOp .neq t x y t',ty,pos,af,gd⟩ ev (.b (!b)):=by
 have hu:=bM he;have key:∀w L ρ (g:Operand->Value),R w L ρ (ev x) (g x)->R w L ρ (ev y) (g y)->∃A n c',g x= .slice A n c'/\g y= .slice none 0 0/\A.isNone=b:=by
  intro w L ρ g h1 h2;unfold DV at h;split at h;·rename_i e1 e2;injection h with h;injection h with h3 h4;subst h4;rw [e1]at h1;rw [e2]at h2;generalize g x=X at h1;generalize g y=Y at h2;cases h1;cases h2;exact⟨_,_,_,rfl,rfl,rfl⟩
  ·rename_i sz n row e1 e2;injection h with h;injection h with h3 h4;subst h3 h4;rw [e1]at h1;rw [e2]at h2;generalize g y=Y at h2;cases h2;obtain⟨A,c',e3,hA⟩:=h1.jg;obtain⟨b',o,rfl,_⟩:=hA hc;exact⟨_,_,_,e3,rfl,rfl⟩
  ·rename_i a n c' e1 e2;injection h with h;injection h with h3 h4;subst h4;rw [e1]at h1;rw [e2]at h2;generalize g y=Y at h2;cases h2;exact⟨_,_,_,h1.aN,rfl,rfl⟩
  ·cases h
 have run:∀w (A:Option Addr) n c',A.isNone=b->(Op.equalIn Op.maxDepth t (.slice A n c') (.slice none 0 0)).run P w= .ok b w:=by intro w A n c' hA;subst hA;show(Op.equalIn (_+1) t _ _).run P w=_;unfold Op.equalIn;cases A <;> simp [aA hu]
 constructor;·refine aD.same rfl fun w L ρ g hr=> ?_;obtain⟨A,n,c',e1,e2,hA⟩:=key w L ρ g (hr x (by simp [Op.operands])) (hr y (by simp [Op.operands]));refine⟨_,?_,.c _ _⟩;simp [execOp,e1,e2,eqGuard,binOp,Op.equal,run w A n c' hA]
 ·refine aD.same rfl fun w L ρ g hr=> ?_;obtain⟨A,n,c',e1,e2,hA⟩:=key w L ρ g (hr x (by simp [Op.operands])) (hr y (by simp [Op.operands]));refine⟨_,?_,.c _ _⟩;simp [execOp,e1,e2,eqGuard,binOp,Op.equal,run w A n c' hA]
theorem EY{P:Program}{d:Option Tmp}{ty:TypeId}{pos:String}{af:Array Edge}{gd:Option (Nat×Bool)}{ev:Operand->V}(t t':TypeId)(x y:Operand){a b:ByteArray}(hx:ev x= .c (.string a))(hy:ev y= .c (.string b)) : aD P ⟨d,.binOp .eql t x y t',ty,pos,af,gd⟩ ev (.b (a.toList == b.toList))/\aD P ⟨d,.binOp .neq t x y t',ty,pos,af,gd⟩ ev (.b (!(a.toList == b.toList))):=by
 constructor;·refine aD.same rfl fun w L ρ g hr=> ?_;have h1:=hr x (by simp [Op.operands]);have h2:=hr y (by simp [Op.operands]);rw [hx]at h1;rw [hy]at h2;refine⟨_,?_,.c _ _⟩;simp [execOp,h1.aN,h2.aN,eqGuard,binOp,Op.stringOp]
 ·refine aD.same rfl fun w L ρ g hr=> ?_;have h1:=hr x (by simp [Op.operands]);have h2:=hr y (by simp [Op.operands]);rw [hx]at h1;rw [hy]at h2;refine⟨_,?_,.c _ _⟩;simp [execOp,h1.aN,h2.aN,eqGuard,binOp,Op.stringOp]
def oW:V->Option Bool
 | .ptr _=>some false
 | .ref _ _=>some false
 | .oel _ _ _ _=>some false
 | .c (.pointer a)=>some a.isNone
 |_=>none
theorem EX{P:Program}{d:Option Tmp}{ty:TypeId}{pos:String}{af:Array Edge}{gd:Option (Nat×Bool)}{ev:Operand->V}(t t':TypeId)(x y:Operand){b:Bool}(hu:∃e,P.underlying t=some (.pointer e))(h:oW (ev x)=some b)(hy:ev y= .c (.pointer none)) : aD P ⟨d,.binOp .eql t x y t',ty,pos,af,gd⟩ ev (.b b)/\aD P ⟨d,.binOp .neq t x y t',ty,pos,af,gd⟩ ev (.b (!b)):=by
 obtain⟨e,hu⟩:=hu;have key:∀w L ρ (z:Value),R w L ρ (ev x) z->∃a,z= .pointer a/\a.isNone=b:=by
  intro w L ρ z h1;unfold oW at h;split at h
  ·rename_i e1;injection h with h;subst h
   rw [e1]at h1;obtain⟨b',o,e,_⟩:=h1.gU;exact⟨_,e,rfl⟩
  ·rename_i e1;injection h with h;subst h
   rw [e1]at h1;obtain⟨b',e,_⟩:=h1.iS;exact⟨_,e,rfl⟩
  ·rename_i e1;injection h with h;subst h
   rw [e1]at h1;cases h1;exact⟨_,rfl,rfl⟩
  ·rename_i a e1;injection h with h;subst h
   rw [e1]at h1;exact⟨_,h1.aN,rfl⟩
  ·cases h
 have run:∀w (a:Option Addr),(Op.equalIn Op.maxDepth t (.pointer a) (.pointer none)).run P w= .ok a.isNone w:=by intro w a;show(Op.equalIn (_+1) t _ _).run P w=_;unfold Op.equalIn;cases a <;> simp [aA hu]
 constructor;·refine aD.same rfl fun w L ρ g hr=> ?_;obtain⟨a,e1,e2⟩:=key w L ρ _ (hr x (by simp [Op.operands]));have h2:=hr y (by simp [Op.operands]);rw [hy]at h2;subst e2;refine⟨_,?_,.c _ _⟩;simp [execOp,e1,h2.aN,eqGuard,binOp,Op.equal,run w a]
 ·refine aD.same rfl fun w L ρ g hr=> ?_;obtain⟨a,e1,e2⟩:=key w L ρ _ (hr x (by simp [Op.operands]));have h2:=hr y (by simp [Op.operands]);rw [hy]at h2;subst e2;refine⟨_,?_,.c _ _⟩;simp [execOp,e1,h2.aN,eqGuard,binOp,Op.equal,run w a]
theorem Lv{P:Program}{d:Option Tmp}{ty:TypeId}{pos:String}{af:Array Edge}{gd:Option (Nat×Bool)}{ev:Operand->V}(t t':TypeId)(x y:Operand){a b:Bool}(hu:P.underlying t=some .bool)(hx:ev x= .c (.bool a))(hy:ev y= .c (.bool b)) : aD P ⟨d,.binOp .eql t x y t',ty,pos,af,gd⟩ ev (.b (a == b)):= aD.same rfl fun w L ρ g hr=>by have h1:=hr x (by simp [Op.operands]);have h2:=hr y (by simp [Op.operands]);rw [hx]at h1;rw [hy]at h2;have e1:=h1.aN;have e2:=h2.aN;refine⟨_,?_,.c _ _⟩;have key:(Op.equalIn Op.maxDepth t (.bool a) (.bool b)).run P w= .ok (a == b) w:=run_equalIn_bool w _ t a b hu;simp [execOp,e1,e2,eqGuard,binOp,Op.equal,key]
theorem Lw{P:Program}{d:Option Tmp}{ty:TypeId}{pos:String}{af:Array Edge}{gd:Option (Nat×Bool)}{ev:Operand->V}(t t':TypeId)(x y:Operand){a b:Bool}(hu:P.underlying t=some .bool)(hx:ev x= .c (.bool a))(hy:ev y= .c (.bool b)) : aD P ⟨d,.binOp .neq t x y t',ty,pos,af,gd⟩ ev (.b (!(a == b))):= aD.same rfl fun w L ρ g hr=>by have h1:=hr x (by simp [Op.operands]);have h2:=hr y (by simp [Op.operands]);rw [hx]at h1;rw [hy]at h2;have e1:=h1.aN;have e2:=h2.aN;refine⟨_,?_,.c _ _⟩;have key:(Op.equalIn Op.maxDepth t (.bool a) (.bool b)).run P w= .ok (a == b) w:=run_equalIn_bool w _ t a b hu;simp [execOp,e1,e2,eqGuard,binOp,Op.equal,key]
structure PR where
  d:Option Nat
  q:Option Prop
  v:V
  δ:List (Nat×Option Ob)
  wr:Bool:=false
def SR.pr(r:SR)(d:Option Nat):Option Nat×Prop×V×List (Nat×Option Ob):=(d,r.c,r.v,r.δ)
def PR.ex(r:PR):Option Nat×Prop×V×List (Nat×Option Ob):=(r.d,r.q.getD True,r.v,r.δ)
def pv(d:Nat)(v:V):PR:=⟨some d,none,v,[],false⟩
def pc(d:Nat)(c:Prop)(v:V):PR:=⟨some d,some c,v,[],false⟩
def pw(c:Prop)(k:Nat)(ob:Ob):PR:=⟨none,some c,.any,[(k,some ob)],false⟩
def pn(d:Nat)(v:V)(k:Nat)(ob:Ob):PR:=⟨some d,none,v,[(k,some ob)],false⟩
def mW(t:Bool)(a b:V):Option V:=
 match a,b with
  | .c (.bool x),.c (.bool y)=>some (.b (cond t x y))
  |_,_=>none
theorem lg{t:Bool}{a b v:V}(h:mW t a b=some v):uN t a b=some v:=by
 unfold mW at h;split at h;·rename_i x y;injection h with h;subst h;cases x <;> cases y <;> cases t <;> rfl
 ·cases h
def iN(o:Oper):Bool:=match o.dst with |some t=>decide (t< 1000) |none=>false
def vk(T:List TI)(o:Oper)(e:Operand->V)(σ:Nat->Option Ob):Option SR:=
 match o.op with
  | .index t x ix=>match e x,e ix with
   | .agg cs,.c (.int _ i)=>match (T.getD t bE).arr with
    |some (n,el)=>match (T.getD el bE).size with
     |some sz=>match iM T el (cs.drop (i.toNat*sz))with
      |some v=>some (aI (0<=i/\i< n) v)
      |none=>none
     |none=>none
    |none=>none
   |_,_=>none
  | .build t parts=>match (T.getD t bE).zero,(T.getD t bE).arr with
   |some zs,some (_,el)=>match (T.getD el bE).size with
    |some sz=>match iq (fun i=>some (i*sz,sz)) zs (parts.toList.map fun p=>(p.1,e p.2))with
     |some us=>some (aI True (.agg us))
     |none=>none
    |none=>none
   |_,_=>none
  | .slice t x none none none=>match e x,(T.getD t bE).arr with
   | .ptr cs,some (n,el)=>match (T.getD el bE).size with
    |some sz=>if cs.length=n*sz then some (aI True (.sl sz n fun i=>(cs.drop (i*sz)).take sz))else none
    |none=>none
   |_,_=>none
  | .call c=>match c.callee with
   | .builtin .copy=>match c.args,c.argTypes with
    | ⟨[x,y]⟩,⟨[t,_]⟩=>match (T.getD t bE).elem with
     |some el=>if(T.getD el bE).size=some 1 then(match e x,e y with
      | .own id,.sl sz m row'=>match σ id with
       |some (.row e' sz' n row)=>if sz=1/\sz'=1 then some ⟨0< n/\0< m,.i ((min m n:Nat):Int),[(id,.row e' sz' n row)],[],[(id,some (.row e' sz' n fun j=>if j< min m n then row' j else row j))]⟩else none
       |_=>none
      |_,_=>none)else none
     |none=>none
    |_,_=>none
   |_=>none
  | .nilCheck x=>if(e x).uA then some (aI True (e x))else none
  | .binOp .eql t x y _=>match e x,e y with
   | .c (.bool a),.c (.bool b)=>if(T.getD t bE).tC=some 1000000 then some (aI True (.b (a == b)))else none
   | .c (.string a),.c (.string b)=>some (aI True (.b (a.toList == b.toList)))
   |u,.c (.pointer none)=>match oW u with
    |some b=>if(T.getD t bE).tC=some 1000002 then some (aI True (.b b))else none
    |none=>none
   |_,_=>match (T.getD t bE).elem with
    |some _=>match DV (e x) (e y)with
     |some (c,b)=>some (aI c (.b (b)))
     |none=>none
    |none=>none
  | .binOp .neq t x y _=>match e x,e y with
   | .c (.bool a),.c (.bool b)=>if(T.getD t bE).tC=some 1000000 then some (aI True (.b (!(a == b))))else none
   | .c (.string a),.c (.string b)=>some (aI True (.b (!(a.toList == b.toList))))
   |u,.c (.pointer none)=>match oW u with
    |some b=>if(T.getD t bE).tC=some 1000002 then some (aI True (.b (!b)))else none
    |none=>none
   |_,_=>match (T.getD t bE).elem with
    |some _=>match DV (e x) (e y)with
     |some (c,b)=>some (aI c (.b (!b)))
     |none=>none
    |none=>none
  |_=>none
theorem vl{P:Program}{W LB:Nat->Prop}{T:List TI}(hT:aK T P){nx:Nat}{σ:Nat->Option Ob}{e:Operand->V}(o:Oper){r:SR}(h:vk T o e σ=some r)(hc:r.c):iI P W LB nx σ o e r:=by
 obtain⟨d,op,ty,pos,af,gd⟩:=o;unfold vk at h;simp only at h;split at h
 ·split at h
  ·split at h
   ·split at h
    ·split at h;·injection h with h;subst h;exact .pure (EZ _ _ _ hT (hT.arr (by assumption)) (hT.size (by assumption)) (by assumption) (by assumption) hc (by assumption))
     ·cases h
    ·cases h
   ·cases h
  ·cases h
 ·split at h
  ·split at h
   ·split at h;·injection h with h;subst h;exact .pure (CK _ _ (hT.zero (by assumption)) (hT.arr (by assumption)) (hT.size (by assumption)) (by assumption))
    ·cases h
   ·cases h
  ·cases h
 ·split at h
  ·split at h
   ·split at h;·injection h with h;subst h;exact .pure (CX _ _ (hT.arr (by assumption)) (hT.size (by assumption)) (by assumption) (by assumption))
    ·cases h
   ·cases h
  ·cases h
 ·rename_i c;obtain⟨callee,args,ats⟩:=c;simp only at h;split at h
  ·split at h
   ·rename_i e1 e2;split at h
    ·split at h
     ·rename_i hs;split at h
      ·rename_i id sz m row' ex ey;split at h
       ·rename_i e' sz' n row hσ;split at h;·rename_i hh;obtain⟨rfl,rfl⟩:=hh;injection h with h;subst h;obtain⟨hc1,hc2⟩:=hc;exact⟨ID _ _ _ _ (hT.elem (by assumption)) (hT.size hs) ex ey hc1 hc2,by simpa using hσ,.inl rfl⟩
        ·cases h
       ·cases h
      ·cases h
     ·cases h
    ·cases h
   ·cases h
  ·cases h
 ·split at h;·injection h with h;subst h;exact .pure (xe _ rfl (by assumption))
  ·cases h
 ·split at h
  ·split at h;·injection h with h;subst h;exact .pure (Lv _ _ _ _ (hT.FQ (by assumption)) (by assumption) (by assumption))
   ·cases h
  ·injection h with h;subst h;exact .pure (EY _ _ _ _ (by assumption) (by assumption)).1
  ·split at h
   ·split at h;·rename_i hn hq;injection h with h;subst h;exact .pure (EX _ _ _ _ (hT.KG hq) hn (by assumption)).1
    ·cases h
   ·cases h
  ·split at h
   ·split at h;·injection h with h;subst h;exact .pure (EW _ _ _ _ (hT.elem (by assumption)) (by assumption) hc).1
    ·cases h
   ·cases h
 ·split at h
  ·split at h;·injection h with h;subst h;exact .pure (Lw _ _ _ _ (hT.FQ (by assumption)) (by assumption) (by assumption))
   ·cases h
  ·injection h with h;subst h;exact .pure (EY _ _ _ _ (by assumption) (by assumption)).2
  ·split at h
   ·split at h;·rename_i hn hq;injection h with h;subst h;exact .pure (EX _ _ _ _ (hT.KG hq) hn (by assumption)).2
    ·cases h
   ·cases h
  ·split at h
   ·split at h;·injection h with h;subst h;exact .pure (EW _ _ _ _ (hT.elem (by assumption)) (by assumption) hc).2
    ·cases h
   ·cases h
 ·cases h
def kI(T:List TI)(wr:Bool)(M:List Nat)(nx:Nat)(o:Oper)(e:Operand->V)(σ:Nat->Option Ob):Option SR:=
 match BD T wr M nx o e σ with
  |some r=>some r
  |none=>match vk T o e σ with
   |some r=>some r
   |none=>match vm T nx o e σ with
    |some r=>some r
    |none=>vo T o e
theorem gQ{P:Program}{W LB:Nat->Prop}{T:List TI}(hT:aK T P){wr:Bool}{M:List Nat}{nx:Nat}{σ:Nat->Option Ob}{e:Operand->V}(o:Oper){r:SR}(h:kI T wr M nx o e σ=some r)(hc:r.c)(hd:o.dst.isSome=true\/wC o.op):iI P W LB nx σ o e r:=by
 unfold kI at h;split at h;·injection h with h;subst h;exact xm hT o (by assumption) hc hd
 ·split at h;·injection h with h;subst h;exact vl hT o (by assumption) hc
  ·split at h;·injection h with h;subst h;exact vn hT o (by assumption) hc
   ·exact vp hT o h hc
theorem KR{nx:Nat}{o:Oper}{nw:List Nat}(hd:jZ o=true)(h3:nw=[]\/∃t,o.dst=some t/\nw=[nx*100000+t]):l6 nx o.dst nw:=by
 rcases h3 with h3 | ⟨t,ht,h3⟩;·subst h3;simp [l6]
 ·subst h3;have hlt: @LT.lt Nat _ t 1000:=xJ hd ht;revert hlt ht;generalize (t:Nat)=t';intro ht hlt;intro id hid;simp only [List.mem_singleton]at hid;subst hid;exact⟨t',ht,by omega,by omega,by omega⟩
def nF(T:List TI)(wr:Bool)(M:List Nat)(nx:Nat)(ds:List (Option Tmp))(tm:Nat->V)(σ:Nat->Option Ob)(o:Oper):Option SR:=
 match o.guard with
  |none=>match o.op with
   | .pick x a b=>match ev tm x with
    | .c (.bool t)=>match mW t (ug (ev tm a)) (ug (ev tm b))with
     |some v=>if iN o then some (aI (fD t true (ev tm a)/\fD t false (ev tm b)) v)else none
     |none=>none
    |_=>none
   |_=>if jZ o && sn (opsV tm o)then kI T wr M nx o (fun x=>ug (ev tm x)) σ else none
  |some _=>match eP ds tm o with
   |some (some g)=>match o.op with
    | .pick x a b=>match ug (ev tm x)with
     | .c (.bool t)=>match mW t (ug (ev tm a)) (ug (ev tm b))with
      |some v=>if iN o then some (aI (sZ g (ev tm x)/\(g=true->fD t true (ev tm a))/\(g=true->fD t false (ev tm b))) (.gd g v))else none
      |none=>none
     |_=>none
    |_=>if jZ o && iN o then(match kI T wr M nx o (fun x=>ug (ev tm x)) σ with
     |some ⟨c,v,pre,[],[]⟩=>some ⟨Nt g (opsV tm o)/\(g=true->c),.gd g v,pre,[],[]⟩
     |_=>none)else none
   |_=>none
section
variable {P:Program}{N:Nat}{C:Cx P N}{T:List TI}{M:List Nat}{ops:Array Oper}{nx:Nat}{o:Oper}{os:List Oper}{tm:Nat->V}{σ:Nat->Option Ob}{ks:List (List Nat×List Nat)}{K:(Nat->V)->(Nat->Option Ob)->List (List Nat×List Nat)->Prop}
theorem vg(hT:aK T P){wr:Bool}{r:SR}(h:nF T wr M nx (ops.toList.map (·.dst)) tm σ o=some r)(hc:r.c) (hk:bF C ops nx os (eR tm o.dst r.v) (bG σ r.δ) (ks++[(aV r.δ,dZ r.pre++aV r.δ)]) K):bF C ops nx (o::os) tm σ ks K:=by
 obtain⟨d,op,ty,pos,af,gd⟩:=o;unfold nF at h;simp only at h;split at h
 ·split at h
  ·rename_i x a b;split at h
   ·rename_i t hx;split at h
    ·rename_i v hv;split at h;·injection h with h;subst h;exact CH x a b hx hc.1 hc.2 (lg hv) (by simpa [aI,aV,dZ,bG]using hk)
     ·cases h
    ·cases h
   ·cases h
  ·split at h;·rename_i hd;simp only [Bool.and_eq_true]at hd;obtain⟨h1,h2,h3⟩:=gQ (W:=C.W) (LB:=C.LB) hT _ h hc (jI hd.1);exact EU rfl (fun x hx=>oQ hd.2 _ (ld hx)) h1 h2 (KR hd.1 h3) hk
   ·cases h
 ·rename_i gd' hg;split at h
  ·rename_i g hgv;split at h
   ·rename_i x a b;split at h
    ·rename_i t hx;split at h
     ·rename_i v hv;split at h;·injection h with h;subst h;exact zL x a b hgv hx (lg hv) hc.1 hc.2.1 hc.2.2 (by simpa [aI,aV,dZ,bG]using hk)
      ·cases h
     ·cases h
    ·cases h
   ·split at h
    ·rename_i hd;simp only [Bool.and_eq_true]at hd;split at h;·rename_i c v pre ha;injection h with h;subst h;obtain⟨hc1,hc2⟩:=hc;exact mK hgv (fun x hx=>n8 hc1 _ (ld hx)) (fun hg=>⟨(gQ (W:=C.W) (LB:=C.LB) hT _ ha (hc2 hg) (jI hd.1)).1,(gQ (W:=C.W) (LB:=C.LB) hT _ ha (hc2 hg) (jI hd.1)).2.1⟩) (by simpa [aV,bG]using hk)
     ·cases h
    ·cases h
  ·cases h
def rT(T:List TI)(M:List Nat)(nx:Nat)(ds:List (Option Tmp)):List Oper->List PR->(Nat->V)->(Nat->Option Ob)->List (Option (Option Nat×Prop×V×List (Nat×Option Ob)))
 |o::os,r::rs,tm,σ=>(nF T r.wr M nx ds tm σ o).map (fun q=>q.pr o.dst)::rT T M nx ds os rs (eR tm r.d r.v) (bG σ r.δ)
 |_,_,_,_=>[]
def om:List PR->Prop
 | []=>True
 |r::rs=>match r.q with
  |none=>om rs
  |some c=>c/\om rs
theorem om.cons{r:PR}{rs:List PR}(h:om (r::rs)):r.q.getD True/\om rs:=by
 unfold om at h;split at h;·rename_i e;rw [e];exact⟨trivial,h⟩
 ·rename_i c e;rw [e];exact h
def Et:List PR->(Nat->V)->Nat->V
 |r::rs,tm=>Et rs (eR tm r.d r.v)
 | [],tm=>tm
def uY:List PR->(Nat->Option Ob)->Nat->Option Ob
 |r::rs,σ=>uY rs (bG σ r.δ)
 | [],σ=>σ
def xY(T:List TI)(M:List Nat)(nx:Nat)(ds:List (Option Tmp)):List Oper->List PR->(Nat->V)->(Nat->Option Ob)->List (List Nat×List Nat)->List (List Nat×List Nat)
 |o::os,r::rs,tm,σ,ks=>xY T M nx ds os rs (eR tm r.d r.v) (bG σ r.δ) (ks++[match nF T r.wr M nx ds tm σ o with |some q=>(aV q.δ,dZ q.pre++aV q.δ) |none=>([],[])])
 |_,_,_,_,ks=>ks
theorem au(hT:aK T P){n:Nat}(rs:List PR)(hn:rs.length=n)(h:rT T M nx (ops.toList.map (·.dst)) os rs tm σ=rs.map fun r=>some r.ex)(hc:om rs) (hk:bF C ops nx (os.drop n) (Et rs tm) (uY rs σ) (xY T M nx (ops.toList.map (·.dst)) os rs tm σ ks) K):bF C ops nx os tm σ ks K:=by
 subst hn;induction rs generalizing os tm σ ks with
 |nil=>cases os <;> exact hk
 |cons r rs ih=>
  cases os with
  |nil=>simp [rT]at h
  |cons o os=>
   simp only [rT,List.map_cons,List.cons.injEq]at h;obtain⟨h1,h2⟩:=h;simp only [List.length_cons,List.drop_succ_cons,Et,uY,xY]at hk;cases hg:nF T r.wr M nx (ops.toList.map (·.dst)) tm σ o with
   |none=>rw [hg]at h1;cases h1
   |some q=>rw [hg]at h1 hk;simp only [Option.map_some,Option.some.injEq]at h1;obtain⟨c,v,pre,nw,δ⟩:=q;simp only [SR.pr,PR.ex,Prod.mk.injEq]at h1;obtain⟨e0,e1,e2,e3⟩:=h1;obtain⟨rd,rq,rv,rδ,rw'⟩:=r;simp only at e0 e1 e2 e3 h2 hk hc hg;subst e2 e3;obtain⟨hc1,hc2⟩:=hc.cons;rw [<-e0]at h2 hk;exact vg hT hg (by rw [e1];exact hc1) (ih h2 hc2 hk)
end
theorem zE{w:World}{L:Nat->Prop}{ρ:Nat->Option Value}{sz n:Nat}{row row':Nat->List V}{x:Value}(h:R w L ρ (.sl sz n row) x)(he:∀i,i< n->row i=row' i):R w L ρ (.sl sz n row') x:=by obtain⟨A,c,rfl,h'⟩:=h.jg;refine .HE h.wB fun hn=> ?_;obtain⟨b,o,hA,hb,hlen,hc⟩:=h' hn;exact⟨b,o,hA,hb,fun i hi=>by rw [<-he i hi];exact hlen i hi,fun i j u hi hu=>hc i j u hi (by rw [he i hi];exact hu)⟩
theorem GG{tm:Nat->V}{σ:Nat->Option Ob}{nx:Nat}(t:Nat)(v:V)(h:∀(w:World) (L:Nat->Prop) (ρ:Nat->Option Value) (x:Value),R w L ρ (tm t) x->R w L ρ v x):Le ⟨tm,σ,nx⟩ ⟨bL tm t v,σ,nx⟩:=by
 intro P N C a w ⟨L,ρ,g⟩;refine⟨L,ρ,⟨g.g,g.fr,fun t'=> ?_,g.size,g.defers,g.pin⟩⟩;show R _ _ _ (bL tm t v t') _;by_cases he:t'=t;·subst he;rw [ak];exact h _ _ _ _ (g.tm t')
 ·rw [ah _ _ he];exact g.tm t'
theorem Jy{tm:Nat->V}{σ:Nat->Option Ob}{nx:Nat}(t:Nat){sz n n':Nat}{row row':Nat->List V}(h:tm t= .sl sz n row)(hn:n=n')(he:∀i,i< n->row i=row' i):Le ⟨tm,σ,nx⟩ ⟨bL tm t (.sl sz n' row'),σ,nx⟩:=by subst hn;refine GG t _ fun w L ρ x hx=> ?_;rw [h]at hx;exact zE hx he
theorem v7{tm:Nat->V}{σ:Nat->Option Ob}{nx:Nat}(t id:Nat){e sz n n':Nat}{row row':Nat->List V}(ht:tm t= .own id)(hσ:σ id=some (.row e sz n row))(hi:∀i,i< n->V.bA (row i)=true)(hn:n=n')(he:∀i,i< n->row i=row' i) :
 Le ⟨tm,σ,nx⟩ ⟨bL (fun t=>V.fz id (.sl sz n row) (tm t)) t (.sl sz n' row'),bL σ id none,nx⟩:=
 Le.trans (DP id hσ hi) (Jy t (n:=n) (row:=row) (by simp [ht,V.fz]) hn he)
end Go.Ab

namespace Go.Dw
open Go.RowKit Go.Shelf
end Go.Dw
namespace Go.Ab
open Go.RowKit Go.Dw Go.Shelf
mutual
def V.flat:V->Bool
 | .any=>true
 | .c _=>true
 | .agg cs=>V.gh cs
 |_=>false
def V.gh:List V->Bool
 | []=>true
 |v::l=>v.flat && V.gh l
end
theorem V.lM:∀ {l:List V}(_:V.gh l=true){i:Nat}{u:V}(_:l[i]?=some u),u.flat=true
 | [],_,_,_,h=>by simp at h
 |x::l,h,i,u,hu=>by
  simp only [V.gh,Bool.and_eq_true]at h;cases i with
  |zero=>simp at hu;subst hu;exact h.1
  |succ i=>exact V.lM h.2 (by simpa using hu)
theorem V.nC:∀ {l m:List V},V.gh l=true->V.gh m=true->V.gh (l++m)=true
 | [],_,_,h=>h
 |x::l,m,h,k=>by simp only [V.gh,Bool.and_eq_true,List.cons_append]at h ⊢;exact⟨h.1,V.nC h.2 k⟩
theorem R.flat{w w':World}{L L':Nat->Prop}{ρ ρ':Nat->Option Value}{u:V}{x:Value}(h:R w L ρ u x)(hf:u.flat=true):R w' L' ρ' u x:=by
 induction h generalizing ρ' with
 |any=>exact .any _ _
 |c=>exact .c _ _
 |agg ρ cs xs f hl h2 hr ih=>exact .agg _ _ _ f hl h2 fun i u hu=>ih i u hu (V.lM (by simpa [V.flat]using hf) hu)
 |_=>simp [V.flat]at hf
theorem RL.flat{w w':World}{L L':Nat->Prop}{ρ ρ':Nat->Option Value}{us:List V}{xs:List Value}(h:RL w L ρ us xs)(hf:V.gh us=true):RL w' L' ρ' us xs:= ⟨h.1,fun i u x hu hx=>⟨(h.2 i u x hu hx).1.flat (V.lM hf hu),(h.2 i u x hu hx).2⟩⟩
def Ob.flat:Ob->Prop
 | .box _ cs=>V.gh cs=true
 | .row _ _ m f=>∀i,i< m->V.gh (f i)=true
 | .mp _ f=>∀k u,f.look k=some u->V.flat u=true
theorem xT{row:Nat->List V}:∀n,(∀i,i< n->V.gh (row i)=true)->V.gh (aE n row).flatten=true:=by
 intro n h;have key:∀l:List (List V),(∀x∈l,V.gh x=true)->V.gh l.flatten=true:=by
  intro l;induction l with
  |nil=>intro _;rfl
  |cons x l ih=>intro h;rw [List.flatten_cons];exact V.nC (h x (by simp)) (ih fun y hy=>h y (by simp [hy]))
 refine key _ fun x hx=> ?_;simp only [aE,List.mem_map,List.mem_range]at hx;obtain⟨i,hi,rfl⟩:=hx;exact h i hi
theorem Real.flat{W W' L L':Nat->Prop}{w w':World}{ρ ρ':Nat->Option Value}{id:Nat}{o:Ob}(h:Real W w L ρ id o)(hf:o.flat)(hρ:ρ' id=ρ id)(hb:∀x k,ρ id=some x->blk x=some k->w'.heap[k]?=w.heap[k]?/\W' k/\¬L' k):Real W' w' L' ρ' id o:=by
 cases o with
 |box t cs=>obtain⟨b,xs,h1,h2,h3,h4,h5⟩:=h;have:=hb _ b h1 rfl;exact⟨b,xs,hρ.trans h1,this.2.1,this.2.2,this.1.trans h4,h5.flat hf⟩
 |row t sz n row=>
  obtain⟨v,xs,h1,h2,h3,h4,h5⟩:=h;refine⟨v,xs,hρ.trans h1,?_,h3,h4.flat (xT n hf),fun k hk=>(hb v k h1 hk).2⟩;refine⟨h2.1,?_⟩;rcases h2.2 with h | ⟨g,cap,cur,rfl,q1,q2,q3⟩;·exact .inl h
  ·exact .inr ⟨g,cap,cur,rfl,q1,(hb _ g h1 rfl).1.trans q2,q3⟩
 |mp str f=>obtain⟨b,es,cl,h1,h2,h3,h4,h5⟩:=h;have:=hb _ b h1 rfl;exact⟨b,es,cl,hρ.trans h1,this.2.1,this.2.2,this.1.trans h4,h5.imp fun i u x hu hr=>hr.flat (hf i u hu)⟩
mutual
def V.dh(pn:List Nat):V->Bool
 | .any=>true
 | .c _=>true
 | .nil=>true
 | .emp=>true
 | .agg cs=>V.dF pn cs
 | .own i=>pn.contains i
 | .ref i _=>pn.contains i
 | .oel i _ _ _=>pn.contains i
 | .osl i _ _ _=>pn.contains i
 |_=>false
def V.dF(pn:List Nat):List V->Bool
 | []=>true
 |v::l=>v.dh pn && V.dF pn l
end
theorem V.jK{pn:List Nat}:∀ {l:List V}(_:V.dF pn l=true){i:Nat}{u:V}(_:l[i]?=some u),u.dh pn=true
 | [],_,_,_,h=>by simp at h
 |x::l,h,i,u,hu=>by
  simp only [V.dF,Bool.and_eq_true]at h;cases i with
  |zero=>simp at hu;subst hu;exact h.1
  |succ i=>exact V.jK h.2 (by simpa using hu)
theorem V.mg{pn:List Nat}:∀ {l m:List V},V.dF pn l=true->V.dF pn m=true->V.dF pn (l++m)=true
 | [],_,_,h=>h
 |x::l,m,h,k=>by simp only [V.dF,Bool.and_eq_true,List.cons_append]at h ⊢;exact⟨h.1,V.mg h.2 k⟩
theorem R.dh{pn:List Nat}{w w':World}{L L':Nat->Prop}{ρ ρ':Nat->Option Value}{u:V}{x:Value}(h:R w L ρ u x)(hf:u.dh pn=true)(hρ:∀id∈pn,∀v,ρ id=some v->ρ' id=some v):R w' L' ρ' u x:=by
 induction h generalizing ρ' with
 |any=>exact .any _ _
 |c=>exact .c _ _
 |nil=>exact .nil _
 |emp=>exact .emp _ _
 |agg ρ cs xs f hl h2 hr ih=>exact .agg _ _ _ f hl h2 fun i u hu=>ih i u hu (V.jK (by simpa [V.dh]using hf) hu) hρ
 |own ρ id x h h1=>exact .own _ _ _ (hρ _ (by simpa [V.dh]using hf) _ h) h1
 |ref ρ id off b h=>exact .ref _ _ _ _ (hρ _ (by simpa [V.dh]using hf) _ h)
 |oel ρ id sz i off b n c h=>exact .oel _ _ _ _ _ _ n c (hρ _ (by simpa [V.dh]using hf) _ h)
 |osl ρ id sz off n b m c c2 A h hn hA=>exact .osl _ _ _ _ _ _ m c _ _ (hρ _ (by simpa [V.dh]using hf) _ h) hn hA
 |_=>simp [V.dh]at hf
theorem RL.dh{pn:List Nat}{w w':World}{L L':Nat->Prop}{ρ ρ':Nat->Option Value}{us:List V}{xs:List Value}(h:RL w L ρ us xs)(hf:V.dF pn us=true)(hρ:∀id∈pn,∀v,ρ id=some v->ρ' id=some v):RL w' L' ρ' us xs:= ⟨h.1,fun i u x hu hx=>⟨(h.2 i u x hu hx).1.dh (V.jK hf hu) hρ,(h.2 i u x hu hx).2⟩⟩
def Ob.dh(pn:List Nat):Ob->Prop
 | .box _ cs=>V.dF pn cs=true
 | .row _ _ m f=>∀i,i< m->V.dF pn (f i)=true
 | .mp _ f=>∀k u,f.look k=some u->V.dh pn u=true
theorem vN{pn:List Nat}{row:Nat->List V}:∀n,(∀i,i< n->V.dF pn (row i)=true)->V.dF pn (aE n row).flatten=true:=by
 intro n h;have key:∀l:List (List V),(∀x∈l,V.dF pn x=true)->V.dF pn l.flatten=true:=by
  intro l;induction l with
  |nil=>intro _;rfl
  |cons x l ih=>intro h;rw [List.flatten_cons];exact V.mg (h x (by simp)) (ih fun y hy=>h y (by simp [hy]))
 refine key _ fun x hx=> ?_;simp only [aE,List.mem_map,List.mem_range]at hx;obtain⟨i,hi,rfl⟩:=hx;exact h i hi
theorem Real.dh{pn:List Nat}{W W' L L':Nat->Prop}{w w':World}{ρ ρ':Nat->Option Value}{id:Nat}{o:Ob}(h:Real W w L ρ id o)(hf:o.dh pn)(hn:∀id∈pn,∀v,ρ id=some v->ρ' id=some v)(hρ:ρ' id=ρ id)(hb:∀x k,ρ id=some x->blk x=some k->w'.heap[k]?=w.heap[k]?/\W' k/\¬L' k):Real W' w' L' ρ' id o:=by
 cases o with
 |box t cs=>obtain⟨b,xs,h1,h2,h3,h4,h5⟩:=h;have:=hb _ b h1 rfl;exact⟨b,xs,hρ.trans h1,this.2.1,this.2.2,this.1.trans h4,h5.dh hf hn⟩
 |row t sz n row=>
  obtain⟨v,xs,h1,h2,h3,h4,h5⟩:=h;refine⟨v,xs,hρ.trans h1,?_,h3,h4.dh (vN n hf) hn,fun k hk=>(hb v k h1 hk).2⟩;refine⟨h2.1,?_⟩;rcases h2.2 with h | ⟨g,cap,cur,rfl,q1,q2,q3⟩;·exact .inl h
  ·exact .inr ⟨g,cap,cur,rfl,q1,(hb _ g h1 rfl).1.trans q2,q3⟩
 |mp str f=>obtain⟨b,es,cl,h1,h2,h3,h4,h5⟩:=h;have:=hb _ b h1 rfl;exact⟨b,es,cl,hρ.trans h1,this.2.1,this.2.2,this.1.trans h4,h5.imp fun i u x hu hr=>hr.dh (hf i u hu) hn⟩
def Kk(P:Program)(gf:FuncId)(caps:List V)(es:List (List V)):Prop:=
  (∀(args:Array Value) (w:World),(callFunc gf args).run P w= .ok (.enter gf args) w)/\
  ∀(L:Nat->Prop) (w:World) (lb:Array Value),(∀b,L b->b< w.heap.size)->RV w L ρ0 caps lb.toList->
    ∃xs:List (Array Value),xs.length=es.length/\(∀(k:Nat) v x,es[k]?=some v->xs[k]?=some x->RV w L ρ0 v x.toList)/\∀R:Nat->Prop,(∀b,R b->b< w.heap.size/\¬L b)->Iter P gf lb xs R w
def pH(pn:List Nat)(ok:Nat->Prop)(sl:Nat->List Ob)(X:Nat->Code->List Ob->Prop)(k:Nat):Exit->S->Prop
 | .normal,s=>ok (k+1)/\Le s ⟨fun _=> .any,eL (pn.zip (sl (k+1))),1⟩
 | .ret,s=>∃sx,X k .ret sx/\Le s ⟨fun _=> .any,eL (pn.zip sx),1⟩
 | .exit id,s=>∃sx,X k (.exit id) sx/\Le s ⟨fun _=> .any,eL (pn.zip sx),1⟩
 | .goto t,s=>∃sx,X k (.goto t) sx/\Le s ⟨fun _=> .any,eL (pn.zip sx),1⟩
 |_,_=>False
def oY(tm:Nat->V):List Nat->List V->Nat->V
 |p::ps,v::vs=>oY (bL tm p v) ps vs
 |_,_=>tm
theorem y4{w:World}{L:Nat->Prop}{ρ:Nat->Option Value}:∀(ps:List Tmp) (vs:List V) (x:List Value) (tm:Nat->V) (t:Array Value),(∀p∈ps,p< t.size)->RV w L ρ vs x->(∀i,R w L ρ (tm i) (t.getD i undef))-> (((ps.zip x).foldl (fun t (p,v)=>t.setIfInBounds p v) t).size=t.size)/\∀i,R w L ρ (oY tm ps vs i) (((ps.zip x).foldl (fun t (p,v)=>t.setIfInBounds p v) t).getD i undef)
 | [],vs,x,tm,t,_,_,h=>by simpa [oY]using h
 |p::ps,[],x,tm,t,_,hv,h=>by
  have:x=[]:=by have:=hv.1;simpa using this.symm
  subst this;simpa [oY]using h
 |p::ps,v::vs,[],tm,t,_,hv,h=>by have:=hv.1;simp at this
 |p::ps,v::vs,x::xs,tm,t,hp,hv,h=>by
  have h1:R w L ρ v x:=hv.2 0 v x rfl rfl;have h2:RV w L ρ vs xs:=⟨by have:=hv.1;simpa using this,fun i u y hu hy=>hv.2 (i+1) u y (by simpa using hu) (by simpa using hy)⟩;have:=y4 ps vs xs (bL tm p v) (t.setIfInBounds p x) (fun q hq=>by simpa using hp q (by simp [hq])) h2 fun i=>by
   by_cases he:i=p;·subst he;rw [ak,Array.getD_eq_getD_getElem?,Array.getElem?_setIfInBounds_self_of_lt (hp i (by simp))];exact h1
   ·rw [ah _ _ he,Array.getD_eq_getD_getElem?,Array.getElem?_setIfInBounds_ne (Ne.symm he),<-Array.getD_eq_getD_getElem?];exact h i
  simpa [oY]using this
theorem yj{pn:List Nat}{l:List Ob}{id:Nat}:eL (pn.zip l) id≠none->id∈pn:=by
 induction pn generalizing l with
 |nil=>intro h;simp [eL]at h
 |cons p pn ih=>
  cases l with
  |nil=>intro h;simp [eL]at h
  |cons o l=>
   intro h;by_cases he:id=p;·simp [he]
   ·have:eL (((p::pn).zip (o::l))) id=eL (pn.zip l) id:=by simp [eL,ah _ _ he]
    rw [this]at h;exact List.mem_cons_of_mem _ (ih h)
theorem Real.gv{W L:Nat->Prop}{w:World}{ρ:Nat->Option Value}{id:Nat}{o:Ob}(h:Real W w L ρ id o){x:Value}{k:Nat}(hx:ρ id=some x)(hk:blk x=some k):w.heap[k]?≠some (.deferred (some [])):=by
 intro h7;cases o with
 |box t cs=>
  obtain⟨b,xs,q1,_,_,q4,_⟩:=h;rw [hx]at q1;injection q1 with q1;rw [q1]at hk;simp [blk]at hk;subst hk
  rw [q4]at h7;cases h7
 |row e sz n row=>
  obtain⟨v,xs,q1,q2,_⟩:=h;rw [hx]at q1;injection q1 with q1;subst q1
  rcases q2.2 with⟨h,_⟩ | ⟨g',cap,cur,h,_,hh,_⟩;·rw [h]at hk;simp [blk]at hk
  ·rw [h]at hk;simp [blk]at hk;subst hk;rw [hh]at h7;cases h7
 |mp str f=>
  obtain⟨b,es,cl,q1,_,_,q4,_⟩:=h;rw [hx]at q1;injection q1 with q1;rw [q1]at hk;simp [blk]at hk;subst hk
  rw [q4]at h7;cases h7
end Go.Ab

namespace Go.Ab
open Go.RowKit Go.Dw
def V.PU(k:IntKind)(l:List Int):V:= .sl 1 l.length fun i=>[.c (.int k (gi l i))]
section
variable {w:World}{L:Nat->Prop}{ρ:Nat->Option Value}{A:Option Addr}{n c:Nat}
theorem Nw{l:List Pt}(h:l9 w A n l)(hcap:n<=c)(hL:∀b,A.map (·.block)=some b->L b):R w L ρ (V.pts l) (.slice A n c):=by
 have hl:=h.1;subst hl;refine R.HE hcap fun hn=> ?_;obtain⟨b,o,hA,hb,hc⟩:=h.2.2 hn;subst hA;refine⟨b,o,rfl,hL b rfl,fun _ _=>rfl,fun i j u hi hu=> ?_⟩;have h0:=hc i hi 0 (by decide);have h1:=hc i hi 1 (by decide);simp [oD]at h0 h1;match j,hu with
 |0,hu=>simp at hu;subst hu;exact⟨_,by simpa using h0,rfl,by rw [gL hi];exact .c _ _⟩
 |1,hu=>simp at hu;subst hu;exact⟨_,by simpa using h1,rfl,by rw [gL hi];exact .c _ _⟩
 |j+2,hu=>simp at hu
theorem zD{k:IntKind}{l:List Int}{x:Value}(h:R w L ρ (V.PU k l) x)(hL:∀b,L b->b< w.heap.size):∃A c,x= .slice A l.length c/\l.length<=c/\fZ (fun x=>[.int k x]) 1 w A l.length l:=by
 obtain⟨A,c,rfl,h'⟩:=R.jg h;refine⟨A,c,rfl,h.wB,rfl,fun _=>rfl,fun hn=> ?_⟩;obtain⟨b,o,hA,hb,_,hc⟩:=h' hn;refine⟨b,o,hA,hL b hb,fun i hi j hj=> ?_⟩;obtain rfl:j=0:=by omega
 obtain⟨y,hy,_,hr⟩:=hc i 0 _ hi (by simp;rfl);cases hr;rw [kU hi]at hy;simpa using hy
theorem qT{l:List Int}{x:Value}(h:R w L ρ (V.ints l) x)(hL:∀b,L b->b< w.heap.size):∃A c,x= .slice A l.length c/\l.length<=c/\dQ w A l.length l:=zD (k:= .i64) h hL
theorem ue{l:List Pt}{x:Value}(h:R w L ρ (V.pts l) x)(hL:∀b,L b->b< w.heap.size):∃A c,x= .slice A l.length c/\l.length<=c/\l9 w A l.length l:=by
 obtain⟨A,c,rfl,h'⟩:=R.jg h;refine⟨A,c,rfl,h.wB,rfl,xP,fun hn=> ?_⟩;obtain⟨b,o,hA,hb,_,hc⟩:=h' hn;refine⟨b,o,hA,hL b hb,fun i hi j hj=> ?_⟩;match j,hj with
 |0,_=>obtain⟨y,hy,_,hr⟩:=hc i 0 _ hi (by simp;rfl);cases hr;rw [gL hi]at hy;simpa [oD]using hy
 |1,_=>obtain⟨y,hy,_,hr⟩:=hc i 1 _ hi (by simp;rfl);cases hr;rw [gL hi]at hy;simpa [oD]using hy
end
theorem JL{w:World}{base:Nat}{e:TypeId}{sz n m c:Nat}{A:Option Addr}{xs:List Value}(h:w.ownsRow base e sz (.slice A m c) n xs):m<=c:=by
 rcases h.2 with⟨hv,h0⟩ | ⟨g,cap,cur,hv,_,_,h3,_⟩;·injection hv with _ hv hc;omega
 ·injection hv with _ hv hc;omega
theorem DY{w:World}{base:Nat}{e:TypeId}{n:Nat}{v:Value}{l:List Pt}(h:w.ownsRow base e 2 v n (l.flatMap oD)):∃N:Nat->Prop,(∀b,N b->base<=b/\b< w.heap.size)/\∀ρ,R w N ρ (V.pts l) v:=by
 obtain⟨A,c,rfl⟩:=su h;refine⟨fun b=>A.map (·.block)=some b,fun b hb=> ?_,fun ρ=>Nw (fZ.AD xP (by decide) h) (JL h) fun b hb=>hb⟩;rcases h.2 with⟨hv,h0⟩ | ⟨g,cap,cur,hv,hg,hh,_⟩;·injection hv with hv;subst hv;simp at hb
 ·injection hv with hv;subst hv;simp at hb;subst hb;exact⟨hg,(Array.getElem?_eq_some_iff.1 hh).1⟩
theorem pI{P:Program}{f:FuncId}{args:List V}{v:V}(he:∀(args:Array Value) (w:World),(callFunc f args).run P w= .ok (.enter f args) w) (h:∀(L:Nat->Prop) (w:World) (vs:Array Value),(∀b,L b->b< w.heap.size)->RV w L ρ0 args vs.toList-> Calls P f vs w fun e w'=>∃x,e= .returned x/\Below w.heap.size w w'/\∃N:Nat->Prop,(∀b,N b->w.heap.size<=b/\b< w'.heap.size)/\R w' (fun b=>L b\/N b) ρ0 v x):AC P f args v []:=by
 refine⟨he,fun L w vs hL hgl hvs=>(h L w vs hL hvs).mono ?_⟩;rintro e w' ⟨x,rfl,hb,N,hN,hr⟩;refine⟨x,rfl,hb,fun b=>L b\/N b,ρ0,⟨fun b hb'=> ?_,fun b hb'=>⟨Nat.le_trans hb.size hb',.inr (Nat.le_trans hb.size hb')⟩,fun id o ho=>by simp [mV]at ho,fun i j x y k _ hi=>by simp [mV]at hi,fun g=>(hgl g).mono (fun b hb'=>⟨.inl hb',hb.block b (hL b hb')⟩) fun _ _ h=>h⟩,fun b h=> .inl h,hr,fun _ _=>rfl⟩;rcases hb' with h |h;·exact⟨Nat.lt_of_lt_of_le (hL b h) hb.size,.inl h⟩
 ·exact⟨(hN b h).2,.inr (hN b h).1⟩
theorem xC{P:Program}{f:FuncId}{args:List V}{v:V}(h:AC P f args v []){w:World}{vs:Array Value}(hvs:RV w (fun b=>b< w.heap.size) ρ0 args vs.toList)(hgl:∀g,R w (fun b=>b< w.heap.size) ρ0 (jn g) (ql g):=by exact fun _=> .any _ _) : Calls P f vs w fun e w'=>∃x,e= .returned x/\Below w.heap.size w w'/\∃L' ρ',(∀b,L' b->b< w'.heap.size)/\R w' L' ρ' v x:=by refine(h.2 (fun b=>b< w.heap.size) w vs (fun _ h=>h) hgl hvs).mono ?_;rintro e w' ⟨x,rfl,hb,L',ρ',hG,_,hr,_⟩;exact⟨x,rfl,hb,L',ρ',fun b hb=>(hG.ll b hb).1,hr⟩
theorem DO{P:Program}{f:FuncId}{args:List V}(h:AC P f args (V.b true) []){w:World}{vs:Array Value}(hvs:RV w (fun b=>b< w.heap.size) ρ0 args vs.toList)(hgl:∀g,R w (fun b=>b< w.heap.size) ρ0 (jn g) (ql g):=by exact fun _=> .any _ _) : Calls P f vs w fun e w'=>e= .returned (.bool true)/\Below w.heap.size w w':=by refine(xC h hvs hgl).mono ?_;rintro e w' ⟨x,rfl,hb,L',ρ',_,hr⟩;exact⟨by rw [hr.aN],hb⟩
section
variable {w:World}{ρ:Nat->Option Value}{A:Option Addr}{n c:Nat}
abbrev Old(w:World):Nat->Prop:=fun b=>b< w.heap.size
end
theorem jt{T:List TI}{fn:Func}{v:V}{obs:List Ob}{e:Exit}{s s':S}(hle:Le s s')(h:gO T fn v obs e s'):gO T fn v obs e s:=by obtain⟨he,s'',hle',h1⟩:=h;exact⟨he,s'',Le.trans hle hle',h1⟩
theorem le_nil{tm:Nat->V}{σ:Nat->Option Ob}{nx:Nat}(t:Nat){sz:Nat}(n:Nat)(row:Nat->List V)(h:tm t= .nil)(hn:n=0):Le ⟨tm,σ,nx⟩ ⟨bL tm t (.sl sz n row),σ,nx⟩:=by subst hn;refine GG t _ fun w L ρ x hx=> ?_;rw [h]at hx;cases hx;exact .sl0 _ _ _ _ _
def cw(u' u:V):Prop:=∀(w:World) (L:Nat->Prop) (x:Value),R w L ρ0 u' x->R w L ρ0 u x
theorem cw.refl(u:V):cw u u:=fun _ _ _ h=>h
theorem cw.rows{sz n n':Nat}{row row':Nat->List V}(hn:n=n')(he:∀i,i< n->row i=row' i):cw (.sl sz n row) (.sl sz n' row'):=by subst hn;exact fun _ _ _ h=>zE h he
def A2:List V->List V->Prop
 | [],[]=>True
 |u'::l',u::l=>cw u' u/\A2 l' l
 |_,_=>False
theorem A2.rv:∀ {l' l:List V}{xs:List Value}{w:World}{L:Nat->Prop},A2 l' l->RV w L ρ0 l' xs->RV w L ρ0 l xs
 | [],[],_,_,_,_,h=>h
 |u'::l',u::l,[],_,_,_,h=>by have:=h.1;simp at this
 |u'::l',u::l,x::xs,w,L,a,h=>by have h1:R w L ρ0 u' x:=h.2 0 u' x rfl rfl;have h2:RV w L ρ0 l' xs:=⟨by have:=h.1;simpa using this,fun i v y hv hy=>h.2 (i+1) v y (by simpa using hv) (by simpa using hy)⟩;exact .cons (a.1 w L x h1) (A2.rv a.2 h2)
 | [],_::_,_,_,_,a,_=>a.elim
 |_::_,[],_,_,_,a,_=>a.elim
theorem AC.conv{P:Program}{f:FuncId}{args args':List V}{v:V}{obs:List Ob}(h:AC P f args v obs)(a:A2 args' args):AC P f args' v obs:= ⟨h.1,fun L w vs hL hgl hv=>h.2 L w vs hL hgl (a.rv hv)⟩
end Go.Ab
