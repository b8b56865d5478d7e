/-
  A run of operations by a list of what each one asks for; the values are computed. No condition.
-/
import Derived.Test.YtjmbpjlojjgggaaGreatDoorMD
namespace Go.Ab
open Go.RowKit Go.Dw

/-- what is told of an operation that asks for something: its condition; that a number is one; all of it -/
inductive PX where
  |c (p:Prop)
  |i (x:Int)
  |r (r:PR)
def PX.pr(x:PX)(d:Option Nat)(v:V):PR:=match x with
 | .c p'=>⟨d,some p',v,[],false⟩
 | .i y=>⟨d,some (-9223372036854775808<=y/\y<=9223372036854775807),v,[],false⟩
 | .r z=>z
def kP(T:List TI)(M:List Nat)(nx:Nat)(ds:List (Option Tmp))(tm:Nat->V)(σ:Nat->Option Ob)(o:Oper):V:=match nk T false M nx ds tm σ o with
 |some q=>q.v
 |none=> .any
def pX(T:List TI)(M:List Nat)(nx:Nat)(ds:List (Option Tmp)):Nat->Nat->List Oper->List (Nat×PX)->(Nat->V)->(Nat->Option Ob)->List PR
 |0,_,_,_,_,_=>[]
 |_+1,_,[],_,_,_=>[]
 |n+1,i,o::os,[],tm,σ=>⟨o.dst,none,kP T M nx ds tm σ o,[],false⟩::pX T M nx ds n (i+1) os [] (eO tm o.dst (kP T M nx ds tm σ o)) σ
 |n+1,i,o::os,(j,x)::l,tm,σ=>match Nat.beq j i with
  |true=>x.pr o.dst (kP T M nx ds tm σ o)::pX T M nx ds n (i+1) os l (eO tm (x.pr o.dst (kP T M nx ds tm σ o)).d (x.pr o.dst (kP T M nx ds tm σ o)).v) (bz σ (x.pr o.dst (kP T M nx ds tm σ o)).δ)
  |false=>⟨o.dst,none,kP T M nx ds tm σ o,[],false⟩::pX T M nx ds n (i+1) os ((j,x)::l) (eO tm o.dst (kP T M nx ds tm σ o)) σ
/-- the conditions of operations under a guard -/
abbrev gA(g:Bool)(p:Prop):Prop:=(True/\True)/\(g=true->p)
abbrev gB(g:Bool)(p:Prop):Prop:=((g=true->g=true)/\True)/\(g=true->p)
abbrev gC(g:Bool)(p:Prop):Prop:=((g=true->g=true)/\(g=true->g=true)/\True)/\(g=true->p)
abbrev gD(g:Bool)(p:Prop):Prop:=((g=true->g=true)/\True/\True)/\(g=true->p)
def uI:List (Nat×PX)->Prop
 | []=>True
 | (_,.c p)::l=>p/\uI l
 | (_,.i x)::l=>(-9223372036854775808<=x/\x<=9223372036854775807)/\uI l
 | (_,.r r)::l=>match r.q with
  |none=>uI l
  |some c=>c/\uI l
theorem wE{T:List TI}{M:List Nat}{nx:Nat}{ds:List (Option Tmp)}:∀ {n i:Nat}{os:List Oper}{l:List (Nat×PX)}{tm:Nat->V}{σ:Nat->Option Ob},uI l->nX (pX T M nx ds n i os l tm σ)
 |0,_,_,_,_,_,_=>by simp only [pX];trivial
 |_+1,_,[],_,_,_,_=>by simp only [pX];trivial
 |n+1,i,o::os,[],tm,σ,h=>by simp only [pX,nX];exact wE h
 |n+1,i,o::os,(j,x)::l,tm,σ,h=>by
  simp only [pX];split
  ·cases x with
   |c p=>simp only [PX.pr,nX];exact⟨h.1,wE h.2⟩
   |i x=>simp only [PX.pr,nX];exact⟨h.1,wE h.2⟩
   |r r=>
    simp only [PX.pr,nX];simp only [uI]at h;split at h;·rename_i e;rw [e];exact wE h
    ·rename_i e;rw [e];exact⟨h.1,wE h.2⟩
  ·simp only [nX];exact wE h
section
variable {P:Program}{N:Nat}{C:Cx P N}{T:List TI}{M:List Nat}{nx:Nat}{ops:Array Oper}{os:List Oper}{tm:Nat->V}{σ:Nat->Option Ob}{ks:List (List Nat×List Nat)}{K:(Nat->V)->(Nat->Option Ob)->List (List Nat×List Nat)->Prop}
theorem dS(hT:aJ T P)(n:Nat)(l:List (Nat×PX))(hc:uI l)
 (hk:bB C ops nx (os.drop n) (EG (pX T M nx (ops.toList.map (·.dst)) n 0 os l tm σ) tm) (uF (pX T M nx (ops.toList.map (·.dst)) n 0 os l tm σ) σ) (xF T M nx (ops.toList.map (·.dst)) os (pX T M nx (ops.toList.map (·.dst)) n 0 os l tm σ) tm σ ks) K)
 (hn:(pX T M nx (ops.toList.map (·.dst)) n 0 os l tm σ).length=n:=by kernel_rfl)
 (h:rI T M nx (ops.toList.map (·.dst)) os (pX T M nx (ops.toList.map (·.dst)) n 0 os l tm σ) tm σ=(pX T M nx (ops.toList.map (·.dst)) n 0 os l tm σ).map fun r=>some r.ex:=by kernel_rfl):bB C ops nx os tm σ ks K:=
 au hT _ hn h (wE hc) hk
theorem aX(hT:aJ T P)(n:Nat)(l:List (Nat×PX))(hc:uI l)
 (hk:bB C ops nx (os.drop n) (EG (pX T [] nx (ops.toList.map (·.dst)) n 0 os l tm σ) tm) (uF (pX T [] nx (ops.toList.map (·.dst)) n 0 os l tm σ) σ) (xF T [] nx (ops.toList.map (·.dst)) os (pX T [] nx (ops.toList.map (·.dst)) n 0 os l tm σ) tm σ ks) K)
 (hn:(pX T [] nx (ops.toList.map (·.dst)) n 0 os l tm σ).length=n:=by kernel_rfl)
 (h:rI T [] nx (ops.toList.map (·.dst)) os (pX T [] nx (ops.toList.map (·.dst)) n 0 os l tm σ) tm σ=(pX T [] nx (ops.toList.map (·.dst)) n 0 os l tm σ).map fun r=>some r.ex:=by kernel_rfl):bB C ops nx os tm σ ks K:=
 au hT _ hn h (wE hc) hk
variable {ty:TypeId}{pos:String}{af:Array Edge}
theorem eC{d:Nat}{fo:Operand}{ar:Array Operand}{ats:Array TypeId}{f:FuncId}{args:List V}{v:V}(hc:AC P f args v [])(hk:bB C ops nx os (bL tm d v) σ (ks++[([],[])]) K)
 (hf:ev tm fo= .fn (.func f) [] []:=by kernel_rfl) (hargs:[]++ar.toList.map (ev tm)++[]=args:=by kernel_rfl) (hidf:V.bq args=true:=by kernel_rfl) (hv:v.b5=true:=by kernel_rfl) (hd:decide (d< 1000)=true:=by kernel_rfl) :
 bB C ops nx (⟨some d,.call {callee:= .value fo,args:=ar,argTypes:=ats},ty,pos,af,none⟩::os) tm σ ks K:=rz hc hf hargs hidf hv hd hk
theorem eG(n:Nat){d:Nat}{gd':Nat×Bool}{g:Bool}{fo:Operand}{ar:Array Operand}{ats:Array TypeId}{f:FuncId}{args:List V}{v:V}(hc:g=true->AC P f args v [])
 (hk:bB C ops nx os (bL tm d (.gd g v)) σ (ks++[([],[])]) K)
 (hg:eN (ops.toList.map (·.dst)) tm ⟨some d,.call {callee:= .value fo,args:=ar,argTypes:=ats},ty,pos,af,some gd'⟩=some (some g):=by kernel_rfl)
 (hf:ug (ev tm fo)= .fn (.func f) [] []:=by kernel_rfl) (hargs:[]++ar.toList.map (fun x=>ug (ev tm x))++[]=args:=by kernel_rfl) (hidf:V.bq args=true:=by kernel_rfl) (hv:v.b5=true:=by kernel_rfl) (hd:decide (d< 1000)=true:=by kernel_rfl)
 (hu:JI (opsV tm ⟨some d,.call {callee:= .value fo,args:=ar,argTypes:=ats},ty,pos,af,some gd'⟩)=List.replicate n g:=by kernel_rfl) :
 bB C ops nx (⟨some d,.call {callee:= .value fo,args:=ar,argTypes:=ats},ty,pos,af,some gd'⟩::os) tm σ ks K:=Jp n hg hc hf hargs hidf hv hd hu hk
variable {Q:Exit->S->Prop}{id:Nat}{ol:List Oper}
theorem wR(n':Nat)(h:bB C ol.toArray nx ol tm σ [] fun tm' σ' _=>Q .normal ⟨tm',σ',n'⟩)(hok:fK N ol=true:=by kernel_rfl)(hn:nx+1=n':=by kernel_rfl):AW C (.region id ol.toArray false) Q ⟨tm,σ,nx⟩:=ai hok hn h
theorem wD(n':Nat)(h:bB C ol.toArray nx ol tm σ [] fun tm' σ' ks=>fB ol ks=true/\Q .normal ⟨tm',σ',n'⟩)(hok:fK N ol=true:=by kernel_rfl)(hn:nx+1=n':=by kernel_rfl):AW C (.region id ol.toArray true) Q ⟨tm,σ,nx⟩:=fe hok hn h
theorem rP{T:List TI}{fn:Func}{v:V}{s:S}(v':V)(hres:qf T s fn.results.toList=some v':=by kernel_rfl)(hv:v'=v:=by kernel_rfl)(hi:v'.b5=true:=by kernel_rfl):gP T fn v [] .ret s:=cj (.inr rfl) hres hv hi
theorem RR{T:List TI}{fn:Func}{v:V}{s:S}(v':V)(hres:qf T s fn.results.toList=some v':=by kernel_rfl)(hv:v'=v:=by kernel_rfl)(hi:v'.b5=true:=by kernel_rfl):gP T fn v [] .normal s:=cj (.inl rfl) hres hv hi
end
theorem ff{T:List TI}{P:Program}(hT:aJ T P)(hmx:P.follows .mixedOrders=true){f:FuncId}{fn:Func}{c:Code}{N:Nat}(hf:P.funcs[f]?=some fn)(hn:fn.ntmps=N){args:List V}{v:V}{obs:List Ob}
 (h:∀C:Cx P N,C.dfs=pz->C.F=Fence.wide->AW C c (gP T fn v obs) ⟨fun t=>args.getD t .any,fun _=>none,1⟩) (hb:fn.body=some c:=by rfl) (hname:(fn.name == "runtime.NumGoroutine")=false:=by kernel_rfl) (hargs:args.length<=N:=by simp):AC P f args v obs:=
 wv hT hmx ⟨hf,hb,hn,hname⟩ hargs h
section
variable {P:Program}{N:Nat}{C:Cx P N}{Q:Exit->S->Prop}{ops:Array Oper}{nx:Nat}{tm:Nat->V}{σ:Nat->Option Ob}{ks:List (List Nat×List Nat)}
theorem sK{x y:Code}{s:S}(h:∀K:S->Prop,(∀s',AW C y Q s'->K s')->AW C x (dR K Q) s):AW C (.seq x y) Q s:=qP h
theorem sX{T:List TI}(hT:aJ T P)(n' m:Nat)(l:List (Nat×PX))(hc:uI l){y:Code}{id:Nat}{ol:List Oper}(h:AW C y Q ⟨EG (pX T [] nx (ol.toArray.toList.map (·.dst)) m 0 ol l tm σ) tm,uF (pX T [] nx (ol.toArray.toList.map (·.dst)) m 0 ol l tm σ) σ,n'⟩)(hz:ol.drop m=[]:=by kernel_rfl)
 (hn:(pX T [] nx (ol.toArray.toList.map (·.dst)) m 0 ol l tm σ).length=m:=by kernel_rfl) (h2:rI T [] nx (ol.toArray.toList.map (·.dst)) ol (pX T [] nx (ol.toArray.toList.map (·.dst)) m 0 ol l tm σ) tm σ=(pX T [] nx (ol.toArray.toList.map (·.dst)) m 0 ol l tm σ).map fun r=>some r.ex:=by kernel_rfl)
 (hok:fK N ol=true:=by kernel_rfl) (hn':nx+1=n':=by kernel_rfl):AW C (.seq (.region id ol.toArray false) y) Q ⟨tm,σ,nx⟩:=
 qP fun K hK=>wR n' (aX hT m l hc (by rw [hz];exact aa (aj (Q:=Q) (hK _ h))) hn h2) hok hn'
theorem nK{p next:S->Prop}{n:Nat}(hK:∀s',p s'->next s')(h:p ⟨tm,σ,n⟩):bB C ops nx [] tm σ ks (fun a b _=>dR next Q .normal ⟨a,b,n⟩):=hK _ h
end
end Go.Ab
