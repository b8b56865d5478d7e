/-
  A run of operations by a list of what each one asks for; the values are computed. No condition.
-/
import Derived.Test.YtjmbpjlojjgggaaGreatDoorMD
namespace Go.Ab
open Go.RowKit Go.Dw

/-- what is told of an operation that asks for something: its condition; that a number is one; all of it -/
inductive PX where
  |c (p:Prop)
  |i (x:Int)
  |r (r:PR)
def PX.pr(x:PX)(d:Option Nat)(v:V):PR:=match x with
 | .c p'=>⟨d,some p',v,[],false⟩
 | .i y=>⟨d,some (-9223372036854775808<=y/\y<=9223372036854775807),v,[],false⟩
 | .r z=>z
def ku(T:List TI)(M:List Nat)(nx:Nat)(ds:List (Option Tmp))(tm:Nat->V)(σ:Nat->Option Ob)(o:Oper):V:=match ni T false M nx ds tm σ o with
 |some q=>q.v
 |none=> .any
def pS(T:List TI)(M:List Nat)(nx:Nat)(ds:List (Option Tmp)):Nat->Nat->List Oper->List (Nat×PX)->(Nat->V)->(Nat->Option Ob)->List PR
 |0,_,_,_,_,_=>[]
 |_+1,_,[],_,_,_=>[]
 |n+1,i,o::os,[],tm,σ=>⟨o.dst,none,ku T M nx ds tm σ o,[],false⟩::pS T M nx ds n (i+1) os [] (cY tm o.dst (ku T M nx ds tm σ o)) σ
 |n+1,i,o::os,(j,x)::l,tm,σ=>match Nat.beq j i with
  |true=>x.pr o.dst (ku T M nx ds tm σ o)::pS T M nx ds n (i+1) os l (cY tm (x.pr o.dst (ku T M nx ds tm σ o)).d (x.pr o.dst (ku T M nx ds tm σ o)).v) (bu σ (x.pr o.dst (ku T M nx ds tm σ o)).δ)
  |false=>⟨o.dst,none,ku T M nx ds tm σ o,[],false⟩::pS T M nx ds n (i+1) os ((j,x)::l) (cY tm o.dst (ku T M nx ds tm σ o)) σ
/-- the conditions of operations under a guard -/
abbrev gA(g:Bool)(p:Prop):Prop:=(True/\True)/\(g=true->p)
abbrev gB(g:Bool)(p:Prop):Prop:=((g=true->g=true)/\True)/\(g=true->p)
abbrev gC(g:Bool)(p:Prop):Prop:=((g=true->g=true)/\(g=true->g=true)/\True)/\(g=true->p)
abbrev gD(g:Bool)(p:Prop):Prop:=((g=true->g=true)/\True/\True)/\(g=true->p)
def tX:List (Nat×PX)->Prop
 | []=>True
 | (_,.c p)::l=>p/\tX l
 | (_,.i x)::l=>(-9223372036854775808<=x/\x<=9223372036854775807)/\tX l
 | (_,.r r)::l=>match r.q with
  |none=>tX l
  |some c=>c/\tX l
theorem vS{T:List TI}{M:List Nat}{nx:Nat}{ds:List (Option Tmp)}:∀ {n i:Nat}{os:List Oper}{l:List (Nat×PX)}{tm:Nat->V}{σ:Nat->Option Ob},tX l->nU (pS T M nx ds n i os l tm σ)
 |0,_,_,_,_,_,_=>by simp only [pS];trivial
 |_+1,_,[],_,_,_,_=>by simp only [pS];trivial
 |n+1,i,o::os,[],tm,σ,h=>by simp only [pS,nU];exact vS h
 |n+1,i,o::os,(j,x)::l,tm,σ,h=>by
  simp only [pS];split
  ·cases x with
   |c p=>simp only [PX.pr,nU];exact⟨h.1,vS h.2⟩
   |i x=>simp only [PX.pr,nU];exact⟨h.1,vS h.2⟩
   |r r=>
    simp only [PX.pr,nU];simp only [tX]at h;split at h;·rename_i e;rw [e];exact vS h
    ·rename_i e;rw [e];exact⟨h.1,vS h.2⟩
  ·simp only [nU];exact vS h
section
variable {P:Program}{N:Nat}{C:Cx P N}{T:List TI}{M:List Nat}{nx:Nat}{ops:Array Oper}{os:List Oper}{tm:Nat->V}{σ:Nat->Option Ob}{ks:List (List Nat×List Nat)}{K:(Nat->V)->(Nat->Option Ob)->List (List Nat×List Nat)->Prop}
theorem b9(hT:aE T P)(n:Nat)(l:List (Nat×PX))(hc:tX l)
 (hk:aR C ops nx (os.drop n) (Db (pS T M nx (ops.toList.map (·.dst)) n 0 os l tm σ) tm) (tV (pS T M nx (ops.toList.map (·.dst)) n 0 os l tm σ) σ) (wU T M nx (ops.toList.map (·.dst)) os (pS T M nx (ops.toList.map (·.dst)) n 0 os l tm σ) tm σ ks) K)
 (hn:(pS T M nx (ops.toList.map (·.dst)) n 0 os l tm σ).length=n:=by kernel_rfl)
 (h:qT T M nx (ops.toList.map (·.dst)) os (pS T M nx (ops.toList.map (·.dst)) n 0 os l tm σ) tm σ=(pS T M nx (ops.toList.map (·.dst)) n 0 os l tm σ).map fun r=>some r.ex:=by kernel_rfl):aR C ops nx os tm σ ks K:=
 aj hT _ hn h (vS hc) hk
theorem aX(hT:aE T P)(n:Nat)(l:List (Nat×PX))(hc:tX l)
 (hk:aR C ops nx (os.drop n) (Db (pS T [] nx (ops.toList.map (·.dst)) n 0 os l tm σ) tm) (tV (pS T [] nx (ops.toList.map (·.dst)) n 0 os l tm σ) σ) (wU T [] nx (ops.toList.map (·.dst)) os (pS T [] nx (ops.toList.map (·.dst)) n 0 os l tm σ) tm σ ks) K)
 (hn:(pS T [] nx (ops.toList.map (·.dst)) n 0 os l tm σ).length=n:=by kernel_rfl)
 (h:qT T [] nx (ops.toList.map (·.dst)) os (pS T [] nx (ops.toList.map (·.dst)) n 0 os l tm σ) tm σ=(pS T [] nx (ops.toList.map (·.dst)) n 0 os l tm σ).map fun r=>some r.ex:=by kernel_rfl):aR C ops nx os tm σ ks K:=
 aj hT _ hn h (vS hc) hk
variable {ty:TypeId}{pos:String}{af:Array Edge}
theorem eC{d:Nat}{fo:Operand}{ar:Array Operand}{ats:Array TypeId}{f:FuncId}{args:List V}{v:V}(hc:AC P f args v [])(hk:aR C ops nx os (bw tm d v) σ (ks++[([],[])]) K)
 (hf:ev tm fo= .fn (.func f) [] []:=by kernel_rfl) (hargs:[]++ar.toList.map (ev tm)++[]=args:=by kernel_rfl) (hidf:V.aP args=true:=by kernel_rfl) (hv:v.bM=true:=by kernel_rfl) (hd:decide (d< 1000)=true:=by kernel_rfl) :
 aR C ops nx (⟨some d,.call {callee:= .value fo,args:=ar,argTypes:=ats},ty,pos,af,none⟩::os) tm σ ks K:=mw hc hf hargs hidf hv hd hk
theorem eG(n:Nat){d:Nat}{gd':Nat×Bool}{g:Bool}{fo:Operand}{ar:Array Operand}{ats:Array TypeId}{f:FuncId}{args:List V}{v:V}(hc:g=true->AC P f args v [])
 (hk:aR C ops nx os (bw tm d (.gd g v)) σ (ks++[([],[])]) K)
 (hg:dP (ops.toList.map (·.dst)) tm ⟨some d,.call {callee:= .value fo,args:=ar,argTypes:=ats},ty,pos,af,some gd'⟩=some (some g):=by kernel_rfl)
 (hf:ug (ev tm fo)= .fn (.func f) [] []:=by kernel_rfl) (hargs:[]++ar.toList.map (fun x=>ug (ev tm x))++[]=args:=by kernel_rfl) (hidf:V.aP args=true:=by kernel_rfl) (hv:v.bM=true:=by kernel_rfl) (hd:decide (d< 1000)=true:=by kernel_rfl)
 (hu:Hu (opsV tm ⟨some d,.call {callee:= .value fo,args:=ar,argTypes:=ats},ty,pos,af,some gd'⟩)=List.replicate n g:=by kernel_rfl) :
 aR C ops nx (⟨some d,.call {callee:= .value fo,args:=ar,argTypes:=ats},ty,pos,af,some gd'⟩::os) tm σ ks K:=G7 n hg hc hf hargs hidf hv hd hu hk
variable {Q:Exit->S->Prop}{id:Nat}{ol:List Oper}
theorem wR(n':Nat)(h:aR C ol.toArray nx ol tm σ [] fun tm' σ' _=>Q .normal ⟨tm',σ',n'⟩)(hok:fm N ol=true:=by kernel_rfl)(hn:nx+1=n':=by kernel_rfl):AW C (.region id ol.toArray false) Q ⟨tm,σ,nx⟩:=ay hok hn h
theorem wD(n':Nat)(h:aR C ol.toArray nx ol tm σ [] fun tm' σ' ks=>gS ol ks=true/\Q .normal ⟨tm',σ',n'⟩)(hok:fm N ol=true:=by kernel_rfl)(hn:nx+1=n':=by kernel_rfl):AW C (.region id ol.toArray true) Q ⟨tm,σ,nx⟩:=Dc hok hn h
theorem rP{T:List TI}{fn:Func}{v:V}{s:S}(v':V)(hres:pW T s fn.results.toList=some v':=by kernel_rfl)(hv:v'=v:=by kernel_rfl)(hi:v'.bM=true:=by kernel_rfl):ia T fn v [] .ret s:=kG (.inr rfl) hres hv hi
theorem OE{T:List TI}{fn:Func}{v:V}{s:S}(v':V)(hres:pW T s fn.results.toList=some v':=by kernel_rfl)(hv:v'=v:=by kernel_rfl)(hi:v'.bM=true:=by kernel_rfl):ia T fn v [] .normal s:=kG (.inl rfl) hres hv hi
end
theorem iS{T:List TI}{P:Program}(hT:aE T P)(hmx:P.follows .mixedOrders=true){f:FuncId}{fn:Func}{c:Code}{N:Nat}(hf:P.funcs[f]?=some fn)(hn:fn.ntmps=N){args:List V}{v:V}{obs:List Ob}
 (h:∀C:Cx P N,C.dfs=jY->C.F=Fence.wide->AW C c (ia T fn v obs) ⟨fun t=>args.getD t .any,fun _=>none,1⟩) (hb:fn.body=some c:=by rfl) (hname:(fn.name == "runtime.NumGoroutine")=false:=by kernel_rfl) (hargs:args.length<=N:=by simp):AC P f args v obs:=
 vP hT hmx ⟨hf,hb,hn,hname⟩ hargs h
section
variable {P:Program}{N:Nat}{C:Cx P N}{Q:Exit->S->Prop}{ops:Array Oper}{nx:Nat}{tm:Nat->V}{σ:Nat->Option Ob}{ks:List (List Nat×List Nat)}
theorem sK{x y:Code}{s:S}(h:∀K:S->Prop,(∀s',AW C y Q s'->K s')->AW C x (cv K Q) s):AW C (.seq x y) Q s:=wh h
theorem sX{T:List TI}(hT:aE T P)(n' m:Nat)(l:List (Nat×PX))(hc:tX l){y:Code}{id:Nat}{ol:List Oper}(h:AW C y Q ⟨Db (pS T [] nx (ol.toArray.toList.map (·.dst)) m 0 ol l tm σ) tm,tV (pS T [] nx (ol.toArray.toList.map (·.dst)) m 0 ol l tm σ) σ,n'⟩)(hz:ol.drop m=[]:=by kernel_rfl)
 (hn:(pS T [] nx (ol.toArray.toList.map (·.dst)) m 0 ol l tm σ).length=m:=by kernel_rfl) (h2:qT T [] nx (ol.toArray.toList.map (·.dst)) ol (pS T [] nx (ol.toArray.toList.map (·.dst)) m 0 ol l tm σ) tm σ=(pS T [] nx (ol.toArray.toList.map (·.dst)) m 0 ol l tm σ).map fun r=>some r.ex:=by kernel_rfl)
 (hok:fm N ol=true:=by kernel_rfl) (hn':nx+1=n':=by kernel_rfl):AW C (.seq (.region id ol.toArray false) y) Q ⟨tm,σ,nx⟩:=
 wh fun K hK=>wR n' (aX hT m l hc (by rw [hz];exact ag (aq (Q:=Q) (hK _ h))) hn h2) hok hn'
theorem nK{p next:S->Prop}{n:Nat}(hK:∀s',p s'->next s')(h:p ⟨tm,σ,n⟩):aR C ops nx [] tm σ ks (fun a b _=>cv next Q .normal ⟨a,b,n⟩):=hK _ h
end
end Go.Ab
