/-
  A run of operations by a list of what each one asks for; the values are computed. No condition.
-/
import Derived.Test.YtdgkdpgjnilmjaaGreatDoorMD
namespace Go.Ab
open Go.RowKit Go.Dw

/-- what is told of an operation that asks for something: its condition; that a number is one; all of it -/
inductive PX where
  |c (p:Prop)
  |i (x:Int)
  |r (r:PR)
def PX.pr(x:PX)(d:Option Nat)(v:V):PR:=match x with
 | .c p'=>⟨d,some p',v,[],false⟩
 | .i y=>⟨d,some (-9223372036854775808<=y/\y<=9223372036854775807),v,[],false⟩
 | .r z=>z
def i6(T:List TI)(M:List Nat)(nx:Nat)(ds:List (Option Tmp))(tm:Nat->V)(σ:Nat->Option Ob)(o:Oper):V:=match qe T false M nx ds tm σ o with
 |some q=>q.v
 |none=> .any
def mX(T:List TI)(M:List Nat)(nx:Nat)(ds:List (Option Tmp)):Nat->Nat->List Oper->List (Nat×PX)->(Nat->V)->(Nat->Option Ob)->List PR
 |0,_,_,_,_,_=>[]
 |_+1,_,[],_,_,_=>[]
 |n+1,i,o::os,[],tm,σ=>⟨o.dst,none,i6 T M nx ds tm σ o,[],false⟩::mX T M nx ds n (i+1) os [] (cZ tm o.dst (i6 T M nx ds tm σ o)) σ
 |n+1,i,o::os,(j,x)::l,tm,σ=>match Nat.beq j i with
  |true=>x.pr o.dst (i6 T M nx ds tm σ o)::mX T M nx ds n (i+1) os l (cZ tm (x.pr o.dst (i6 T M nx ds tm σ o)).d (x.pr o.dst (i6 T M nx ds tm σ o)).v) (bA σ (x.pr o.dst (i6 T M nx ds tm σ o)).δ)
  |false=>⟨o.dst,none,i6 T M nx ds tm σ o,[],false⟩::mX T M nx ds n (i+1) os ((j,x)::l) (cZ tm o.dst (i6 T M nx ds tm σ o)) σ
/-- the conditions of operations under a guard -/
abbrev gA(g:Bool)(p:Prop):Prop:=(True/\True)/\(g=true->p)
abbrev gB(g:Bool)(p:Prop):Prop:=((g=true->g=true)/\True)/\(g=true->p)
abbrev gC(g:Bool)(p:Prop):Prop:=((g=true->g=true)/\(g=true->g=true)/\True)/\(g=true->p)
abbrev gD(g:Bool)(p:Prop):Prop:=((g=true->g=true)/\True/\True)/\(g=true->p)
def qE:List (Nat×PX)->Prop
 | []=>True
 | (_,.c p)::l=>p/\qE l
 | (_,.i x)::l=>(-9223372036854775808<=x/\x<=9223372036854775807)/\qE l
 | (_,.r r)::l=>match r.q with
  |none=>qE l
  |some c=>c/\qE l
theorem sr{T:List TI}{M:List Nat}{nx:Nat}{ds:List (Option Tmp)}:∀ {n i:Nat}{os:List Oper}{l:List (Nat×PX)}{tm:Nat->V}{σ:Nat->Option Ob},qE l->lA (mX T M nx ds n i os l tm σ)
 |0,_,_,_,_,_,_=>by simp only [mX];trivial
 |_+1,_,[],_,_,_,_=>by simp only [mX];trivial
 |n+1,i,o::os,[],tm,σ,h=>by simp only [mX,lA];exact sr h
 |n+1,i,o::os,(j,x)::l,tm,σ,h=>by
  simp only [mX];split
  ·cases x with
   |c p=>simp only [PX.pr,lA];exact⟨h.1,sr h.2⟩
   |i x=>simp only [PX.pr,lA];exact⟨h.1,sr h.2⟩
   |r r=>
    simp only [PX.pr,lA];simp only [qE]at h;split at h;·rename_i e;rw [e];exact sr h
    ·rename_i e;rw [e];exact⟨h.1,sr h.2⟩
  ·simp only [lA];exact sr h
section
variable {P:Program}{N:Nat}{C:Cx P N}{T:List TI}{M:List Nat}{nx:Nat}{ops:Array Oper}{os:List Oper}{tm:Nat->V}{σ:Nat->Option Ob}{ks:List (List Nat×List Nat)}{K:(Nat->V)->(Nat->Option Ob)->List (List Nat×List Nat)->Prop}
theorem HU(hT:aO T P)(n:Nat)(l:List (Nat×PX))(hc:qE l)
 (hk:bq C ops nx (os.drop n) (y9 (mX T M nx (ops.toList.map (·.dst)) n 0 os l tm σ) tm) (qB (mX T M nx (ops.toList.map (·.dst)) n 0 os l tm σ) σ) (tc T M nx (ops.toList.map (·.dst)) os (mX T M nx (ops.toList.map (·.dst)) n 0 os l tm σ) tm σ ks) K)
 (hn:(mX T M nx (ops.toList.map (·.dst)) n 0 os l tm σ).length=n:=by kernel_rfl)
 (h:n7 T M nx (ops.toList.map (·.dst)) os (mX T M nx (ops.toList.map (·.dst)) n 0 os l tm σ) tm σ=(mX T M nx (ops.toList.map (·.dst)) n 0 os l tm σ).map fun r=>some r.ex:=by kernel_rfl):bq C ops nx os tm σ ks K:=
 ai hT _ hn h (sr hc) hk
theorem aX(hT:aO T P)(n:Nat)(l:List (Nat×PX))(hc:qE l)
 (hk:bq C ops nx (os.drop n) (y9 (mX T [] nx (ops.toList.map (·.dst)) n 0 os l tm σ) tm) (qB (mX T [] nx (ops.toList.map (·.dst)) n 0 os l tm σ) σ) (tc T [] nx (ops.toList.map (·.dst)) os (mX T [] nx (ops.toList.map (·.dst)) n 0 os l tm σ) tm σ ks) K)
 (hn:(mX T [] nx (ops.toList.map (·.dst)) n 0 os l tm σ).length=n:=by kernel_rfl)
 (h:n7 T [] nx (ops.toList.map (·.dst)) os (mX T [] nx (ops.toList.map (·.dst)) n 0 os l tm σ) tm σ=(mX T [] nx (ops.toList.map (·.dst)) n 0 os l tm σ).map fun r=>some r.ex:=by kernel_rfl):bq C ops nx os tm σ ks K:=
 ai hT _ hn h (sr hc) hk
variable {ty:TypeId}{pos:String}{af:Array Edge}
theorem eC{d:Nat}{fo:Operand}{ar:Array Operand}{ats:Array TypeId}{f:FuncId}{args:List V}{v:V}(hc:AC P f args v [])(hk:bq C ops nx os (bU tm d v) σ (ks++[([],[])]) K)
 (hf:ev tm fo= .fn (.func f) [] []:=by kernel_rfl) (hargs:[]++ar.toList.map (ev tm)++[]=args:=by kernel_rfl) (hidf:V.aZ args=true:=by kernel_rfl) (hv:v.bX=true:=by kernel_rfl) (hd:decide (d< 1000)=true:=by kernel_rfl) :
 bq C ops nx (⟨some d,.call {callee:= .value fo,args:=ar,argTypes:=ats},ty,pos,af,none⟩::os) tm σ ks K:=aV hc hf hargs hidf hv hd hk
theorem eG(n:Nat){d:Nat}{gd':Nat×Bool}{g:Bool}{fo:Operand}{ar:Array Operand}{ats:Array TypeId}{f:FuncId}{args:List V}{v:V}(hc:g=true->AC P f args v [])
 (hk:bq C ops nx os (bU tm d (.gd g v)) σ (ks++[([],[])]) K)
 (hg:fB (ops.toList.map (·.dst)) tm ⟨some d,.call {callee:= .value fo,args:=ar,argTypes:=ats},ty,pos,af,some gd'⟩=some (some g):=by kernel_rfl)
 (hf:ug (ev tm fo)= .fn (.func f) [] []:=by kernel_rfl) (hargs:[]++ar.toList.map (fun x=>ug (ev tm x))++[]=args:=by kernel_rfl) (hidf:V.aZ args=true:=by kernel_rfl) (hv:v.bX=true:=by kernel_rfl) (hd:decide (d< 1000)=true:=by kernel_rfl)
 (hu:CW (opsV tm ⟨some d,.call {callee:= .value fo,args:=ar,argTypes:=ats},ty,pos,af,some gd'⟩)=List.replicate n g:=by kernel_rfl) :
 bq C ops nx (⟨some d,.call {callee:= .value fo,args:=ar,argTypes:=ats},ty,pos,af,some gd'⟩::os) tm σ ks K:=d8 n hg hc hf hargs hidf hv hd hu hk
variable {Q:Exit->S->Prop}{id:Nat}{ol:List Oper}
theorem wR(n':Nat)(h:bq C ol.toArray nx ol tm σ [] fun tm' σ' _=>Q .normal ⟨tm',σ',n'⟩)(hok:fK N ol=true:=by kernel_rfl)(hn:nx+1=n':=by kernel_rfl):AW C (.region id ol.toArray false) Q ⟨tm,σ,nx⟩:=ah hok hn h
theorem wD(n':Nat)(h:bq C ol.toArray nx ol tm σ [] fun tm' σ' ks=>gu ol ks=true/\Q .normal ⟨tm',σ',n'⟩)(hok:fK N ol=true:=by kernel_rfl)(hn:nx+1=n':=by kernel_rfl):AW C (.region id ol.toArray true) Q ⟨tm,σ,nx⟩:=aB hok hn h
theorem rP{T:List TI}{fn:Func}{v:V}{s:S}(v':V)(hres:nc T s fn.results.toList=some v':=by kernel_rfl)(hv:v'=v:=by kernel_rfl)(hi:v'.bX=true:=by kernel_rfl):jr T fn v [] .ret s:=aD (.inr rfl) hres hv hi
theorem Jq{T:List TI}{fn:Func}{v:V}{s:S}(v':V)(hres:nc T s fn.results.toList=some v':=by kernel_rfl)(hv:v'=v:=by kernel_rfl)(hi:v'.bX=true:=by kernel_rfl):jr T fn v [] .normal s:=aD (.inl rfl) hres hv hi
end
theorem Jp{T:List TI}{P:Program}(hT:aO T P)(hmx:P.follows .mixedOrders=true){f:FuncId}{fn:Func}{c:Code}{N:Nat}(hf:P.funcs[f]?=some fn)(hn:fn.ntmps=N){args:List V}{v:V}{obs:List Ob}
 (h:∀C:Cx P N,C.dfs=r9->C.F=Fence.wide->AW C c (jr T fn v obs) ⟨fun t=>args.getD t .any,fun _=>none,1⟩) (hb:fn.body=some c:=by rfl) (hname:(fn.name == "runtime.NumGoroutine")=false:=by kernel_rfl) (hargs:args.length<=N:=by simp):AC P f args v obs:=
 bu hT hmx ⟨hf,hb,hn,hname⟩ hargs h
section
variable {P:Program}{N:Nat}{C:Cx P N}{Q:Exit->S->Prop}{ops:Array Oper}{nx:Nat}{tm:Nat->V}{σ:Nat->Option Ob}{ks:List (List Nat×List Nat)}
theorem sK{x y:Code}{s:S}(h:∀K:S->Prop,(∀s',AW C y Q s'->K s')->AW C x (eH K Q) s):AW C (.seq x y) Q s:=aa h
theorem sX{T:List TI}(hT:aO T P)(n' m:Nat)(l:List (Nat×PX))(hc:qE l){y:Code}{id:Nat}{ol:List Oper}(h:AW C y Q ⟨y9 (mX T [] nx (ol.toArray.toList.map (·.dst)) m 0 ol l tm σ) tm,qB (mX T [] nx (ol.toArray.toList.map (·.dst)) m 0 ol l tm σ) σ,n'⟩)(hz:ol.drop m=[]:=by kernel_rfl)
 (hn:(mX T [] nx (ol.toArray.toList.map (·.dst)) m 0 ol l tm σ).length=m:=by kernel_rfl) (h2:n7 T [] nx (ol.toArray.toList.map (·.dst)) ol (mX T [] nx (ol.toArray.toList.map (·.dst)) m 0 ol l tm σ) tm σ=(mX T [] nx (ol.toArray.toList.map (·.dst)) m 0 ol l tm σ).map fun r=>some r.ex:=by kernel_rfl)
 (hok:fK N ol=true:=by kernel_rfl) (hn':nx+1=n':=by kernel_rfl):AW C (.seq (.region id ol.toArray false) y) Q ⟨tm,σ,nx⟩:=
 aa fun K hK=>wR n' (aX hT m l hc (by rw [hz];exact ag (au (Q:=Q) (hK _ h))) hn h2) hok hn'
theorem nK{p next:S->Prop}{n:Nat}(hK:∀s',p s'->next s')(h:p ⟨tm,σ,n⟩):bq C ops nx [] tm σ ks (fun a b _=>eH next Q .normal ⟨a,b,n⟩):=hK _ h
end
end Go.Ab
