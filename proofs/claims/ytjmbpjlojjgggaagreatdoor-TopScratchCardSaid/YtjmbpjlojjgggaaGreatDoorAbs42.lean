/-
  A run of operations by a list of what each one asks for; the values are computed. No condition.
-/
import Derived.Test.YtjmbpjlojjgggaaGreatDoorMD
namespace Go.Ab
open Go.RowKit Go.Dw

/-- what is told of an operation that asks for something: its condition; that a number is one; all of it -/
inductive PX where
  |c (p:Prop)
  |i (x:Int)
  |r (r:PR)
def PX.pr(x:PX)(d:Option Nat)(v:V):PR:=match x with
 | .c p'=>⟨d,some p',v,[],false⟩
 | .i y=>⟨d,some (-9223372036854775808<=y/\y<=9223372036854775807),v,[],false⟩
 | .r z=>z
def kV(T:List TI)(M:List Nat)(nx:Nat)(ds:List (Option Tmp))(tm:Nat->V)(σ:Nat->Option Ob)(o:Oper):V:=match nF T false M nx ds tm σ o with
 |some q=>q.v
 |none=> .any
def qi(T:List TI)(M:List Nat)(nx:Nat)(ds:List (Option Tmp)):Nat->Nat->List Oper->List (Nat×PX)->(Nat->V)->(Nat->Option Ob)->List PR
 |0,_,_,_,_,_=>[]
 |_+1,_,[],_,_,_=>[]
 |n+1,i,o::os,[],tm,σ=>⟨o.dst,none,kV T M nx ds tm σ o,[],false⟩::qi T M nx ds n (i+1) os [] (eR tm o.dst (kV T M nx ds tm σ o)) σ
 |n+1,i,o::os,(j,x)::l,tm,σ=>match Nat.beq j i with
  |true=>x.pr o.dst (kV T M nx ds tm σ o)::qi T M nx ds n (i+1) os l (eR tm (x.pr o.dst (kV T M nx ds tm σ o)).d (x.pr o.dst (kV T M nx ds tm σ o)).v) (bG σ (x.pr o.dst (kV T M nx ds tm σ o)).δ)
  |false=>⟨o.dst,none,kV T M nx ds tm σ o,[],false⟩::qi T M nx ds n (i+1) os ((j,x)::l) (eR tm o.dst (kV T M nx ds tm σ o)) σ
/-- the conditions of operations under a guard -/
abbrev gA(g:Bool)(p:Prop):Prop:=(True/\True)/\(g=true->p)
abbrev gB(g:Bool)(p:Prop):Prop:=((g=true->g=true)/\True)/\(g=true->p)
abbrev gC(g:Bool)(p:Prop):Prop:=((g=true->g=true)/\(g=true->g=true)/\True)/\(g=true->p)
abbrev gD(g:Bool)(p:Prop):Prop:=((g=true->g=true)/\True/\True)/\(g=true->p)
def u0:List (Nat×PX)->Prop
 | []=>True
 | (_,.c p)::l=>p/\u0 l
 | (_,.i x)::l=>(-9223372036854775808<=x/\x<=9223372036854775807)/\u0 l
 | (_,.r r)::l=>match r.q with
  |none=>u0 l
  |some c=>c/\u0 l
theorem w9{T:List TI}{M:List Nat}{nx:Nat}{ds:List (Option Tmp)}:∀ {n i:Nat}{os:List Oper}{l:List (Nat×PX)}{tm:Nat->V}{σ:Nat->Option Ob},u0 l->om (qi T M nx ds n i os l tm σ)
 |0,_,_,_,_,_,_=>by simp only [qi];trivial
 |_+1,_,[],_,_,_,_=>by simp only [qi];trivial
 |n+1,i,o::os,[],tm,σ,h=>by simp only [qi,om];exact w9 h
 |n+1,i,o::os,(j,x)::l,tm,σ,h=>by
  simp only [qi];split
  ·cases x with
   |c p=>simp only [PX.pr,om];exact⟨h.1,w9 h.2⟩
   |i x=>simp only [PX.pr,om];exact⟨h.1,w9 h.2⟩
   |r r=>
    simp only [PX.pr,om];simp only [u0]at h;split at h;·rename_i e;rw [e];exact w9 h
    ·rename_i e;rw [e];exact⟨h.1,w9 h.2⟩
  ·simp only [om];exact w9 h
section
variable {P:Program}{N:Nat}{C:Cx P N}{T:List TI}{M:List Nat}{nx:Nat}{ops:Array Oper}{os:List Oper}{tm:Nat->V}{σ:Nat->Option Ob}{ks:List (List Nat×List Nat)}{K:(Nat->V)->(Nat->Option Ob)->List (List Nat×List Nat)->Prop}
theorem dU(hT:aK T P)(n:Nat)(l:List (Nat×PX))(hc:u0 l)
 (hk:bF C ops nx (os.drop n) (Et (qi T M nx (ops.toList.map (·.dst)) n 0 os l tm σ) tm) (uY (qi T M nx (ops.toList.map (·.dst)) n 0 os l tm σ) σ) (xY T M nx (ops.toList.map (·.dst)) os (qi T M nx (ops.toList.map (·.dst)) n 0 os l tm σ) tm σ ks) K)
 (hn:(qi T M nx (ops.toList.map (·.dst)) n 0 os l tm σ).length=n:=by kernel_rfl)
 (h:rT T M nx (ops.toList.map (·.dst)) os (qi T M nx (ops.toList.map (·.dst)) n 0 os l tm σ) tm σ=(qi T M nx (ops.toList.map (·.dst)) n 0 os l tm σ).map fun r=>some r.ex:=by kernel_rfl):bF C ops nx os tm σ ks K:=
 au hT _ hn h (w9 hc) hk
theorem aX(hT:aK T P)(n:Nat)(l:List (Nat×PX))(hc:u0 l)
 (hk:bF C ops nx (os.drop n) (Et (qi T [] nx (ops.toList.map (·.dst)) n 0 os l tm σ) tm) (uY (qi T [] nx (ops.toList.map (·.dst)) n 0 os l tm σ) σ) (xY T [] nx (ops.toList.map (·.dst)) os (qi T [] nx (ops.toList.map (·.dst)) n 0 os l tm σ) tm σ ks) K)
 (hn:(qi T [] nx (ops.toList.map (·.dst)) n 0 os l tm σ).length=n:=by kernel_rfl)
 (h:rT T [] nx (ops.toList.map (·.dst)) os (qi T [] nx (ops.toList.map (·.dst)) n 0 os l tm σ) tm σ=(qi T [] nx (ops.toList.map (·.dst)) n 0 os l tm σ).map fun r=>some r.ex:=by kernel_rfl):bF C ops nx os tm σ ks K:=
 au hT _ hn h (w9 hc) hk
variable {ty:TypeId}{pos:String}{af:Array Edge}
theorem eC{d:Nat}{fo:Operand}{ar:Array Operand}{ats:Array TypeId}{f:FuncId}{args:List V}{v:V}(hc:AC P f args v [])(hk:bF C ops nx os (bL tm d v) σ (ks++[([],[])]) K)
 (hf:ev tm fo= .fn (.func f) [] []:=by kernel_rfl) (hargs:[]++ar.toList.map (ev tm)++[]=args:=by kernel_rfl) (hidf:V.bA args=true:=by kernel_rfl) (hv:v.ck=true:=by kernel_rfl) (hd:decide (d< 1000)=true:=by kernel_rfl) :
 bF C ops nx (⟨some d,.call {callee:= .value fo,args:=ar,argTypes:=ats},ty,pos,af,none⟩::os) tm σ ks K:=oC hc hf hargs hidf hv hd hk
theorem eG(n:Nat){d:Nat}{gd':Nat×Bool}{g:Bool}{fo:Operand}{ar:Array Operand}{ats:Array TypeId}{f:FuncId}{args:List V}{v:V}(hc:g=true->AC P f args v [])
 (hk:bF C ops nx os (bL tm d (.gd g v)) σ (ks++[([],[])]) K)
 (hg:eP (ops.toList.map (·.dst)) tm ⟨some d,.call {callee:= .value fo,args:=ar,argTypes:=ats},ty,pos,af,some gd'⟩=some (some g):=by kernel_rfl)
 (hf:ug (ev tm fo)= .fn (.func f) [] []:=by kernel_rfl) (hargs:[]++ar.toList.map (fun x=>ug (ev tm x))++[]=args:=by kernel_rfl) (hidf:V.bA args=true:=by kernel_rfl) (hv:v.ck=true:=by kernel_rfl) (hd:decide (d< 1000)=true:=by kernel_rfl)
 (hu:Jd (opsV tm ⟨some d,.call {callee:= .value fo,args:=ar,argTypes:=ats},ty,pos,af,some gd'⟩)=List.replicate n g:=by kernel_rfl) :
 bF C ops nx (⟨some d,.call {callee:= .value fo,args:=ar,argTypes:=ats},ty,pos,af,some gd'⟩::os) tm σ ks K:=I1 n hg hc hf hargs hidf hv hd hu hk
variable {Q:Exit->S->Prop}{id:Nat}{ol:List Oper}
theorem wR(n':Nat)(h:bF C ol.toArray nx ol tm σ [] fun tm' σ' _=>Q .normal ⟨tm',σ',n'⟩)(hok:gM N ol=true:=by kernel_rfl)(hn:nx+1=n':=by kernel_rfl):AW C (.region id ol.toArray false) Q ⟨tm,σ,nx⟩:=ag hok hn h
theorem wD(n':Nat)(h:bF C ol.toArray nx ol tm σ [] fun tm' σ' ks=>jc ol ks=true/\Q .normal ⟨tm',σ',n'⟩)(hok:gM N ol=true:=by kernel_rfl)(hn:nx+1=n':=by kernel_rfl):AW C (.region id ol.toArray true) Q ⟨tm,σ,nx⟩:=bU hok hn h
theorem rP{T:List TI}{fn:Func}{v:V}{s:S}(v':V)(hres:qt T s fn.results.toList=some v':=by kernel_rfl)(hv:v'=v:=by kernel_rfl)(hi:v'.ck=true:=by kernel_rfl):gO T fn v [] .ret s:=bg (.inr rfl) hres hv hi
theorem QO{T:List TI}{fn:Func}{v:V}{s:S}(v':V)(hres:qt T s fn.results.toList=some v':=by kernel_rfl)(hv:v'=v:=by kernel_rfl)(hi:v'.ck=true:=by kernel_rfl):gO T fn v [] .normal s:=bg (.inl rfl) hres hv hi
end
theorem eT{T:List TI}{P:Program}(hT:aK T P)(hmx:P.follows .mixedOrders=true){f:FuncId}{fn:Func}{c:Code}{N:Nat}(hf:P.funcs[f]?=some fn)(hn:fn.ntmps=N){args:List V}{v:V}{obs:List Ob}
 (h:∀C:Cx P N,C.dfs=rD->C.F=Fence.wide->AW C c (gO T fn v obs) ⟨fun t=>args.getD t .any,fun _=>none,1⟩) (hb:fn.body=some c:=by rfl) (hname:(fn.name == "runtime.NumGoroutine")=false:=by kernel_rfl) (hargs:args.length<=N:=by simp):AC P f args v obs:=
 EM hT hmx ⟨hf,hb,hn,hname⟩ hargs h
section
variable {P:Program}{N:Nat}{C:Cx P N}{Q:Exit->S->Prop}{ops:Array Oper}{nx:Nat}{tm:Nat->V}{σ:Nat->Option Ob}{ks:List (List Nat×List Nat)}
theorem sK{x y:Code}{s:S}(h:∀K:S->Prop,(∀s',AW C y Q s'->K s')->AW C x (dS K Q) s):AW C (.seq x y) Q s:=qY h
theorem sX{T:List TI}(hT:aK T P)(n' m:Nat)(l:List (Nat×PX))(hc:u0 l){y:Code}{id:Nat}{ol:List Oper}(h:AW C y Q ⟨Et (qi T [] nx (ol.toArray.toList.map (·.dst)) m 0 ol l tm σ) tm,uY (qi T [] nx (ol.toArray.toList.map (·.dst)) m 0 ol l tm σ) σ,n'⟩)(hz:ol.drop m=[]:=by kernel_rfl)
 (hn:(qi T [] nx (ol.toArray.toList.map (·.dst)) m 0 ol l tm σ).length=m:=by kernel_rfl) (h2:rT T [] nx (ol.toArray.toList.map (·.dst)) ol (qi T [] nx (ol.toArray.toList.map (·.dst)) m 0 ol l tm σ) tm σ=(qi T [] nx (ol.toArray.toList.map (·.dst)) m 0 ol l tm σ).map fun r=>some r.ex:=by kernel_rfl)
 (hok:gM N ol=true:=by kernel_rfl) (hn':nx+1=n':=by kernel_rfl):AW C (.seq (.region id ol.toArray false) y) Q ⟨tm,σ,nx⟩:=
 qY fun K hK=>wR n' (aX hT m l hc (by rw [hz];exact aa (ai (Q:=Q) (hK _ h))) hn h2) hok hn'
theorem nK{p next:S->Prop}{n:Nat}(hK:∀s',p s'->next s')(h:p ⟨tm,σ,n⟩):bF C ops nx [] tm σ ks (fun a b _=>dS next Q .normal ⟨a,b,n⟩):=hK _ h
end
end Go.Ab
