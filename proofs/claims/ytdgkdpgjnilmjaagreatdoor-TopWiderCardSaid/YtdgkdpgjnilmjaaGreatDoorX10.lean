/-
  Several texts in one: The seconds of a growth at a shop with one lacquer and one bath. Conditions: told in each theorem. .. Plain laws of reading and sweeping: the two walks of a tip are an adjunction. No program in sight. No condition.
-/
import Derived.Test.YtdgkdpgjnilmjaaGreatDoorX09
import Derived.Test.YtdgkdpgjnilmjaaGreatDoorX03
import Derived.Test.YtdgkdpgjnilmjaaGreatDoorMC
import Derived.Test.YtdgkdpgjnilmjaaGreatDoorMD
import Derived.Test.YtdgkdpgjnilmjaaGreatDoorX04
import Derived.Test.YtdgkdpgjnilmjaaGreatDoorX05
set_option maxRecDepth 100000
namespace Go.Proofs.YtdgkdpgjnilmjaaGreatDoor
open Go.Ab Go.RowKit Go.Dw Go.Shelf
theorem A2.Gt:∀ {l l':List V},A2 l' l->l'.length=l.length
 | [],[],_=>rfl
 |_::_,_::_,h=>by simp [A2.Gt h.2]
theorem A2.EV:∀ {l l':List V}(_:A2 l' l){j:Nat}{u:V},l[j]?=some u->∃u',l'[j]?=some u'/\bL u' u
 |u::_,u'::_,h,0,v,hv=>⟨u',rfl,by simp at hv;subst hv;exact h.1⟩
 |_::_,_::_,h,j+1,v,hv=>by simpa using A2.EV h.2 (j:=j) (by simpa using hv)
theorem A2.app:∀ {l l' m m':List V},A2 l' l->A2 m' m->A2 (l'++m') (l++m)
 | [],[],_,_,_,h=>h
 |_::_,_::_,_,_,a,h=>⟨a.1,A2.app a.2 h⟩
theorem A2.Bu:∀l:List V,A2 l l
 | []=>trivial
 |u::l=>⟨bL.refl u,A2.Bu l⟩
theorem bL.GL{sz n:Nat}{row row':Nat->List V}(he:∀i,i< n->A2 (row i) (row' i)):bL (.sl sz n row) (.sl sz n row'):=by intro w L x h;obtain⟨A,c,rfl,h'⟩:=h.fO;refine .BG h.oK fun hn=> ?_;obtain⟨b,o,hA,hb,hlen,hc⟩:=h' hn;refine⟨b,o,hA,hb,fun i hi=>by rw [<-A2.Gt (he i hi)];exact hlen i hi,fun i j u hi hu=> ?_⟩;obtain⟨u',hu',hr⟩:=A2.EV (he i hi) hu;obtain⟨y,h1,h2,h3⟩:=hc i j u' hi hu';exact⟨y,h1,h2,hr _ _ _ h3⟩
theorem bL.GB{us' us:List V}(h:A2 us' us):bL (.ptr us') (.ptr us):=by intro w L x hx;obtain⟨b,o,rfl,hb,hr⟩:=hx.eD;refine .ptr' hb fun j u hu=> ?_;obtain⟨u',hu',hi⟩:=A2.EV h hu;obtain⟨y,h1,h2,h3⟩:=hr j u' hu';exact⟨y,h1,h2,hi w L y h3⟩
theorem bL.any(u:V):bL u .any:=fun _ _ _ _=> .any _ _
theorem bL.HT{u' u v:V}{b:Bool}(hb:b=true)(h:bL u' u):bL u' (.alt b u v):=fun w L x hx=> .alt _ _ _ _ _ (fun _=>h w L x hx) fun h=>by rw [hb]at h;cases h
theorem CP{S:Sh}(h1:S.n=1):bL (Gg S) (jS S.r 1 (aK 0 (.ptr ((S.pl 0).c++[.any])) fun _=> .bool false) S.m S.tk .any .any):=by
 unfold Gg jS cS;rw [h1];refine bL.GB (A2.app (A2.Bu (.b true::S.r.c)) ⟨bL.GL fun i hi=> ?_,bL.refl _,bL.any _,bL.any _,trivial⟩);obtain rfl:i=0:=by omega
 exact⟨bL.HT (decide_eq_true rfl) (bL.GB (A2.app (A2.Bu _) ⟨bL.any _,trivial⟩)),trivial⟩
theorem Du(S:Sh)(hS:S.ok)(h1:S.n=1)(hm:S.m=1)(hk:(S.pl 0).kind=0)(a:Act)(ha:a.wE)(h3:a.kind=3)(hp:a.plate=0)(hb:a.bath=0) : AC Tryz.prog 9 [Gg S,a.v] (.tup [.i (d6 S.r 1 (S.pl 0) (S.tk 0) a).1,.i (d6 S.r 1 (S.pl 0) (S.tk 0) a).2]) []:=by have A:=uC S.r hS.r 1 (fun _=> .bool false) (S.pl 0) (hS.pl 0 oM) hk S.m S.tk a ha h3 0 (by rw [hp];rfl) oM (by decide) (by rw [hb,hm];decide) oM (by rw [hb];exact(hS.tk 0 oM).1);rw [hb]at A;exact A.conv ⟨CP h1,bL.refl _,trivial⟩
def Ap:List Nat:=[101,86,71,102,87,72,97,93,112,114,999999,999999,999999,999999,999999,999999,999999,999999,999999,999999,999999,999999,999999,999999]
def Ge:ML:=[(69,[21]),(94,[8]),(75,[24])]
def wC(sz n:Nat)(cs:List V):V:= .sl sz n fun i=>(cs.drop (i*sz)).take sz
def pg(l:List Int):V:=wC 1 l.length (l.map V.i)
def Gd:List (Int×Int)->List V
 | []=>[]
 |x::l=> .i x.1:: .i x.2::Gd l
def yo(l:List (Int×Int)):V:=wC 2 l.length (Gd l)
def CJ(l:List Int):V:= .sl 1 l.length (rowOf (l.map fun x=>[.i x]))
def ym(l:List (Int×Int)):V:= .sl 2 l.length (rowOf (l.map fun x=>[.i x.1,.i x.2]))
theorem Ao(l:List (List V))(h:l.all V.aZ=true)(i:Nat):V.aZ (rowOf l i)=true:=fm h i
def sZ:V:= .agg [.i 400,.i 2000,.i 200,.i 2000,.i 1000,.i 1000,.i 100]
def CI:List (Int×Int):=[(-400,400),(-200,600),(-400,400)]
theorem CK:AM Tryz.prog 48 [sZ,yo [(0,0),(100,100),(0,0)]] [] (.tup [.own 0,.i 0]) [] [.row 54 2 3 (rowOf [[.i (-400),.i 400],[.i (-200),.i 600],[.i (-400),.i 400]])]:=qS az d9 Ge Ap kR kR
theorem EN:AC Tryz.prog 48 [sZ,yo [(0,0),(100,100),(0,0)]] (.tup [ym CI,.i 0]) []:=AC.BE (CK.ac (by decide)) rfl (fun _ _=>rfl) (Ao _ rfl) rfl rfl
theorem Ia:AC Tryz.prog 49 [sZ,ym CI,.i 1000] (.tup [.i 31831,.i 0]) []:=AM.ac (qS az d9 Ge Ap kR kR) (by decide)
theorem EM:AM Tryz.prog 50 [.agg [pg [64],pg [128],.i 256],pg [100,0,0, -3]] [] (.tup [.own 0,.i 0]) [] [.row 2 1 4 (rowOf [[.i 100],[.i 75],[.i 37],[.i 15]])]:=qS az d9 Ge Ap kR kR
theorem Gf:AC Tryz.prog 50 [.agg [pg [64],pg [128],.i 256],pg [100,0,0, -3]] (.tup [CJ [100,75,37,15],.i 0]) []:=AC.BE (EM.ac (by decide)) rfl (fun _ _=>rfl) (Ao _ rfl) rfl rfl
def H8:ByteArray:=⟨#[97]⟩
def D3:V:=wC 2 1 [.c (.string H8),yo [(10, -10),(5,0)]]
def D2:V:=wC 7 1 [.i 0,.i 0,.i 2,.i 0,.i 0,.i 0,.i 500]
theorem EO:AC Tryz.prog 51 [D3,D2] (.tup [ym [(5, -5),(2,0)],.i 0]) []:=AM.ac (qS az d9 Ge Ap kR kR) (by decide)
def H9:ByteArray:=⟨#[102]⟩
def DZ(l:List Int):V:= .agg (.c (.string H9)::l.map V.i)
theorem CL:AC Tryz.prog 33 [DZ [1000,400,10,0,0,0,0],.agg [.i 95,.i 20,.i 0]] (.tup [.i 200,.i 0]) []:=AM.ac (qS az d9 Ge Ap kR kR) (by decide)
def I9:List (FuncId×List V×V):=[(48,[sZ,yo [(0,0),(100,100),(0,0)]],.tup [ym CI,.i 0]),(49,[sZ,ym CI,.i 1000],.tup [.i 31831,.i 0]),(50,[.agg [pg [64],pg [128],.i 256],pg [100,0,0, -3]],.tup [CJ [100,75,37,15],.i 0]),(51,[D3,D2],.tup [ym [(5, -5),(2,0)],.i 0])]
theorem Hj:j3 Tryz.prog I9:=cR EN rfl rfl (cR Ia rfl rfl (cR Gf rfl rfl (cR EO rfl rfl oo)))
theorem vX:AC Tryz.prog 34 [] (.b true) []:=AM.ac (Cw (O:=Bk I9) az d9 [] [] (fun _=>rD Hj) kR kR) (by decide)
def I3(a b:List Pt)(k:Nat):Prop:=(gp a k).2<=(gp b k).2/\(gp b k).1<=(gp a k).1
def zi(a b:List Pt):Prop:=a.length=b.length/\∀k,k< a.length->I3 a b k
instance (a b:List Pt):Decidable (zi a b):=by unfold zi I3;infer_instance
def Hw(a b:List Int):Prop:=a.length=b.length/\∀k,k< a.length->gi a k<=gi b k
theorem Hw.trans{a b c:List Int}(h:Hw a b)(k:Hw b c):Hw a c:=⟨h.1.trans k.1,fun i hi=>Int.le_trans (h.2 i hi) (k.2 i (by rw [<-h.1];exact hi))⟩
end Go.Proofs.YtdgkdpgjnilmjaaGreatDoor
