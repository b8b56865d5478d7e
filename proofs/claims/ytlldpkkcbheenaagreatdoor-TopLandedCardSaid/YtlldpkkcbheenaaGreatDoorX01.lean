/-
  Several texts in one: A row that grew by one. No condition. .. A region that draws its order, in a round of a range over a function: all its operations but the last few only read. The head is walked once, in the order of the text. No condition.
-/
import Derived.LoopNIn
import Derived.Test.YtlldpkkcbheenaaGreatDoorX00
import Derived.Test.YtlldpkkcbheenaaGreatDoorMB
import Derived.Test.YtlldpkkcbheenaaGreatDoorMD
import Derived.Test.YtlldpkkcbheenaaGreatDoorMA
namespace Go.Ab
open Go.RowKit Go.Dw
theorem appRow_ok {k : Nat} {F G H : Nat → List V} {r : Nat → Nat} (h1 : ∀ i, i < k → F i = V.renL r (H i)) (h2 : G 0 = V.renL r (H k)) : ∀ i, i < k + 1 → appRow k F G i = V.renL r (H i) := by
 intro i hi
 by_cases h : i < k
 ·
  rw [appRow, if_pos h]; exact h1 i h
 ·
  obtain rfl : i = k := by omega
  rw [appRow, if_neg h, Nat.sub_self]; exact h2
theorem appRow_p {k : Nat} {f g : Nat → Int} {G : Nat → List V} {r : Nat → Nat} {n m : Int} (h2 : G 0 = [V.i n, V.i m]) (h : n = f k) (h' : m = g k) : ∀ i, i < k + 1 → appRow k (fun k => [V.i (f k), V.i (g k)]) G i = V.renL r ((fun k => [V.i (f k), V.i (g k)]) i) :=
 appRow_ok (fun _ _ => rfl) (by rw [h2, h, h']; rfl)
end Go.Ab

namespace Go.Ab
open Go.RowKit Go.Dw
def AWR {P : Program} {N : Nat} (C : Cx P N) (c : Code) (Q : Exit → S → Prop) : Nat → S → Prop
 | 0, _ => False
 | m + 1, s => AW C c (XThen (AWR C c Q m) Q) s
section
variable {P : Program} {N : Nat} {C : Cx P N} {Q : Exit → S → Prop} {s : S} {c : Code}
theorem aw_rounds (m : Nat) (h : AWR C c Q m s) : AW C (.loop c) Q s := by
 intro a w g
 refine wpIn_loop_rounds m ?_
 have key : ∀ m s a w0 w, Tch C.W w0 w → AWR C c Q m s → Gm C s a w → Code.roundsIn C.F 0 P c (fun e a' w' => ∃ s', Q e s' ∧ Gm C s' a' w' ∧ Tch C.W w0 w') m a w := by
  intro m
  induction m with
  | zero => intro s a w0 w _ h; exact h.elim
  | succ m ih =>
   intro s a w0 w t0 h g
   refine wpIn_mono (h a w g) ?_
   rintro e a' w' ⟨s', q, g', t⟩
   cases e with
   | normal => exact ih s' a' w0 w' (t0.trans t) q g'
   | _ => exact ⟨s', q, g', t0.trans t⟩
 exact key m s a w w (Tch.refl _ _) h g
end
end Go.Ab

namespace Go.Ab
open Go.RowKit Go.Dw
theorem RImp.aggs {us' us : List V} (h : A2 us' us) : RImp (.agg us') (.agg us) := by
 intro w L x hx
 obtain ⟨xs, rfl, hl⟩ := hx.agg_inv
 have hv := h.rv hl.rv
 exact .agg' ⟨hv.1, fun i u x hu hx => ⟨hv.2 i u x hu hx, hl.one x (List.mem_of_getElem? hx)⟩⟩
section
variable {P : Program} {N : Nat} {C : Cx P N} {ops : Array Oper} {nx : Nat} {o : Oper} {os : List Oper} {tm : Nat → V} {σ : Nat → Option Ob} {ks : List (List Nat × List Nat)} {K : (Nat → V) → (Nat → Option Ob) → List (List Nat × List Nat) → Prop}
theorem aops_gfb {t : Nat} (hg : guardV (ops.toList.map (·.dst)) tm o = some (some false)) (ht : o.dst = some t) (hk : AOps C ops nx os (upd tm t (.gd false (.b false))) σ (ks ++ [([], [])]) K) : AOps C ops nx (o :: os) tm σ ks K := by
 have hw := guardV_spec hg
 have e : updO tm o.dst (.gd false (.b false)) = upd tm t (.gd false (.b false)) := by rw [ht]; rfl
 refine ⟨⟨false, .gd false (.b false), [], [], []⟩, ⟨hw, by simp, fun _ => ⟨fun _ _ _ => .gd _ _ _ _ (fun e => by cases e) fun _ => rfl, rfl, rfl⟩⟩, ?_⟩
 rw [e]; exact hk
end
end Go.Ab

namespace Go.Ab
open Go.RowKit Go.Dw Go.Shelf
def ugT : V → Bool
 | .gd g _ => g
 | _ => true
theorem ugT_ok {v : V} (h : ugT v = true) : ugOk true v := by
 cases v <;> first | exact fun _ => h | trivial
structure YSG {P : Program} {N : Nat} {es : List (List V)} (C : Cx P N) (Y : YE P es) (ops : Array Oper) (nx : Nat) (os : List Oper) (fo : Operand) (ar : Array Operand) (d : Nat) (y : Oper) (Q : Exit → S → Nat → Bool → Prop) (k : Nat) (tm : Nat → V) (σ : Nat → Option Ob) : Prop where
 hg : wantedV ops tm y = some true
 hu : ((fo :: ar.toList).all fun x => ugT (ev tm x)) = true
 hf : ug (ev tm fo) = .c (.func (.yield Y.l) #[] #[])
 hv : ∃ v, es[k]? = some v ∧ A2 (ar.toList.map fun x => ug (ev tm x)) v
 idf : V.idfL (ar.toList.map fun x => ug (ev tm x)) = true
 t : AOps C ops nx os (upd tm d (.b true)) σ [] fun tm' σ' _ => Q .normal ⟨tm', σ', nx + 1⟩ (k + 1) true
 f : AOps C ops nx os (upd tm d (.b false)) σ [] fun tm' σ' _ => Q .normal ⟨tm', σ', nx + 1⟩ k false
theorem awj_yieldG {P : Program} {N : Nat} {es : List (List V)} {C : Cx P N} {Y : YE P es} {Q : Exit → S → Nat → Bool → Prop} (hC : YC C Y) {id nx k : Nat} {ol : List Oper} {tm : Nat → V} {σ : Nat → Option Ob} (n : Nat) {fo : Operand} {ar : Array Operand} {ats : Array TypeId} {d : Nat} {ty : TypeId} {pos : String} {af : Array Edge} {gd' : Nat × Bool}
  (hok : okReg N ol = true) (hy : ol[n]? = some ⟨some d, .call { callee := .value fo, args := ar, argTypes := ats }, ty, pos, af, some gd'⟩)
  (h : AOps C ol.toArray nx (ol.take n) tm σ [] fun tm1 σ1 _ => YSG C Y ol.toArray nx (ol.drop (n + 1)) fo ar d ⟨some d, .call { callee := .value fo, args := ar, argTypes := ats }, ty, pos, af, some gd'⟩ Q k tm1 σ1) : AWJ C Y (.region id ol.toArray false) Q ⟨tm, σ, nx⟩ k true := by
 intro a w ⟨L, ρ, g⟩ hj hb
 obtain ⟨h1, h2⟩ := okReg_spec hok
 obtain ⟨tr, tm1, σ1, h3, ys⟩ := h.run
 have hn : n < ol.length := (List.getElem?_eq_some_iff.1 hy).1
 obtain ⟨y, hyd⟩ : ∃ y : Oper, y = ⟨some d, .call { callee := .value fo, args := ar, argTypes := ats }, ty, pos, af, some gd'⟩ := ⟨_, rfl⟩
 have hsp : ol = ol.take n ++ y :: ol.drop (n + 1) := by
  rw [hyd]
  have e1 : ol.drop n = ol[n] :: ol.drop (n + 1) := List.drop_eq_getElem_cons hn
  have e2 : ol[n] = _ := (List.getElem?_eq_some_iff.1 hy).2
  rw [← e2, ← e1, List.take_append_drop]
 refine wpIn_region ?_
 have hsz : ol.toArray.size = (ol.take n).length + (y :: ol.drop (n + 1)).length := by
  simp; omega
 rw [List.range_eq_range', hsz]
 have hmem : ∀ o ∈ ol.take n ++ y :: ol.drop (n + 1), o ∈ ol := fun o ho => by rwa [← hsp] at ho
 refine run_pre (P := P) (W := C.W) (LB := C.LB) (ops := ol.toArray) (nx := nx) (N := N) (dfs := C.dfs) (.inl rfl) (by simpa using h1) (y :: ol.drop (n + 1)) (ol.take n) 0 tr tm tm1 σ σ1 a w w L ρ (freshA nx) (fun j => by rw [← hsp]; simp) h3 g (fun o ho t ht id h5 h6 h7 => h5) (fun id hid => freshA_succ hid) (by rw [← hsp]; exact h2) (Tch.refl _ _) ?_
 intro a1 W1 L1 ρ1 fr1 g1 q1 q2 t1
 rw [Nat.zero_add, List.length_take, Nat.min_eq_left (Nat.le_of_lt hn), List.length_cons, List.range'_succ, wpOpsIn_cons]
 have hj1 : Y.J k true W1 := Y.hJ _ _ _ _ hj (t1.belU hb fun j hj hW => (hC.W j hW).resolve_left oM)
 have hb1 : Y.B ≤ W1.heap.size := Nat.le_trans hb t1.size
 obtain ⟨v, hv, ha⟩ := ys.hv
 have hk : k < es.length := (List.getElem?_eq_some_iff.1 hv).1
 have hargs : RV W1 L1 ρ0 v (ar.map a1.eval).toList := by
  refine ha.rv (RV.free (ρ := ρ1) ⟨by simp, fun i u x hu hx => ?_⟩ ys.idf)
  simp only [List.getElem?_map, Option.map_eq_some_iff, Array.toList_map] at hu hx
  obtain ⟨p, hp, rfl⟩ := hu
  obtain ⟨q, hq, rfl⟩ := hx
  rw [hp] at hq
  injection hq with hq
  subst hq
  exact (g1.tm.eval g1.g.gl p).ug (ugT_ok (List.all_eq_true.1 ys.hu p (List.mem_cons_of_mem _ (List.mem_of_getElem? hp))))
 have hLl : ∀ b, L1 b → (Y.L0 b ∨ Y.U b) ∨ Y.B ≤ b := fun b hb => hC.LB b (g1.g.ll b hb).2
 obtain ⟨fn, tmps, assign, body, hyr, hR⟩ := Y.hY k (ar.map a1.eval) W1 hk ⟨v, hv, L1, fun b hbl => by
  rcases hLl b hbl with h | h
  ·
   exact .inl h
  ·
   exact .inr ⟨Nat.le_trans Y.hB h, (g1.g.ll b hbl).1, by have := Y.hl.2; omega⟩, hargs⟩ hb1 hj1
 have hfe : a1.eval fo = .func (.yield Y.l) #[] #[] := by
  have := (g1.tm.eval g1.g.gl fo).ug (ugT_ok (List.all_eq_true.1 ys.hu fo (List.mem_cons_self ..)))
  rw [ys.hf] at this
  exact this.c_inv
 have ho : ol.toArray[n]? = some y := by simp [hy, hyd]
 unfold wpOpIn
 rw [ho]
 simp only
 have hwt : Region.wanted y (yielded ol.toArray a1.tmps) = true := by rw [hyd]; exact wantedV_spec g1.tm ys.hg
 rw [if_pos hwt]
 refine ⟨fun f _ => trivial, ?_⟩
 have hrun : (y.semAt Fence.wide.round a1.eval).run P W1 = .ok (.round Y.l fn tmps assign body) W1 := by
  rw [Oper.semAt_eq _ _ _ (fun c e => by rw [hyd] at e; cases e), hyd]
  simp [execOp, resolve, Deferred.ofValue, invoke, hfe, hyr]
 rw [hrun, Oper.uponIn_round]
 refine ⟨fun e => by simp [Fence.wide] at e, hR.mono ?_⟩
 rintro e W2 ⟨b, rfl, ht2, j1, j2⟩
 have hyd2 : y.dst = some d := by rw [hyd]
 have hdN : d < N := h1 y (hmem y (by simp)) d hyd2
 have nL : ∀ j, L1 j → ¬ (Y.R0 j ∨ j = Y.l) := by
  rintro j hjl (h | rfl)
  ·
   have q := Y.hR j h
   rcases hLl j hjl with (h' | h') | h'
   ·
    exact q.2 h'
   ·
    exact (Y.hU j h').2.2 h
   ·
    have := Y.hB; omega
  ·
   rcases hLl _ hjl with (h' | h') | h'
   ·
    have := Y.hL _ h'; have := Y.hl.1; omega
   ·
    have := (Y.hU _ h').1; have := Y.hl.1; omega
   ·
    have := Y.hl.2; omega
 have nW : ∀ j, C.W j → ¬ (Y.R0 j ∨ j = Y.l) := by
  rintro j hjw (h | rfl)
  ·
   rcases hC.W j hjw with hw | hw
   ·
    have q := Y.hR j h; have := Y.hB; omega
   ·
    exact (Y.hU j hw).2.2 h
  ·
   rcases hC.W _ hjw with hw | hw
   ·
    have := Y.hl.2; omega
   ·
    have := (Y.hU _ hw).1; have := Y.hl.1; omega
 have ex : Ext W1 L1 ρ1 W2 L1 ρ1 := ⟨fun b hb => ⟨hb, ht2.block b (g1.g.ll b hb).1 (nL b hb)⟩, fun _ _ h => h⟩
 have gb : ∀ z : Bool, z = b → Gam C.W C.LB N C.dfs fr1 (upd tm1 d (.b z)) σ1 (a1.put y.dst (.bool b)) W2 L1 ρ1 := by
  rintro z rfl
  rw [hyd2]
  refine ⟨⟨fun b hb => ⟨Nat.lt_of_lt_of_le (g1.g.ll b hb).1 ht2.size, (g1.g.ll b hb).2⟩, fun b hb => g1.g.new b (Nat.le_trans ht2.size hb), fun id o ho => ?_, g1.g.sep, g1.g.glE ex⟩, g1.fr, (show TM (updO tm1 (some d) (V.b z)) _ _ _ _ from (g1.tm.ext ex).put (fun t ht => by injection ht with ht; rw [← ht, g1.size]; exact hdN) (.c _ _)), by simp [Act.put, g1.size], ?_, g1.pin⟩
  ·
   have hr1 := g1.g.ob id o ho
   obtain ⟨u, hu, hu2⟩ := hr1.lt
   refine hr1.keep ex fun x j hx hj => ?_
   rw [hx] at hu; injection hu with hu; subst hu
   exact ⟨ht2.block j (hu2 j hj).1 (nW j (hu2 j hj).2.1), (hu2 j hj).2.2⟩
  ·
   obtain ⟨Es, p1, p2, p3⟩ := g1.defers
   exact ⟨Es, p1, p2, fun D hD => ⟨(ht2.block D (Array.getElem?_eq_some_iff.1 (p3 D hD).1).1 (nW D (p3 D hD).2.1)).trans (p3 D hD).1, (p3 D hD).2⟩⟩
 have hb2 : Y.B ≤ W2.heap.size := Nat.le_trans hb1 ht2.size
 have hnd : ((ol.drop (n + 1)).filterMap (·.dst)).Nodup := by
  rw [hsp, List.filterMap_append, List.filterMap_cons, hyd2] at h2
  exact (List.nodup_cons.1 (List.nodup_append.1 h2).2.1).2
 have tail : ∀ (z : Bool) (k' : Nat), z = b → Y.J k' z W2 → AOps C ol.toArray nx (ol.drop (n + 1)) (upd tm1 d (.b z)) σ1 [] (fun tm' σ' _ => Q .normal ⟨tm', σ', nx + 1⟩ k' z) →
   wpOpsIn Fence.wide 0 P ol.toArray (fun e a' w' => ∃ s' k' g', Q e s' k' g' ∧ Gm C s' a' w' ∧ Y.J k' g' w' ∧ Y.B ≤ w'.heap.size) (List.range' (n + 1) (ol.drop (n + 1)).length) (a1.put y.dst (.bool b)) W2 := by
  intro z k' hz hj' hA
  obtain ⟨tr2, tm2, σ2, h4, hq⟩ := hA.run
  exact run_text (P := P) (W := C.W) (LB := C.LB) (ops := ol.toArray) (nx := nx) (N := N) (dfs := C.dfs) (.inl rfl) (by simpa using h1) (ol.drop (n + 1)) (n + 1) tr2 _ tm2 _ σ2 _ W2 W2 L1 ρ1 fr1 (fun j => by simp) h4 (gb z hz) (fun o ho => q1 o (by simp [ho])) q2 hnd (Tch.refl _ _) fun a' w' L' ρ' g' t' =>
   ⟨⟨tm2, σ2, nx + 1⟩, k', z, hq, ⟨L', ρ', g'⟩, Y.hJ _ _ _ _ hj' (t'.belU hb2 fun j hj hW => (hC.W j hW).resolve_left oM), Nat.le_trans hb2 t'.size⟩
 cases b with
 | true => exact tail true (k + 1) rfl (j1 rfl) ys.t
 | false => exact tail false k rfl (j2 rfl) ys.f
end Go.Ab

namespace Go.Ab
open Go.RowKit Go.Dw
theorem Real.ptr {W : Nat → Prop} {w : World} {L : Nat → Prop} {ρ : Nat → Option Value} {id t : Nat} {cs : List V} (h : Real W w L ρ id (.box t cs)) (hi : V.idfL cs = true) :
  ∃ v, ρ id = some v ∧ (∀ k, blk v = some k → k < w.heap.size ∧ W k ∧ ¬ L k) ∧ R w (fun b => L b ∨ blk v = some b) ρ (.ptr cs) v := by
 obtain ⟨v', hv', hlt⟩ := h.lt
 obtain ⟨b, xs, h1, h2, h3, h4, h5⟩ := h
 rw [h1] at hv'; injection hv' with hv'; subst hv'
 refine ⟨_, h1, hlt, ?_⟩
 refine .ptr _ _ _ _ (fun j => xs.toList.getD j undef) (.inr rfl) (fun j u hu => ?_) fun j u hu => ?_
 ·
  obtain ⟨y, hy, hr, hone⟩ := h5.get hu
  have hg : xs.toList.getD j undef = y := by simp [List.getD_eq_getElem?_getD, hy]
  rw [hg]
  refine ⟨?_, hone⟩
  rw [Nat.zero_add]
  rw [cell_of_row w b j xs t (0, 0) h4]
  simpa using hy
 ·
  obtain ⟨y, hy, hr, hone⟩ := h5.get hu
  have hg : xs.toList.getD j undef = y := by simp [List.getD_eq_getElem?_getD, hy]
  rw [hg]
  exact (hr.free (V.idfL_get hi hu) ρ0).ext ⟨fun b hb => ⟨.inl hb, rfl⟩, fun _ _ h => h⟩
def V.flatT : V → Bool
 | .tup cs => V.flatL cs
 | v => v.flat
theorem R.flatT {w w' : World} {L L' : Nat → Prop} {ρ ρ' : Nat → Option Value} {u : V} {x : Value} (h : R w L ρ u x) (hf : u.flatT = true) : R w' L' ρ' u x := by
 cases u with
 | tup cs =>
  obtain ⟨xs, rfl, hx⟩ := h.tup_inv
  exact .tup' ⟨hx.1, fun i v y hv hy => (hx.2 i v y hv hy).flat (V.flatL_get hf hv)⟩
 | _ => exact h.flat hf
theorem AC.box {P : Program} {f : FuncId} {args args' : List V} {v : V} (h : AC P f args' v []) (t : TypeId) {cs : List V} (ha : V.fzL 500 (.ptr cs) args = args') (hi : V.idfL args' = true) (hi2 : V.idfL cs = true) (hv : v.flatT = true) :
  AM P f args [.box t cs] v [some (.box t cs)] [] := by
 refine ⟨h.1, fun W LB L w ρ vs hwl hWL hG hρ hvs => ?_⟩
 have hσ : insF [.box t cs] 500 = some (.box t cs) := rfl
 obtain ⟨v0, hv0, hlt, hs⟩ := (hG.ob 500 _ hσ).ptr hi2
 have ex : Ext w L ρ w (fun b => L b ∨ blk v0 = some b) ρ := ⟨fun b hb => ⟨.inl hb, rfl⟩, fun _ _ h => h⟩
 have hrv : RV w (fun b => L b ∨ blk v0 = some b) ρ0 args' vs.toList := by
  refine RV.free (ρ := ρ) ?_ hi
  rw [← ha]
  refine ⟨by rw [V.fzL_len]; exact hvs.1, fun i u x hu hx => ?_⟩
  rw [V.fzL_get] at hu
  cases hc : args[i]? with
  | none => rw [hc] at hu; cases hu
  | some a =>
   rw [hc] at hu
   simp only [Option.map_some, Option.some.injEq] at hu
   subst hu
   refine R_fz (fun y hy => ?_) _ _ ((hvs.2 i a x hc hx).ext ex)
   rw [hv0] at hy; injection hy with hy; subst hy; exact hs
 refine (h.2 (fun b => L b ∨ blk v0 = some b) w vs (fun b hb => ?_) (hG.glE ex) hrv).mono ?_
 ·
  rcases hb with hb | hb
  ·
   exact (hG.ll b hb).1
  ·
   exact (hlt b hb).1
 rintro ee w' ⟨x, rfl, hbel, L', ρ', hG', hL', hx, hnn⟩
 obtain ⟨hG2, ex2⟩ := hG.quiet hbel (L' := L) (fun _ h => h) (fun _ h => .inl h)
 have e : outF [some (.box t cs)] [] = insF [.box t cs] := by
  funext id
  unfold outF insF
  by_cases h5 : 500 ≤ id
  ·
   rw [if_pos h5, if_pos h5]
   cases hk : id - 500 with
   | zero => rfl
   | succ n => simp
  ·
   rw [if_neg h5, if_neg h5]; simp
 refine ⟨x, rfl, Tch.of_below hbel fun k _ hk => (hG.new k hk).1, L, ρ, ?_, ex2, hx.flatT hv, fun j _ hj => hρ j hj⟩
 rw [e]; exact hG2
end Go.Ab

namespace Go.Ab
open Go.RowKit Go.Dw
def Ob.isC : Ob → Prop
 | .row _ _ n r => ∀ i, i < n → ∀ u ∈ r i, u.isC = true
 | _ => False
section
variable {P : Program} {N : Nat} {C : Cx P N} {ops : Array Oper} {nx : Nat} {os : List Oper} {tm : Nat → V} {σ : Nat → Option Ob} {ks : List (List Nat × List Nat)} {K : (Nat → V) → (Nat → Option Ob) → List (List Nat × List Nat) → Prop} {ty : TypeId} {pos : String} {af : Array Edge}
end
end Go.Ab

namespace Go.Ab
open Go.RowKit Go.Dw
theorem AC.shut1 {P : Program} {f : FuncId} {args : List V} {v v' : V} {e : TypeId} {sz n n' : Nat} {row row' : Nat → List V} (h : AC P f args v [.row e sz n row]) (hn : n = n') (hr : ∀ i, i < n → row i = row' i) (hi : ∀ i, V.idfL (row' i) = true) (hv : V.fz 0 (.sl sz n' row') v = v') (hidf : v'.idf = true) : AC P f args v' [] := by
 subst hn
 refine ⟨h.1, fun L w vs hL hgl hvs => (h.2 L w vs hL hgl hvs).mono ?_⟩
 rintro ee w' ⟨x, rfl, hb, L', ρ', hG, hL', hx, hnn⟩
 have hre : Real (fun b => w.heap.size ≤ b) w' L' ρ' 0 (.row e sz n row') := (hG.ob 0 _ rfl).eq ⟨rfl, rfl, rfl, hr⟩
 obtain ⟨v0, hv0, hlt, hs⟩ := hre.slice fun i _ => hi i
 have ex : Ext w' L' ρ' w' (fun b => L' b ∨ blk v0 = some b) ρ' := ⟨fun b hb => ⟨.inl hb, rfl⟩, fun _ _ h => h⟩
 refine ⟨x, rfl, hb, fun b => L' b ∨ blk v0 = some b, ρ0, ⟨fun b hbl => ?_, hG.new, (fun id o ho => by cases ho), fun i j y z k _ hi => absurd rfl hi, hG.glE ex⟩, fun b hbl => .inl (hL' b hbl), ?_, fun _ _ => rfl⟩
 ·
  rcases hbl with h1 | h1
  ·
   exact hG.ll b h1
  ·
   exact ⟨(hlt b h1).1, .inr (hlt b h1).2.1⟩
 ·
  subst hv
  refine (R_fz (fun y hy => ?_) v x (hx.ext ex)).free hidf ρ0
  rw [hv0] at hy; injection hy with hy; subst hy; exact hs
end Go.Ab

namespace Go.Dw
open Go.RowKit Go.Shelf
def wideR (r : Option Nat) : Fence := { Fence.wide with round := r }
section
variable {P : Program} {ops : Array Oper} {md : Region.Mode} {w : World} {r : Option Nat} {m : Nat}
theorem uponIn_of_still {o : Oper} {a : Act} {K : Act → Prop} {K' : Act → World → Prop} {Q' : Exit → Act → World → Prop} (h : ∀ a, K a → K' a w) (hh : o.still P a w K) : o.wpIn (wideR r) m P a w K' Q' := by
 refine ⟨fun _ _ => trivial, ?_⟩
 have hs : o.semAt (wideR r).round a.eval = execOp a.eval o ∨ ∃ c, o.op = .defer c := by
  cases r with
  | none => exact .inl rfl
  | some l =>
   by_cases hd : ∃ c, o.op = .defer c
   ·
    exact .inr hd
   ·
    exact .inl (Oper.semAt_some l a.eval o (fun c e => hd ⟨c, e⟩))
 unfold Oper.still at hh
 rcases hs with hs | ⟨c, hc⟩
 ·
  rw [hs]
  generalize (execOp a.eval o).run P w = x at *
  cases x with
  | ok n w' =>
   cases n <;> simp only [Oper.stillUpon] at hh <;> simp only [Oper.uponIn]
   case enter f args =>
    obtain ⟨rfl, v, hc, hn⟩ := hh
    refine ⟨fun h => by simp [wideR, Fence.wide] at h, ?_⟩
    show CallsIn Fence.wide (m - 1) P f args w' _
    exact callsIn_wide.2 (hc.mono fun e w'' ⟨he, hw⟩ => by subst he; subst hw; exact h _ hn)
   all_goals (obtain ⟨rfl, h2⟩ := hh; exact h _ h2)
  | halt x w' => simp only [Oper.stillUpon] at hh
 ·
  exfalso
  unfold execOp at hh
  rw [hc] at hh
  simp only [Sem.run_bind] at hh
  generalize (resolve a.eval c o.type).run P w = x at hh
  cases x with
  | ok d w' => simp [Result.andThen, Oper.stillUpon] at hh
  | halt x w' => simp [Result.andThen, Oper.stillUpon] at hh
theorem wpOpIn_of_stOp {i : Nat} {a : Act} {K : Act → Prop} {K' : Act → World → Prop} {Q' : Exit → Act → World → Prop} (h : ∀ a, K a → K' a w) (hh : stOp P ops w i K a) : wpOpIn (wideR r) m P ops Q' i K' a w := by
 unfold stOp at hh
 unfold wpOpIn
 split
 ·
  rename_i ho; simp only [ho] at hh; exact h _ hh
 ·
  rename_i o ho
  simp only [ho] at hh
  split
  ·
   rename_i hw; simp only [hw, if_true] at hh; exact uponIn_of_still h hh
  ·
   rename_i hw; simp only [hw] at hh; exact ⟨fun _ _ => trivial, h _ hh⟩
theorem wpAnyIn_of_head {n g : Nat} {L : Array Bool → Act → Prop} {Q' : Exit → Act → World → Prop} (hL : ∀ listed a, L listed a → wpAnyIn (wideR r) m P md ops Q' g listed a w) :
  ∀ (f : Nat) (listed : Array Bool) (a : Act), wpAnyL P md ops w n L f listed a → wpAnyIn (wideR r) m P md ops Q' (f + g) listed a w
 | 0, listed, a, h => by rw [Nat.zero_add]; exact hL _ _ h
 | f + 1, listed, a, h => by
  rw [show f + 1 + g = (f + g) + 1 by omega]
  exact ⟨fun h0 => absurd h0 h.1, fun i hi => wpOpIn_of_stOp (fun a' h' => wpAnyIn_of_head hL f _ a' h') (h.2 i hi).2⟩
theorem wpAnyIn_of_seq {Q' : Exit → Act → World → Prop} : ∀ (l : List Oper) (k : Nat) (listed : Array Bool) (a : Act) (w : World), (∀ j, l[j]? = ops[k + j]?) →
  Region.seqB md ops l.length k listed = true → wpListIn (wideR r) m P ops Q' l a w → wpAnyIn (wideR r) m P md ops Q' l.length listed a w
 | [], _, _, _, _, _, hB, h => ⟨by simpa [Region.seqB] using hB, h⟩
 | o :: l, k, listed, a, w, hl, hB, h => by
  have h0 : ops[k]? = some o := by simpa using (hl 0).symm
  simp only [List.length_cons, Region.seqB, Bool.and_eq_true, decide_eq_true_eq] at hB
  refine ⟨fun h1 => (by rw [hB.1] at h1; cases h1), fun i hi => ?_⟩
  rw [hB.1] at hi
  have hik : i = k := by simpa using hi
  subst hik
  have hw : wpOpIn (wideR r) m P ops Q' i (wpListIn (wideR r) m P ops Q' l) a w := by unfold wpOpIn; simp only [h0]; exact h
  exact wpOpIn_mono (fun a' w' h' => wpAnyIn_of_seq l (i + 1) _ a' w' (fun j => by have := hl (j + 1); simpa [Nat.add_assoc, Nat.add_comm 1 j] using this) hB.2 h') hw
theorem wpIn_region_still_tailR {id : Nat} {Q : Exit → Act → World → Prop} {a : Act} {w : World} {l : List Oper} (n : Nat) (hm : P.follows .mixedOrders = true) (hB : Region.lexTailB .any l.toArray n = true)
  (h : wpStill P l.toArray w.drew (fun a' => wpListIn (wideR r) m P l.toArray Q (l.drop n) a' w.drew) (l.take n) a) : (Code.region id l.toArray true).wpIn (wideR r) m P Q a w := by
 simp only [Region.lexTailB, Bool.and_eq_true, decide_eq_true_eq] at hB
 obtain ⟨⟨⟨⟨hsel, hn⟩, hs⟩, hc⟩, hlex⟩ := hB
 have hn' : n < l.length := by simpa using hn
 have htl : (l.take n).length = n := by simp; omega
 have hdl : (l.drop n).length = l.toArray.size - n := by simp
 have inv0 : HeadInv .any l.toArray n (Array.replicate l.toArray.size false) :=
  ⟨by simp, fun j oj _ hl => (by rw [getD_replicate_false] at hl; cases hl), fun t _ ht => getD_in (by simpa using ht) (getD_replicate_false _ _)⟩
 have H := wpAnyL_lex (md := .any) (g := l.toArray.size - n) hsel hs hc hn (l.take n) 0 _ a (fun j hj => by
  have hj' : j < n := by rw [htl] at hj; exact hj
  simp [hj']) (by simpa using htl) inv0 (by rw [htl]; exact hlex) h
 refine wpIn_region_any hm ?_
 have := wpAnyIn_of_head (r := r) (m := m) (Q' := Q) (g := l.toArray.size - n) (fun listed a' hL => by
  have := wpAnyIn_of_seq (r := r) (m := m) (md := .any) (Q' := Q) (l.drop n) n listed a' w.drew (fun j => by simp [List.getElem?_drop]) (by rw [hdl]; exact hL.1) hL.2
  rwa [hdl] at this) _ _ _ H
 rw [htl, show n + (l.toArray.size - n) = l.toArray.size by omega] at this
 exact this
theorem wpIn_round_still_tail {id lp : Nat} {Q : Exit → Act → World → Prop} {a : Act} {w : World} {l : List Oper} (n : Nat) (hm : P.follows .mixedOrders = true) (hB : Region.lexTailB .any l.toArray n = true)
  (h : wpStill P l.toArray w.drew (fun a' => wpListIn (Fence.wide.inRound lp) m P l.toArray Q (l.drop n) a' w.drew) (l.take n) a) : (Code.region id l.toArray true).wpIn (Fence.wide.inRound lp) m P Q a w :=
 wpIn_region_still_tailR (r := some lp) n hm hB h
end
end Go.Dw
