/-
  Several texts in one: A row that grew by one. No condition. .. Curves: what a curve makes of a signal, in plain terms. Conditions: told in each theorem.
-/
import Derived.LoopNIn
import Derived.Test.YtplnhbenmgclfaaGreatDoorX00
import Derived.Test.YtplnhbenmgclfaaGreatDoorMB
import Derived.Test.YtplnhbenmgclfaaGreatDoorMD
namespace Go.Ab
open Go.RowKit Go.Dw
theorem appRow_ok {k : Nat} {F G H : Nat → List V} {r : Nat → Nat} (h1 : ∀ i, i < k → F i = V.renL r (H i)) (h2 : G 0 = V.renL r (H k)) : ∀ i, i < k + 1 → appRow k F G i = V.renL r (H i) := by
 intro i hi
 by_cases h : i < k
 ·
  rw [appRow, if_pos h]; exact h1 i h
 ·
  obtain rfl : i = k := by omega
  rw [appRow, if_neg h, Nat.sub_self]; exact h2
theorem appRow_p {k : Nat} {f g : Nat → Int} {G : Nat → List V} {r : Nat → Nat} {n m : Int} (h2 : G 0 = [V.i n, V.i m]) (h : n = f k) (h' : m = g k) : ∀ i, i < k + 1 → appRow k (fun k => [V.i (f k), V.i (g k)]) G i = V.renL r ((fun k => [V.i (f k), V.i (g k)]) i) :=
 appRow_ok (fun _ _ => rfl) (by rw [h2, h, h']; rfl)
end Go.Ab

namespace Go.Ab
open Go.RowKit Go.Dw
def AWR {P : Program} {N : Nat} (C : Cx P N) (c : Code) (Q : Exit → S → Prop) : Nat → S → Prop
 | 0, _ => False
 | m + 1, s => AW C c (XThen (AWR C c Q m) Q) s
section
variable {P : Program} {N : Nat} {C : Cx P N} {Q : Exit → S → Prop} {s : S} {c : Code}
theorem awr_succ {m : Nat} (h : ∀ K : S → Prop, (∀ s', AWR C c Q m s' → K s') → AW C c (XThen K Q) s) : AWR C c Q (m + 1) s := h _ fun _ h => h
theorem aw_rounds (m : Nat) (h : AWR C c Q m s) : AW C (.loop c) Q s := by
 intro a w g
 refine wpIn_loop_rounds m ?_
 have key : ∀ m s a w0 w, Tch C.W w0 w → AWR C c Q m s → Gm C s a w → Code.roundsIn C.F 0 P c (fun e a' w' => ∃ s', Q e s' ∧ Gm C s' a' w' ∧ Tch C.W w0 w') m a w := by
  intro m
  induction m with
  | zero => intro s a w0 w _ h; exact h.elim
  | succ m ih =>
   intro s a w0 w t0 h g
   refine wpIn_mono (h a w g) ?_
   rintro e a' w' ⟨s', q, g', t⟩
   cases e with
   | normal => exact ih s' a' w0 w' (t0.trans t) q g'
   | _ => exact ⟨s', q, g', t0.trans t⟩
 exact key m s a w w (Tch.refl _ _) h g
end
end Go.Ab

namespace Go.Ab
open Go.RowKit Go.Dw
section
variable {P : Program} {N : Nat} {C : Cx P N} {ops : Array Oper} {nx : Nat} {o : Oper} {os : List Oper} {tm : Nat → V} {σ : Nat → Option Ob} {ks : List (List Nat × List Nat)} {K : (Nat → V) → (Nat → Option Ob) → List (List Nat × List Nat) → Prop}
theorem aops_gfb {t : Nat} (hg : guardV (ops.toList.map (·.dst)) tm o = some (some false)) (ht : o.dst = some t) (hk : AOps C ops nx os (upd tm t (.gd false (.b false))) σ (ks ++ [([], [])]) K) : AOps C ops nx (o :: os) tm σ ks K := by
 have hw := guardV_spec hg
 have e : updO tm o.dst (.gd false (.b false)) = upd tm t (.gd false (.b false)) := by rw [ht]; rfl
 refine ⟨⟨false, .gd false (.b false), [], [], []⟩, ⟨hw, by simp, fun _ => ⟨fun _ _ _ => .gd _ _ _ _ (fun e => by cases e) fun _ => rfl, rfl, rfl⟩⟩, ?_⟩
 rw [e]; exact hk
end
end Go.Ab

namespace Go.Ab
open Go.RowKit Go.Dw Go.Shelf
def ugT : V → Bool
 | .gd g _ => g
 | _ => true
theorem ugT_ok {v : V} (h : ugT v = true) : ugOk true v := by
 cases v <;> first | exact fun _ => h | trivial
structure YSG {P : Program} {N : Nat} {es : List (List V)} (C : Cx P N) (Y : YE P es) (ops : Array Oper) (nx : Nat) (os : List Oper) (fo : Operand) (ar : Array Operand) (d : Nat) (y : Oper) (Q : Exit → S → Nat → Bool → Prop) (k : Nat) (tm : Nat → V) (σ : Nat → Option Ob) : Prop where
 hg : wantedV ops tm y = some true
 hu : ((fo :: ar.toList).all fun x => ugT (ev tm x)) = true
 hf : ug (ev tm fo) = .c (.func (.yield Y.l) #[] #[])
 hv : ∃ v, es[k]? = some v ∧ A2 (ar.toList.map fun x => ug (ev tm x)) v
 idf : V.idfL (ar.toList.map fun x => ug (ev tm x)) = true
 t : AOps C ops nx os (upd tm d (.b true)) σ [] fun tm' σ' _ => Q .normal ⟨tm', σ', nx + 1⟩ (k + 1) true
 f : AOps C ops nx os (upd tm d (.b false)) σ [] fun tm' σ' _ => Q .normal ⟨tm', σ', nx + 1⟩ k false
theorem awj_yieldG {P : Program} {N : Nat} {es : List (List V)} {C : Cx P N} {Y : YE P es} {Q : Exit → S → Nat → Bool → Prop} (hC : YC C Y) {id nx k : Nat} {ol : List Oper} {tm : Nat → V} {σ : Nat → Option Ob} (n : Nat) {fo : Operand} {ar : Array Operand} {ats : Array TypeId} {d : Nat} {ty : TypeId} {pos : String} {af : Array Edge} {gd' : Nat × Bool}
  (hok : okReg N ol = true) (hy : ol[n]? = some ⟨some d, .call { callee := .value fo, args := ar, argTypes := ats }, ty, pos, af, some gd'⟩)
  (h : AOps C ol.toArray nx (ol.take n) tm σ [] fun tm1 σ1 _ => YSG C Y ol.toArray nx (ol.drop (n + 1)) fo ar d ⟨some d, .call { callee := .value fo, args := ar, argTypes := ats }, ty, pos, af, some gd'⟩ Q k tm1 σ1) : AWJ C Y (.region id ol.toArray false) Q ⟨tm, σ, nx⟩ k true := by
 intro a w ⟨L, ρ, g⟩ hj hb
 obtain ⟨h1, h2⟩ := okReg_spec hok
 obtain ⟨tr, tm1, σ1, h3, ys⟩ := h.run
 have hn : n < ol.length := (List.getElem?_eq_some_iff.1 hy).1
 obtain ⟨y, hyd⟩ : ∃ y : Oper, y = ⟨some d, .call { callee := .value fo, args := ar, argTypes := ats }, ty, pos, af, some gd'⟩ := ⟨_, rfl⟩
 have hsp : ol = ol.take n ++ y :: ol.drop (n + 1) := by
  rw [hyd]
  have e1 : ol.drop n = ol[n] :: ol.drop (n + 1) := List.drop_eq_getElem_cons hn
  have e2 : ol[n] = _ := (List.getElem?_eq_some_iff.1 hy).2
  rw [← e2, ← e1, List.take_append_drop]
 refine wpIn_region ?_
 have hsz : ol.toArray.size = (ol.take n).length + (y :: ol.drop (n + 1)).length := by
  simp; omega
 rw [List.range_eq_range', hsz]
 have hmem : ∀ o ∈ ol.take n ++ y :: ol.drop (n + 1), o ∈ ol := fun o ho => by rwa [← hsp] at ho
 refine run_pre (P := P) (W := C.W) (LB := C.LB) (ops := ol.toArray) (nx := nx) (N := N) (dfs := C.dfs) (.inl rfl) (by simpa using h1) (y :: ol.drop (n + 1)) (ol.take n) 0 tr tm tm1 σ σ1 a w w L ρ (freshA nx) (fun j => by rw [← hsp]; simp) h3 g (fun o ho t ht id h5 h6 h7 => h5) (fun id hid => freshA_succ hid) (by rw [← hsp]; exact h2) (Tch.refl _ _) ?_
 intro a1 W1 L1 ρ1 fr1 g1 q1 q2 t1
 rw [Nat.zero_add, List.length_take, Nat.min_eq_left (Nat.le_of_lt hn), List.length_cons, List.range'_succ, wpOpsIn_cons]
 have hj1 : Y.J k true W1 := Y.hJ _ _ _ _ hj (t1.below hb fun j hj hW => by have := hC.W j hW; omega)
 have hb1 : Y.B ≤ W1.heap.size := Nat.le_trans hb t1.size
 obtain ⟨v, hv, ha⟩ := ys.hv
 have hk : k < es.length := (List.getElem?_eq_some_iff.1 hv).1
 have hargs : RV W1 L1 ρ0 v (ar.map a1.eval).toList := by
  refine ha.rv (RV.free (ρ := ρ1) ⟨by simp, fun i u x hu hx => ?_⟩ ys.idf)
  simp only [List.getElem?_map, Option.map_eq_some_iff, Array.toList_map] at hu hx
  obtain ⟨p, hp, rfl⟩ := hu
  obtain ⟨q, hq, rfl⟩ := hx
  rw [hp] at hq
  injection hq with hq
  subst hq
  exact (g1.tm.eval g1.g.gl p).ug (ugT_ok (List.all_eq_true.1 ys.hu p (List.mem_cons_of_mem _ (List.mem_of_getElem? hp))))
 have hLl : ∀ b, L1 b → Y.L0 b ∨ Y.B ≤ b := fun b hb => hC.LB b (g1.g.ll b hb).2
 obtain ⟨fn, tmps, assign, body, hyr, hR⟩ := Y.hY k (ar.map a1.eval) W1 hk ⟨v, hv, L1, fun b hbl => by
  rcases hLl b hbl with h | h
  ·
   exact .inl h
  ·
   exact .inr ⟨Nat.le_trans Y.hB h, (g1.g.ll b hbl).1, by have := Y.hl.2; omega⟩, hargs⟩ hb1 hj1
 have hfe : a1.eval fo = .func (.yield Y.l) #[] #[] := by
  have := (g1.tm.eval g1.g.gl fo).ug (ugT_ok (List.all_eq_true.1 ys.hu fo (List.mem_cons_self ..)))
  rw [ys.hf] at this
  exact this.c_inv
 have ho : ol.toArray[n]? = some y := by simp [hy, hyd]
 unfold wpOpIn
 rw [ho]
 simp only
 have hwt : Region.wanted y (yielded ol.toArray a1.tmps) = true := by rw [hyd]; exact wantedV_spec g1.tm ys.hg
 rw [if_pos hwt]
 refine ⟨fun f _ => trivial, ?_⟩
 have hrun : (y.semAt Fence.wide.round a1.eval).run P W1 = .ok (.round Y.l fn tmps assign body) W1 := by
  rw [Oper.semAt_eq _ _ _ (fun c e => by rw [hyd] at e; cases e), hyd]
  simp [execOp, resolve, Deferred.ofValue, invoke, hfe, hyr]
 rw [hrun, Oper.uponIn_round]
 refine ⟨fun e => by simp [Fence.wide] at e, hR.mono ?_⟩
 rintro e W2 ⟨b, rfl, ht2, j1, j2⟩
 have hyd2 : y.dst = some d := by rw [hyd]
 have hdN : d < N := h1 y (hmem y (by simp)) d hyd2
 have nL : ∀ j, L1 j → ¬ (Y.R0 j ∨ j = Y.l) := by
  rintro j hjl (h | rfl)
  ·
   have q := Y.hR j h
   rcases hLl j hjl with h' | h'
   ·
    exact q.2 h'
   ·
    have := Y.hB; omega
  ·
   rcases hLl _ hjl with h' | h'
   ·
    have := Y.hL _ h'; have := Y.hl.1; omega
   ·
    have := Y.hl.2; omega
 have nW : ∀ j, C.W j → ¬ (Y.R0 j ∨ j = Y.l) := by
  rintro j hjw (h | rfl)
  ·
   have q := Y.hR j h; have := hC.W j hjw; have := Y.hB; omega
  ·
   have := hC.W _ hjw; have := Y.hl.2; omega
 have ex : Ext W1 L1 ρ1 W2 L1 ρ1 := ⟨fun b hb => ⟨hb, ht2.block b (g1.g.ll b hb).1 (nL b hb)⟩, fun _ _ h => h⟩
 have gb : ∀ z : Bool, z = b → Gam C.W C.LB N C.dfs fr1 (upd tm1 d (.b z)) σ1 (a1.put y.dst (.bool b)) W2 L1 ρ1 := by
  rintro z rfl
  rw [hyd2]
  refine ⟨⟨fun b hb => ⟨Nat.lt_of_lt_of_le (g1.g.ll b hb).1 ht2.size, (g1.g.ll b hb).2⟩, fun b hb => g1.g.new b (Nat.le_trans ht2.size hb), fun id o ho => ?_, g1.g.sep, g1.g.glE ex⟩, g1.fr, (show TM (updO tm1 (some d) (V.b z)) _ _ _ _ from (g1.tm.ext ex).put (fun t ht => by injection ht with ht; rw [← ht, g1.size]; exact hdN) (.c _ _)), by simp [Act.put, g1.size], ?_, g1.pin⟩
  ·
   have hr1 := g1.g.ob id o ho
   obtain ⟨u, hu, hu2⟩ := hr1.lt
   refine hr1.keep ex fun x j hx hj => ?_
   rw [hx] at hu; injection hu with hu; subst hu
   exact ⟨ht2.block j (hu2 j hj).1 (nW j (hu2 j hj).2.1), (hu2 j hj).2.2⟩
  ·
   obtain ⟨Es, p1, p2, p3⟩ := g1.defers
   exact ⟨Es, p1, p2, fun D hD => ⟨(ht2.block D (Array.getElem?_eq_some_iff.1 (p3 D hD).1).1 (nW D (p3 D hD).2.1)).trans (p3 D hD).1, (p3 D hD).2⟩⟩
 have hb2 : Y.B ≤ W2.heap.size := Nat.le_trans hb1 ht2.size
 have hnd : ((ol.drop (n + 1)).filterMap (·.dst)).Nodup := by
  rw [hsp, List.filterMap_append, List.filterMap_cons, hyd2] at h2
  exact (List.nodup_cons.1 (List.nodup_append.1 h2).2.1).2
 have tail : ∀ (z : Bool) (k' : Nat), z = b → Y.J k' z W2 → AOps C ol.toArray nx (ol.drop (n + 1)) (upd tm1 d (.b z)) σ1 [] (fun tm' σ' _ => Q .normal ⟨tm', σ', nx + 1⟩ k' z) →
   wpOpsIn Fence.wide 0 P ol.toArray (fun e a' w' => ∃ s' k' g', Q e s' k' g' ∧ Gm C s' a' w' ∧ Y.J k' g' w' ∧ Y.B ≤ w'.heap.size) (List.range' (n + 1) (ol.drop (n + 1)).length) (a1.put y.dst (.bool b)) W2 := by
  intro z k' hz hj' hA
  obtain ⟨tr2, tm2, σ2, h4, hq⟩ := hA.run
  exact run_text (P := P) (W := C.W) (LB := C.LB) (ops := ol.toArray) (nx := nx) (N := N) (dfs := C.dfs) (.inl rfl) (by simpa using h1) (ol.drop (n + 1)) (n + 1) tr2 _ tm2 _ σ2 _ W2 W2 L1 ρ1 fr1 (fun j => by simp) h4 (gb z hz) (fun o ho => q1 o (by simp [ho])) q2 hnd (Tch.refl _ _) fun a' w' L' ρ' g' t' =>
   ⟨⟨tm2, σ2, nx + 1⟩, k', z, hq, ⟨L', ρ', g'⟩, Y.hJ _ _ _ _ hj' (t'.below hb2 fun j hj hW => by have := hC.W j hW; omega), Nat.le_trans hb2 t'.size⟩
 cases b with
 | true => exact tail true (k + 1) rfl (j1 rfl) ys.t
 | false => exact tail false k rfl (j2 rfl) ys.f
end Go.Ab

namespace Go.Ab
open Go.RowKit Go.Dw
theorem Real.ptr {W : Nat → Prop} {w : World} {L : Nat → Prop} {ρ : Nat → Option Value} {id t : Nat} {cs : List V} (h : Real W w L ρ id (.box t cs)) (hi : V.idfL cs = true) :
  ∃ v, ρ id = some v ∧ (∀ k, blk v = some k → k < w.heap.size ∧ W k ∧ ¬ L k) ∧ R w (fun b => L b ∨ blk v = some b) ρ (.ptr cs) v := by
 obtain ⟨v', hv', hlt⟩ := h.lt
 obtain ⟨b, xs, h1, h2, h3, h4, h5⟩ := h
 rw [h1] at hv'; injection hv' with hv'; subst hv'
 refine ⟨_, h1, hlt, ?_⟩
 refine .ptr _ _ _ _ (fun j => xs.toList.getD j undef) (.inr rfl) (fun j u hu => ?_) fun j u hu => ?_
 ·
  obtain ⟨y, hy, hr, hone⟩ := h5.get hu
  have hg : xs.toList.getD j undef = y := by simp [List.getD_eq_getElem?_getD, hy]
  rw [hg]
  refine ⟨?_, hone⟩
  rw [Nat.zero_add]
  rw [cell_of_row w b j xs t (0, 0) h4]
  simpa using hy
 ·
  obtain ⟨y, hy, hr, hone⟩ := h5.get hu
  have hg : xs.toList.getD j undef = y := by simp [List.getD_eq_getElem?_getD, hy]
  rw [hg]
  exact (hr.free (V.idfL_get hi hu) ρ0).ext ⟨fun b hb => ⟨.inl hb, rfl⟩, fun _ _ h => h⟩
def V.flatT : V → Bool
 | .tup cs => V.flatL cs
 | v => v.flat
theorem R.flatT {w w' : World} {L L' : Nat → Prop} {ρ ρ' : Nat → Option Value} {u : V} {x : Value} (h : R w L ρ u x) (hf : u.flatT = true) : R w' L' ρ' u x := by
 cases u with
 | tup cs =>
  obtain ⟨xs, rfl, hx⟩ := h.tup_inv
  exact .tup' ⟨hx.1, fun i v y hv hy => (hx.2 i v y hv hy).flat (V.flatL_get hf hv)⟩
 | _ => exact h.flat hf
theorem AC.box {P : Program} {f : FuncId} {args args' : List V} {v : V} (h : AC P f args' v []) (t : TypeId) {cs : List V} (ha : V.fzL 500 (.ptr cs) args = args') (hi : V.idfL args' = true) (hi2 : V.idfL cs = true) (hv : v.flatT = true) :
  AM P f args [.box t cs] v [some (.box t cs)] [] := by
 refine ⟨h.1, fun W LB L w ρ vs hwl hWL hG hρ hvs => ?_⟩
 have hσ : insF [.box t cs] 500 = some (.box t cs) := rfl
 obtain ⟨v0, hv0, hlt, hs⟩ := (hG.ob 500 _ hσ).ptr hi2
 have ex : Ext w L ρ w (fun b => L b ∨ blk v0 = some b) ρ := ⟨fun b hb => ⟨.inl hb, rfl⟩, fun _ _ h => h⟩
 have hrv : RV w (fun b => L b ∨ blk v0 = some b) ρ0 args' vs.toList := by
  refine RV.free (ρ := ρ) ?_ hi
  rw [← ha]
  refine ⟨by rw [V.fzL_len]; exact hvs.1, fun i u x hu hx => ?_⟩
  rw [V.fzL_get] at hu
  cases hc : args[i]? with
  | none => rw [hc] at hu; cases hu
  | some a =>
   rw [hc] at hu
   simp only [Option.map_some, Option.some.injEq] at hu
   subst hu
   refine R_fz (fun y hy => ?_) _ _ ((hvs.2 i a x hc hx).ext ex)
   rw [hv0] at hy; injection hy with hy; subst hy; exact hs
 refine (h.2 (fun b => L b ∨ blk v0 = some b) w vs (fun b hb => ?_) (hG.glE ex) hrv).mono ?_
 ·
  rcases hb with hb | hb
  ·
   exact (hG.ll b hb).1
  ·
   exact (hlt b hb).1
 rintro ee w' ⟨x, rfl, hbel, L', ρ', hG', hL', hx, hnn⟩
 obtain ⟨hG2, ex2⟩ := hG.quiet hbel (L' := L) (fun _ h => h) (fun _ h => .inl h)
 have e : outF [some (.box t cs)] [] = insF [.box t cs] := by
  funext id
  unfold outF insF
  by_cases h5 : 500 ≤ id
  ·
   rw [if_pos h5, if_pos h5]
   cases hk : id - 500 with
   | zero => rfl
   | succ n => simp
  ·
   rw [if_neg h5, if_neg h5]; simp
 refine ⟨x, rfl, Tch.of_below hbel fun k _ hk => (hG.new k hk).1, L, ρ, ?_, ex2, hx.flatT hv, fun j _ hj => hρ j hj⟩
 rw [e]; exact hG2
end Go.Ab

namespace Go.Ab
open Go.RowKit Go.Dw
def V.flatPT (pn : List Nat) : V → Bool
 | .tup cs => V.flatPL pn cs
 | v => v.flatP pn
theorem R.flatPT {pn : List Nat} {w w' : World} {L L' : Nat → Prop} {ρ ρ' : Nat → Option Value} {u : V} {x : Value} (h : R w L ρ u x) (hf : u.flatPT pn = true) (hρ : ∀ id ∈ pn, ∀ v, ρ id = some v → ρ' id = some v) : R w' L' ρ' u x := by
 cases u with
 | tup cs =>
  obtain ⟨xs, rfl, hx⟩ := h.tup_inv
  exact .tup' ⟨hx.1, fun i v y hv hy => (hx.2 i v y hv hy).flatP (V.flatPL_get hf hv) hρ⟩
 | _ => exact h.flatP hf hρ
def Ob.isC : Ob → Prop
 | .row _ _ n r => ∀ i, i < n → ∀ u ∈ r i, u.isC = true
 | _ => False
theorem AC.rowK {P : Program} {f : FuncId} {args args' : List V} {v : V} {obs : List Ob} (h : AC P f args' v obs) (e : TypeId) {sz n : Nat} {row : Nat → List V} (ha : V.fzL 500 (.sl sz n row) args = args') (hi : V.idfL args' = true) (ho : obs.length ≤ 90) (hi2 : ∀ i, V.idfL (row i) = true)
  (hv : v.flatPT (List.range obs.length) = true) (hC : ∀ o ∈ obs, o.isC) : AM P f args [.row e sz n row] v [some (.row e sz n row)] obs := by
 refine ⟨h.1, fun W LB L w ρ vs hwl hWL hG hρ hvs => ?_⟩
 have hσ : insF [.row e sz n row] 500 = some (.row e sz n row) := rfl
 have hre : Real W w L ρ 500 (.row e sz n row) := hG.ob 500 _ hσ
 obtain ⟨v0, hv0, hlt, hs⟩ := hre.slice fun i _ => hi2 i
 have ex : Ext w L ρ w (fun b => L b ∨ blk v0 = some b) ρ := ⟨fun b hb => ⟨.inl hb, rfl⟩, fun _ _ h => h⟩
 have hrv : RV w (fun b => L b ∨ blk v0 = some b) ρ0 args' vs.toList := by
  refine RV.free (ρ := ρ) ?_ hi
  rw [← ha]
  refine ⟨by rw [V.fzL_len]; exact hvs.1, fun i u x hu hx => ?_⟩
  rw [V.fzL_get] at hu
  cases hc : args[i]? with
  | none => rw [hc] at hu; cases hu
  | some a =>
   rw [hc] at hu
   simp only [Option.map_some, Option.some.injEq] at hu
   subst hu
   refine R_fz (fun y hy => ?_) _ _ ((hvs.2 i a x hc hx).ext ex)
   rw [hv0] at hy; injection hy with hy; subst hy; exact hs
 refine (h.2 (fun b => L b ∨ blk v0 = some b) w vs (fun b hb => ?_) (hG.glE ex) hrv).mono ?_
 ·
  rcases hb with hb | hb
  ·
   exact (hG.ll b hb).1
  ·
   exact (hlt b hb).1
 rintro ee w' ⟨x, rfl, hbel, L', ρ', hG', hL', hx, hnn⟩
 obtain ⟨hG2, ex2⟩ := hG.quiet hbel (L' := L) (fun _ h => h) (fun _ h => .inl h)
 obtain ⟨ρ2, hρ2⟩ : ∃ ρ2 : Nat → Option Value, ∀ id, ρ2 id = if id < obs.length then ρ' id else ρ id := ⟨_, fun _ => rfl⟩
 have h1 : ∀ id, id < obs.length → ρ2 id = ρ' id := fun id h => by rw [hρ2, if_pos h]
 have h2 : ∀ id, ¬ id < obs.length → ρ2 id = ρ id := fun id h => by rw [hρ2, if_neg h]
 have hout : ∀ id o, outF [some (.row e sz n row)] obs id = some o → (id < obs.length ∧ obsF obs id = some o) ∨ (id = 500 ∧ o = .row e sz n row) := fun id o hio => by
  unfold outF at hio
  split at hio
  ·
   rename_i h5
   refine .inr ?_
   cases hk : id - 500 with
   | zero => rw [hk] at hio; simp at hio; exact ⟨by omega, hio.symm⟩
   | succ m => rw [hk] at hio; simp at hio
  ·
   refine .inl ⟨?_, hio⟩
   exact (List.getElem?_eq_some_iff.1 hio).1
 have hob : ∀ id o, obsF obs id = some o → id < obs.length → Real W w' L ρ2 id o ∧ ∀ y k, ρ2 id = some y → blk y = some k → w.heap.size ≤ k := fun id o hio hid => by
  have hr := hG'.ob id o hio
  have hc := hC o (List.mem_of_getElem? hio)
  cases o with
  | row t z m r =>
   obtain ⟨y, xs, q1, q2, q3, q4, q5⟩ := hr
   refine ⟨⟨y, xs, by rw [h1 id hid]; exact q1, q2, q3, q4.ofC fun u hu => ?_, fun k hk => ⟨(hG.new k (q5 k hk).1).1, fun hL => by have := (hG.ll k hL).1; have := (q5 k hk).1; omega⟩⟩, fun y' k hy hk => ?_⟩
   ·
    obtain ⟨l, hl, hul⟩ := List.mem_flatten.1 hu
    obtain ⟨i, hi, rfl⟩ := List.mem_iff_getElem.1 hl
    have hi' : i < m := by simpa [slRows_len] using hi
    have := slRows_get (row := r) hi'
    rw [List.getElem?_eq_getElem hi] at this
    injection this with this
    rw [this] at hul
    exact hc i hi' u hul
   ·
    rw [h1 id hid, q1] at hy; injection hy with hy; subst hy
    exact (q5 k hk).1
  | _ => exact hc.elim
 refine ⟨x, rfl, Tch.of_below hbel fun k _ hk => (hG.new k hk).1, L, ρ2, ⟨fun b hb => hG2.ll b hb, fun b hb => hG2.new b hb, fun id o hio => ?_, fun i j y z k hij hi hj hy hz hk => ?_, hG2.gl⟩, ⟨fun b hb => ex2.1 b hb, fun id y hy => ?_⟩, hx.flatPT hv fun id hid y hy => by rw [h1 id (List.mem_range.1 hid)]; exact hy, fun j hj hj5 => ?_⟩
 ·
  rcases hout id o hio with ⟨hid, hio⟩ | ⟨rfl, rfl⟩
  ·
   exact (hob id o hio hid).1
  ·
   obtain ⟨y, xs, q1, q2, q3, q4, q5⟩ := hG2.ob 500 _ hσ
   have hn5 : ¬ 500 < obs.length := by omega
   exact ⟨y, xs, by rw [h2 500 hn5]; exact q1, q2, q3, by
    refine ⟨q4.1, fun i u x hu hx => ⟨?_, (q4.2 i u x hu hx).2⟩⟩
    have hr := (q4.2 i u x hu hx).1
    refine (hr.free ?_ ρ2)
    obtain ⟨l, hl, hul⟩ := List.mem_flatten.1 (List.mem_of_getElem? hu)
    obtain ⟨i', hi', rfl⟩ := List.mem_iff_getElem.1 hl
    have hi'' : i' < n := by simpa [slRows_len] using hi'
    have := slRows_get (row := row) hi''
    rw [List.getElem?_eq_getElem hi'] at this
    injection this with this
    rw [this] at hul
    obtain ⟨p, hp, rfl⟩ := List.mem_iff_getElem.1 hul
    exact V.idfL_get (hi2 i') (List.getElem?_eq_getElem hp), q5⟩
 ·
  cases hio : outF [some (.row e sz n row)] obs i with
  | none => exact absurd hio hi
  | some o =>
   cases hjo : outF [some (.row e sz n row)] obs j with
   | none => exact absurd hjo hj
   | some o' =>
    rcases hout i o hio with ⟨hid, hio'⟩ | ⟨rfl, rfl⟩
    ·
     rcases hout j o' hjo with ⟨hjd, hjo'⟩ | ⟨rfl, rfl⟩
     ·
      rw [h1 i hid] at hy; rw [h1 j hjd] at hz
      exact hG'.sep i j y z k hij (by rw [hio']; simp) (by rw [hjo']; simp) hy hz hk
     ·
      intro hk'
      have a1 := (hob i o hio' hid).2 y k hy hk
      rw [h2 500 oM, hv0] at hz; injection hz with hz; subst hz
      have := (hlt k hk').1
      omega
    ·
     rcases hout j o' hjo with ⟨hjd, hjo'⟩ | ⟨rfl, rfl⟩
     ·
      intro hk'
      have a1 := (hob j o' hjo' hjd).2 z k hz hk'
      rw [h2 500 oM, hv0] at hy; injection hy with hy; subst hy
      have := (hlt k hk).1
      omega
     ·
      exact absurd rfl hij
 ·
  have : ¬ id < obs.length := fun hlt' => by
   rw [hρ id (.inl oM)] at hy; cases hy
  rw [h2 id this]; exact hy
 ·
  rw [h2 j oM]
  exact hρ j hj5
section
variable {P : Program} {N : Nat} {C : Cx P N} {ops : Array Oper} {nx : Nat} {os : List Oper} {tm : Nat → V} {σ : Nat → Option Ob} {ks : List (List Nat × List Nat)} {K : (Nat → V) → (Nat → Option Ob) → List (List Nat × List Nat) → Prop} {ty : TypeId} {pos : String} {af : Array Edge}
end
end Go.Ab

namespace Go.Ab
open Go.RowKit Go.Dw
theorem AC.shut1 {P : Program} {f : FuncId} {args : List V} {v v' : V} {e : TypeId} {sz n n' : Nat} {row row' : Nat → List V} (h : AC P f args v [.row e sz n row]) (hn : n = n') (hr : ∀ i, i < n → row i = row' i) (hi : ∀ i, V.idfL (row' i) = true) (hv : V.fz 0 (.sl sz n' row') v = v') (hidf : v'.idf = true) : AC P f args v' [] := by
 subst hn
 refine ⟨h.1, fun L w vs hL hgl hvs => (h.2 L w vs hL hgl hvs).mono ?_⟩
 rintro ee w' ⟨x, rfl, hb, L', ρ', hG, hL', hx, hnn⟩
 have hre : Real (fun b => w.heap.size ≤ b) w' L' ρ' 0 (.row e sz n row') := (hG.ob 0 _ rfl).eq ⟨rfl, rfl, rfl, hr⟩
 obtain ⟨v0, hv0, hlt, hs⟩ := hre.slice fun i _ => hi i
 have ex : Ext w' L' ρ' w' (fun b => L' b ∨ blk v0 = some b) ρ' := ⟨fun b hb => ⟨.inl hb, rfl⟩, fun _ _ h => h⟩
 refine ⟨x, rfl, hb, fun b => L' b ∨ blk v0 = some b, ρ0, ⟨fun b hbl => ?_, hG.new, (fun id o ho => by cases ho), fun i j y z k _ hi => absurd rfl hi, hG.glE ex⟩, fun b hbl => .inl (hL' b hbl), ?_, fun _ _ => rfl⟩
 ·
  rcases hbl with h1 | h1
  ·
   exact hG.ll b h1
  ·
   exact ⟨(hlt b h1).1, .inr (hlt b h1).2.1⟩
 ·
  subst hv
  refine (R_fz (fun y hy => ?_) v x (hx.ext ex)).free hidf ρ0
  rw [hv0] at hy; injection hy with hy; subst hy; exact hs
end Go.Ab

namespace Go.Proofs.YtplnhbenmgclfaaGreatDoor
open Go.Ab Go.RowKit Go.Dw Go.Shelf
structure Cv where
 feed : List Int
 back : List Int
 share : Int
def dot (w h : List Int) : Nat → Int
 | 0 => 0
 | k + 1 => dot w h k + gi w k * gi h k
def corr (c : Cv) (hx hy : List Int) : Int := (dot c.feed hx c.feed.length + dot c.back hy c.back.length) / c.share
def stepH (c : Cv) (u : Bool) (p : List Int × List Int) (g : Int) : List Int × List Int :=
 if u then ((g - corr c p.1 p.2) :: p.1, g :: p.2) else (g :: p.1, (g + corr c p.1 p.2) :: p.2)
def hist (c : Cv) (u : Bool) (l : List Int) : Nat → List Int × List Int
 | 0 => ([], [])
 | k + 1 => stepH c u (hist c u l k) (gi l k)
def outK (c : Cv) (u : Bool) (l : List Int) (k : Nat) : Int :=
 if u then gi l k - corr c (hist c u l k).1 (hist c u l k).2 else gi l k + corr c (hist c u l k).1 (hist c u l k).2
def resL (c : Cv) (u : Bool) (l : List Int) : List Int := (List.range l.length).map (outK c u l)
def bey (n m : Int) : Bool := decide (n < -m) || decide (m < n)
theorem bey_no {n m : Int} : bey n m = false ↔ -m ≤ n ∧ n ≤ m := by
 simp [bey]
theorem resL_len (c : Cv) (u : Bool) (l : List Int) : (resL c u l).length = l.length := by simp [resL]
theorem resL_gi {c : Cv} {u : Bool} {l : List Int} {k : Nat} (h : k < l.length) : gi (resL c u l) k = outK c u l k := by simp [resL, gi, h]
theorem gi_consS (x : Int) (l : List Int) (k : Nat) : gi (x :: l) (k + 1) = gi l k := rfl
theorem gi_out {l : List Int} {k : Nat} (h : l.length ≤ k) : gi l k = 0 := by simp [gi, List.getElem?_eq_none h]
theorem hist_x (c : Cv) (u : Bool) (l : List Int) (k : Nat) : (hist c u l (k + 1)).1 = (if u then outK c u l k else gi l k) :: (hist c u l k).1 := by
 rw [hist, stepH, outK]; cases u <;> rfl
theorem hist_y (c : Cv) (u : Bool) (l : List Int) (k : Nat) : (hist c u l (k + 1)).2 = (if u then gi l k else outK c u l k) :: (hist c u l k).2 := by
 rw [hist, stepH, outK]; cases u <;> rfl
theorem hist_len (c : Cv) (u : Bool) (l : List Int) (k : Nat) : (hist c u l k).1.length = k ∧ (hist c u l k).2.length = k := by
 induction k with
 | zero => exact ⟨rfl, rfl⟩
 | succ k ih => rw [hist_x, hist_y]; simp [ih.1, ih.2]
theorem hist_at (c : Cv) (u : Bool) (l : List Int) : ∀ (k i : Nat), i < k → gi (hist c u l k).1 i = (if u then outK c u l (k - 1 - i) else gi l (k - 1 - i)) ∧ gi (hist c u l k).2 i = (if u then gi l (k - 1 - i) else outK c u l (k - 1 - i))
 | 0, i, h => by omega
 | k + 1, 0, _ => by rw [hist_x, hist_y]; exact ⟨rfl, rfl⟩
 | k + 1, i + 1, h => by
  rw [hist_x, hist_y, gi_consS, gi_consS, show k + 1 - 1 - (i + 1) = k - 1 - i by omega]
  exact hist_at c u l k i oM
def AllLe (m : Int) (l : List Int) : Prop := ∀ x ∈ l, -m ≤ x ∧ x ≤ m
theorem AllLe.gi {m : Int} {l : List Int} (h : AllLe m l) (hm : 0 ≤ m) (k : Nat) : -m ≤ gi l k ∧ gi l k ≤ m := by
 by_cases hk : k < l.length
 ·
  rw [gi_eq hk]; exact h _ (List.getElem_mem _)
 ·
  rw [gi_out oM]; omega
theorem AllLe.of_gi {m : Int} {l : List Int} (h : ∀ k, k < l.length → -m ≤ Go.Dw.gi l k ∧ Go.Dw.gi l k ≤ m) : AllLe m l := by
 intro x hx
 obtain ⟨k, hk, rfl⟩ := List.getElem_of_mem hx
 rw [← gi_eq hk]; exact h k hk
theorem mul_bd {a b m n : Int} (ha : -m ≤ a ∧ a ≤ m) (hb : -n ≤ b ∧ b ≤ n) : -(m * n) ≤ a * b ∧ a * b ≤ m * n := by
 have h1 : 0 ≤ (m - a) * (n + b) := Int.mul_nonneg oM oM
 have h2 : 0 ≤ (m + a) * (n - b) := Int.mul_nonneg oM oM
 have h3 : 0 ≤ (m - a) * (n - b) := Int.mul_nonneg oM oM
 have h4 : 0 ≤ (m + a) * (n + b) := Int.mul_nonneg oM oM
 simp only [Int.sub_mul, Int.add_mul, Int.mul_add, Int.mul_sub] at h1 h2 h3 h4
 omega
theorem dot_bd {w h : List Int} {m n : Int} (hm : 0 ≤ m) (hn : 0 ≤ n) (hw : AllLe m w) (hh : AllLe n h) : ∀ k : Nat, -(k * (m * n)) ≤ dot w h k ∧ dot w h k ≤ k * (m * n)
 | 0 => by simp [dot]
 | k + 1 => by
  have ih := dot_bd hm hn hw hh k
  have hb := mul_bd (hw.gi hm k) (hh.gi hn k)
  have e : ((k + 1 : Nat) : Int) * (m * n) = k * (m * n) + m * n := by rw [Int.natCast_succ, Int.add_mul, Int.one_mul]
  rw [dot, e]
  omega
def cvE (c : Cv) : Int :=
 if 8 < max c.feed.length c.back.length then 6 else
 if (c.feed.any fun n => bey n 4096) || (c.back.any fun n => bey n 4096) || decide (c.share < 1) || decide (4096 < c.share) then 2 else 0
def cvOk (c : Cv) : Prop := c.feed.length ≤ 8 ∧ c.back.length ≤ 8 ∧ AllLe 4096 c.feed ∧ AllLe 4096 c.back ∧ 1 ≤ c.share ∧ c.share ≤ 4096
theorem any_bey {l : List Int} {m : Int} : (l.any fun n => bey n m) = false ↔ AllLe m l := by
 rw [List.any_eq_false]
 refine ⟨fun h x hx => bey_no.1 (by simpa using h x hx), fun h x hx => by simpa using bey_no.2 (h x hx)⟩
theorem cvE_ok {c : Cv} : cvE c = 0 ↔ cvOk c := by
 unfold cvE cvOk
 rw [← any_bey, ← any_bey]
 by_cases h : 8 < max c.feed.length c.back.length
 ·
  rw [if_pos h]; constructor
  ·
   intro h; cases h
  ·
   intro ⟨h1, h2, _⟩; omega
 ·
  rw [if_neg h]
  cases h1 : (c.feed.any fun n => bey n 4096) <;> cases h2 : (c.back.any fun n => bey n 4096) <;> simp
  omega
theorem corr_bd {c : Cv} (hc : cvOk c) {hx hy : List Int} {m : Int} (hm : 0 ≤ m) (h1 : AllLe m hx) (h2 : AllLe m hy) :
  (-(32768 * m) ≤ dot c.feed hx c.feed.length ∧ dot c.feed hx c.feed.length ≤ 32768 * m) ∧ (-(32768 * m) ≤ dot c.back hy c.back.length ∧ dot c.back hy c.back.length ≤ 32768 * m) ∧ -(65536 * m) ≤ corr c hx hy ∧ corr c hx hy ≤ 65536 * m := by
 obtain ⟨l1, l2, a1, a2, s1, s2⟩ := hc
 have d1 := dot_bd (by decide) hm a1 h1 c.feed.length
 have d2 := dot_bd (by decide) hm a2 h2 c.back.length
 have e1 : (c.feed.length : Int) * (4096 * m) ≤ 8 * (4096 * m) := Int.mul_le_mul_of_nonneg_right oM oM
 have e2 : (c.back.length : Int) * (4096 * m) ≤ 8 * (4096 * m) := Int.mul_le_mul_of_nonneg_right oM oM
 refine ⟨by omega, by omega, ?_⟩
 unfold corr
 constructor
 ·
  refine Int.le_ediv_of_mul_le oM ?_
  have : -(65536 * m) * c.share ≤ -(65536 * m) * 1 := Int.mul_le_mul_of_nonpos_left oM oM
  omega
 ·
  have h3 : (dot c.feed hx c.feed.length + dot c.back hy c.back.length) / c.share ≤ 65536 * m := by
   refine Int.ediv_le_of_le_mul oM ?_
   have : 65536 * m * 1 ≤ 65536 * m * c.share := Int.mul_le_mul_of_nonneg_left oM oM
   omega
  exact h3
def fine (c : Cv) (u : Bool) (l : List Int) (m : Int) (k : Nat) : Prop := ∀ j, j < k → bey (outK c u l j) m = false
theorem hist_bd {c : Cv} {u : Bool} {l : List Int} {m : Int} (hm : 0 ≤ m) (hl : AllLe m l) {k : Nat} (hf : fine c u l m k) : AllLe m (hist c u l k).1 ∧ AllLe m (hist c u l k).2 := by
 constructor
 ·
  refine .of_gi fun i hi => ?_
  rw [(hist_len c u l k).1] at hi
  rw [(hist_at c u l k i hi).1]
  split
  ·
   exact bey_no.1 (hf _ oM)
  ·
   exact hl.gi hm _
 ·
  refine .of_gi fun i hi => ?_
  rw [(hist_len c u l k).2] at hi
  rw [(hist_at c u l k i hi).2]
  split
  ·
   exact hl.gi hm _
  ·
   exact bey_no.1 (hf _ oM)
def runI (c : Cv) (u : Bool) (m : Int) (l : List Int) : Option (List Int) := if (resL c u l).any fun n => bey n m then none else some (resL c u l)
theorem any_resL {c : Cv} {u : Bool} {l : List Int} {m : Int} : ((resL c u l).any fun n => bey n m) = false ↔ fine c u l m l.length := by
 rw [List.any_eq_false]
 constructor
 ·
  intro h j hj
  have := h (outK c u l j) (by simp only [resL, List.mem_map, List.mem_range]; exact ⟨j, hj, rfl⟩)
  simpa using this
 ·
  intro h x hx
  simp only [resL, List.mem_map, List.mem_range] at hx
  obtain ⟨j, hj, rfl⟩ := hx
  simpa using h j hj
theorem runI_some {c : Cv} {u : Bool} {m : Int} {l : List Int} (h : fine c u l m l.length) : runI c u m l = some (resL c u l) := by
 rw [runI, any_resL.2 h]; rfl
theorem runI_none {c : Cv} {u : Bool} {m : Int} {l : List Int} {j : Nat} (hj : j < l.length) (h : bey (outK c u l j) m = true) : runI c u m l = none := by
 rw [runI, if_pos]
 rw [List.any_eq_true]
 exact ⟨_, by simp only [resL, List.mem_map, List.mem_range]; exact ⟨j, hj, rfl⟩, h⟩
end Go.Proofs.YtplnhbenmgclfaaGreatDoor
