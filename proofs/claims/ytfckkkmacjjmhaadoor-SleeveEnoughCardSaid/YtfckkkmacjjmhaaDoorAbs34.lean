/-
  A call that panics, and a deferred closure that recovers, for values without addresses. No condition but those that a contract names.
-/
import Derived.Test.YtfckkkmacjjmhaaDoorAbs33
import Derived.Test.YtfckkkmacjjmhaaDoorAbs31
import Derived.RecoverIn
namespace Go.Ab
open Go.RowKit Go.Dw

/-- a function that panics unless what it is told holds -/
structure MustOk (P : Program) (f : FuncId) (Tp : TypeId) : Prop where
  call : ∀ (args : Array Value) (w : World), (callFunc f args).run P w = .ok (.enter f args) w
  yes : ∀ (k : Int) (w : World), Calls P f #[.bool true, .int .i64 k] w fun e w' => e = .returned (.tuple #[]) ∧ w' = w
  no : ∀ (k : Int) (w : World), Calls P f #[.bool false, .int .i64 k] w fun e w' => e = .panicked [{ v := .iface Tp (.int .i64 k), recovered := false }] ∧ w' = w
/-- what is owed at such a call -/
def MS (f : FuncId) (Tp : TypeId) (fo : Operand) (ar : Array Operand) (d n' : Nat) (Q : Exit → S → Prop) (tm : Nat → V) (σ : Nat → Option Ob) : Prop :=
  ∃ (t : Bool) (k : Int), ev tm fo = .fn (.func f) [] [] ∧ ar.toList.map (ev tm) = [.b t, .i k] ∧ (t = true → Q .normal ⟨upd tm d (.tup []), σ, n'⟩) ∧ (t = false → Q (.panic [{ v := .iface Tp (.int .i64 k), recovered := false }]) ⟨tm, σ, n'⟩)
/-- a region whose last operation is a call of such a function -/
theorem aw_must {P : Program} {N : Nat} {C : Cx P N} {Q : Exit → S → Prop} {id nx : Nat} {ol : List Oper} {tm : Nat → V} {σ : Nat → Option Ob} {f : FuncId} {Tp : TypeId} (hm : MustOk P f Tp) (hF : C.F = Fence.wide) (n : Nat) {fo : Operand} {ar : Array Operand} {ats : Array TypeId} {d : Nat} {ty : TypeId} {pos : String} {af : Array Edge}
    (hok : okReg N ol = true) (hy : ol[n]? = some ⟨some d, .call { callee := .value fo, args := ar, argTypes := ats }, ty, pos, af, none⟩) (hl : ol.length = n + 1) {n' : Nat} (hn' : nx + 1 = n')
    (h : AOps C ol.toArray nx (ol.take n) tm σ [] fun tm1 σ1 _ => MS f Tp fo ar d n' Q tm1 σ1) :
    AW C (.region id ol.toArray false) Q ⟨tm, σ, nx⟩ := by
  subst hn'
  intro a w ⟨L, ρ, g⟩
  obtain ⟨h1, h2⟩ := okReg_spec hok
  obtain ⟨tr, tm1, σ1, h3, t, k, hf, hargs, hyes, hno⟩ := h.run
  have hn : n < ol.length := by omega
  obtain ⟨y, hyd⟩ : ∃ y : Oper, y = ⟨some d, .call { callee := .value fo, args := ar, argTypes := ats }, ty, pos, af, none⟩ := ⟨_, rfl⟩
  have hsp : ol = ol.take n ++ [y] := by
    rw [hyd]
    have e1 : ol.drop n = ol[n] :: ol.drop (n + 1) := List.drop_eq_getElem_cons hn
    have e2 : ol[n] = _ := (List.getElem?_eq_some_iff.1 hy).2
    have e3 : ol.drop (n + 1) = [] := List.drop_eq_nil_of_le (by omega)
    rw [← e2, ← e3, ← e1, List.take_append_drop]
  rw [hF]
  refine wpIn_region ?_
  have hsz : ol.toArray.size = (ol.take n).length + [y].length := by
    simp; omega
  rw [List.range_eq_range', hsz]
  have hmem : ∀ o ∈ ol.take n ++ [y], o ∈ ol := fun o ho => by rwa [← hsp] at ho
  refine run_pre (P := P) (W := C.W) (LB := C.LB) (ops := ol.toArray) (nx := nx) (N := N) (dfs := C.dfs) (.inl rfl) (by simpa using h1) [y] (ol.take n) 0 tr tm tm1 σ σ1 a w w L ρ (freshA nx) (fun j => by rw [← hsp]; simp) h3 g (fun o ho t ht id h5 h6 h7 => h5) (fun id hid => freshA_succ hid) (by rw [← hsp]; exact h2) (Tch.refl _ _) ?_
  intro a1 W1 L1 ρ1 fr1 g1 q1 q2 t1
  rw [Nat.zero_add, List.length_take, Nat.min_eq_left (Nat.le_of_lt hn), List.length_cons, List.range'_succ, wpOpsIn_cons]
  have hfe := g1.tm.eval g1.g.gl fo
  rw [hf] at hfe
  obtain ⟨xs, ys, e1, hx, hyy⟩ := hfe.fn_inv
  have e2 : xs = #[] := by have := hx.1; simpa using this.symm
  have e3 : ys = #[] := by have := hyy.1; simpa using this.symm
  subst e2 e3
  have hav : ar.map a1.eval = #[.bool t, .int .i64 k] := by
    obtain ⟨l⟩ := ar
    have hlen : l.length = 2 := by have := congrArg List.length hargs; simpa using this
    obtain ⟨p, q, rfl⟩ : ∃ p q, l = [p, q] := by
      match l, hlen with
      | [p, q], _ => exact ⟨p, q, rfl⟩
    simp at hargs
    have r1 := g1.tm.eval g1.g.gl p
    have r2 := g1.tm.eval g1.g.gl q
    rw [hargs.1] at r1
    rw [hargs.2] at r2
    simp [r1.c_inv, r2.c_inv]
  have ho : ol.toArray[n]? = some y := by simp [hy, hyd]
  have hyd2 : y.dst = some d := by rw [hyd]
  unfold wpOpIn
  rw [ho]
  simp only
  have hwt : Region.wanted y (yielded ol.toArray a1.tmps) = true := by rw [hyd]; rfl
  rw [if_pos hwt]
  refine ⟨fun f _ => trivial, ?_⟩
  have hrun : (y.semAt Fence.wide.round a1.eval).run P W1 = .ok (.enter f #[.bool t, .int .i64 k]) W1 := by
    rw [Oper.semAt_eq _ _ _ (fun c e => by rw [hyd] at e; cases e), hyd]
    simp [execOp, resolve, Deferred.ofValue, invoke, e1, hm.call, hav]
  rw [hrun, Oper.uponIn_enter]
  refine ⟨fun e => by simp [Fence.wide] at e, callsIn_wide.2 ?_⟩
  cases t with
  | true =>
    refine (hm.yes k W1).mono ?_
    rintro e w' ⟨rfl, rfl⟩
    show wpOpsIn _ _ _ _ _ [] _ _
    have hdN : d < N := h1 y (hmem y (by simp)) d hyd2
    rw [hyd2]
    exact ⟨_, hyes rfl, ⟨L1, ρ1, g1.g, fun id hid => g1.fr id (q2 id hid), g1.tm.put (d := some d) (fun t ht => by injection ht with ht; rw [← ht, g1.size]; exact hdN) (.tup' .nil), by simp [Act.put, g1.size], g1.defers, g1.pin⟩, t1⟩
  | false =>
    refine (hm.no k W1).mono ?_
    rintro e w' ⟨rfl, rfl⟩
    exact ⟨_, hno rfl, ⟨L1, ρ1, g1.g, fun id hid => g1.fr id (q2 id hid), g1.tm, g1.size, g1.defers, g1.pin⟩, t1⟩

section
variable {next : S → Prop} {Q : Exit → S → Prop} {s : S} {ch : List PanicEntry} {id : Nat}
theorem xt_p (h : Q (.panic ch) s) : XThen next Q (.panic ch) s := h
theorem xb_p (h : Q (.panic ch) s) : XBlock id Q (.panic ch) s := h
end
/-- marks are shut first, then the deferred calls below them -/
theorem leaves_marksT {P : Program} {fn : Func} {tmps : Array Value} {R : Ending → World → Prop} {n : Nat} {u : FrameMode} (hu : u ≠ .run) {tl : List Deferred} : ∀ (Ds : List Nat) (w : World), Ds.Nodup → (∀ D ∈ Ds, w.heap[D]? = some (.deferred (some []))) →
    (∀ w', Tch (· ∈ Ds) w w' → LeavesInM Fence.wide n P fn tmps R tl u w') → LeavesInM Fence.wide n P fn tmps R (marks Ds ++ tl) u w
  | [], w, _, _, hR => hR w (Tch.refl _ _)
  | D :: Ds, w, hn, hD, hR => by
    refine ⟨hu, .inl ⟨D, w.putObj D (.deferred none), rfl, run_takeDeferred (hD D (by simp)), ?_⟩⟩
    have hn' := List.nodup_cons.1 hn
    refine leaves_marksT hu Ds _ hn'.2 (fun E hE => ?_) (fun w' ht => hR w' ?_)
    · exact (World.putObj_heap_other (by rintro rfl; exact hn'.1 hE)).trans (hD E (by simp [hE]))
    · exact (((Tch.refl _ w).putObj _ fun _ => by simp).trans (ht.mono fun k _ h => by simp [h]))

/-- the deferred closure: 'out' at one cell, the error at another -/
def dfd (df : FuncId) (b c : Nat) : Deferred := { target := .fn (.func df) #[.pointer (some ⟨b, 0, none⟩), .pointer (some ⟨c, 0, none⟩)], args := #[] }
/-- what the closure does: nothing where nothing panics; else it lays nil and the error that the panic bears -/
structure DfOk (P : Program) (df : FuncId) (T : TypeId) : Prop where
  enter : ∀ (args : Array Value) (w : World), (callFunc df args).run P w = .ok (.enter df args) w
  idle : ∀ (b c : Nat) (w : World), CallsDIn Fence.wide 0 P df #[.pointer (some ⟨b, 0, none⟩), .pointer (some ⟨c, 0, none⟩)] .returning w fun e u' w' => (∃ v, e = .returned v) ∧ u' = .returning ∧ w' = w
  catch_ : ∀ (b c : Nat) (n : Int) (x y : Value) (w : World), w.cell? ⟨b, 0, none⟩ = some x → w.frozen? ⟨b, 0, none⟩ = false → w.cell? ⟨c, 0, none⟩ = some y → w.frozen? ⟨c, 0, none⟩ = false → b ≠ c →
    CallsDIn Fence.wide 0 P df #[.pointer (some ⟨b, 0, none⟩), .pointer (some ⟨c, 0, none⟩)] (.panicking [{ v := .iface T (.int .i64 n), recovered := false }]) w fun e u' w' =>
      (∃ v, e = .returned v) ∧ u' = .panicking [{ v := .iface T (.int .i64 n), recovered := true }] ∧ w' = (w.setCell ⟨b, 0, none⟩ (.slice none 0 0)).setCell ⟨c, 0, none⟩ (.int .i64 n)

/-- how the body of such a function ends -/
def DPost (T : List TI) (fn : Func) (Tp : TypeId) (ta tb : Nat) (v : V) : Exit → S → Prop := fun e s =>
  ((e = .normal ∨ e = .ret) ∧ RetPost T fn v [] e s) ∨
  ∃ n t1 t2 u1 u2, e = .panic [{ v := .iface Tp (.int .i64 n), recovered := false }] ∧ v = .tup [.nil, .i n] ∧ s.tm ta = .ref 500 0 ∧ s.tm tb = .ref 501 0 ∧ s.σ 500 = some (.box t1 [u1]) ∧ s.σ 501 = some (.box t2 [u2])

section
variable {T : List TI} {P : Program}
theorem frozen0 {w : World} {b o : Nat} {xs : Array Value} {t : TypeId} (h : w.heap[b]? = some (.cells xs t (0, 0))) : w.frozen? ⟨b, o, none⟩ = false := by
  simp [World.frozen?, h]
theorem acd_intro (hT : TabOk T P) (hmx : P.follows .mixedOrders = true) {f : FuncId} {fn : Func} {r0 r1 rest : Code} {N : Nat} (hk : FnOk P f fn (.seq r0 (.seq r1 rest)) N) {args : List V} {v : V} (hargs : args.length ≤ N) {t1 t2 df Tp ta tb tf : Nat} {z1 z2 : V} {x1 x2 : Value}
    (ht : ta < N ∧ tb < N ∧ tf < N ∧ args.length ≤ ta ∧ args.length ≤ tb ∧ args.length ≤ tf ∧ ta ≠ tb ∧ ta ≠ tf ∧ tb ≠ tf) (hz1 : ∀ w L ρ, R w L ρ z1 x1) (hz2 : ∀ w L ρ, R w L ρ z2 x2) (ho1 : x1.oneCell' = true) (ho2 : x2.oneCell' = true)
    (hres : fn.results = #[.cell ta t1, .cell tb t2]) (ha1 : tAgg P t1 = some false) (ha2 : tAgg P t2 = some false) (hdf : DfOk P df Tp)
    (hpre : ∀ (vs : Array Value) (w : World) (Q : Exit → Act → World → Prop), vs.size = args.length →
      rest.wpIn Fence.wide 0 P Q ⟨(((vs ++ Array.replicate (fn.ntmps - vs.size) undef).setIfInBounds ta (.pointer (some ⟨w.heap.size, 0, none⟩))).setIfInBounds tb (.pointer (some ⟨w.heap.size + 1, 0, none⟩))).setIfInBounds tf (.func (.func df) #[] #[.pointer (some ⟨w.heap.size, 0, none⟩), .pointer (some ⟨w.heap.size + 1, 0, none⟩)]), [dfd df w.heap.size (w.heap.size + 1)]⟩
        ((w.alloc (.cells #[x1] t1)).alloc (.cells #[x2] t2)) →
      (Code.seq r0 (.seq r1 rest)).wpIn Fence.wide 0 P Q ⟨vs ++ Array.replicate (fn.ntmps - vs.size) undef, []⟩ w)
    (h : ∀ C : Cx P N, C.F = Fence.wide → AW C rest (DPost T fn Tp ta tb v) ⟨fun t => if t = ta then .ref 500 0 else if t = tb then .ref 501 0 else args.getD t .any, upd (upd (fun _ => none) 500 (some (.box t1 [z1]))) 501 (some (.box t2 [z2])), 1⟩) : AC P f args v [] := by
  refine ⟨hk.call, fun L w vs hL hgl hvs => ?_⟩
  obtain ⟨l1, l2, l3, l4, l5, l6, l7, l8, l9⟩ := ht
  obtain ⟨C, hW, hLB, hd, hFw, htl⟩ : ∃ C : Cx P N, C.W = (fun b => w.heap.size ≤ b) ∧ C.LB = (fun b => L b ∨ w.heap.size ≤ b) ∧ C.dfs.pin = upd (upd (fun _ => none) 500 (some (.pointer (some ⟨w.heap.size, 0, none⟩)))) 501 (some (.pointer (some ⟨w.heap.size + 1, 0, none⟩))) ∧ C.F = Fence.wide ∧ C.dfs.tl = [dfd df w.heap.size (w.heap.size + 1)] :=
    ⟨⟨fun b => w.heap.size ≤ b, fun b => L b ∨ w.heap.size ≤ b, fun b h => .inr h, ⟨[dfd df w.heap.size (w.heap.size + 1)], upd (upd (fun _ => none) 500 (some (.pointer (some ⟨w.heap.size, 0, none⟩)))) 501 (some (.pointer (some ⟨w.heap.size + 1, 0, none⟩))), fun id x hp => by
      unfold upd at hp
      split at hp
      · omega
      · split at hp
        · omega
        · cases hp⟩, hmx, Fence.wide, .inl rfl⟩, rfl, rfl, rfl, rfl, rfl⟩
  have hvl : vs.size = args.length := by have := hvs.1; simpa using this.symm
  refine callsIn_wide.1 (callsIn_of_wp_marks (n := 0) hk.hf hk.hb trivial ?_ rfl)
  refine hpre vs w _ hvl ?_
  have hw := h C hFw
  unfold AW at hw
  rw [hFw] at hw
  -- the state behind the head
  have g0 : G (fun b => w.heap.size ≤ b) (fun b => L b ∨ w.heap.size ≤ b) (fun _ => none) w L ρ0 := ⟨fun b hb => ⟨hL b hb, .inl hb⟩, fun b hb => ⟨hb, .inr hb⟩, (fun id o ho => by cases ho), fun i j x y k _ hi => absurd rfl hi, hgl⟩
  obtain ⟨g1, e1⟩ := g0.newBox (id := 500) rfl t1 (us := [z1]) (xs := #[x1]) (.cons (hz1 _ _ _) ho1 .nil)
  obtain ⟨g2, e2⟩ := g1.newBox (id := 501) (by rw [upd_ne _ _ (by omega)]; rfl) t2 (us := [z2]) (xs := #[x2]) (.cons (hz2 _ _ _) ho2 .nil)
  have hs1 : (w.alloc (.cells #[x1] t1)).heap.size = w.heap.size + 1 := Array.size_push _
  rw [hs1] at g2 e2
  obtain ⟨w2, hw2⟩ : ∃ w2, w2 = (w.alloc (.cells #[x1] t1)).alloc (.cells #[x2] t2) := ⟨_, rfl⟩
  rw [← hw2] at g2 e2 ⊢
  have e := e1.trans e2
  have hb02 : Below w.heap.size w w2 := by
    have b1 := below_new w (.cells #[x1] t1)
    have b2 := below_new (w.alloc (.cells #[x1] t1)) (.cells #[x2] t2)
    rw [hw2]
    exact ⟨b2.os.trans b1.os, b2.tape.trans b1.tape, b2.output.trans b1.output, Nat.le_trans b1.size b2.size, fun k hk => (b2.block k (Nat.lt_of_lt_of_le hk b1.size)).trans (b1.block k hk)⟩
  obtain ⟨ρ2, hρ2⟩ : ∃ ρ2 : Nat → Option Value, ρ2 = upd (upd ρ0 500 (some (.pointer (some ⟨w.heap.size, 0, none⟩)))) 501 (some (.pointer (some ⟨w.heap.size + 1, 0, none⟩))) := ⟨_, rfl⟩
  rw [← hρ2] at g2 e2 e
  have r500 : ρ2 500 = some (.pointer (some ⟨w.heap.size, 0, none⟩)) := by rw [hρ2, upd_ne _ _ (by omega), upd_same]
  have r501 : ρ2 501 = some (.pointer (some ⟨w.heap.size + 1, 0, none⟩)) := by rw [hρ2, upd_same]
  have hnt := hk.hn
  refine wpIn_mono (hw _ w2 ⟨L, ρ2, ⟨?_, fun id hid => ?_, fun t => ?_, ?_, ?_, fun id x hp => ?_⟩⟩) ?_
  · rw [hW, hLB]; exact g2
  · have hid' : 1 * 100000 ≤ id := hid
    rw [hρ2, upd_ne _ _ (by omega), upd_ne _ _ (by omega)]; rfl
  · show R w2 L ρ2 (if t = ta then .ref 500 0 else if t = tb then .ref 501 0 else args.getD t .any) _
    have hsz : (vs ++ Array.replicate (fn.ntmps - vs.size) undef).size = N := by simp; omega
    by_cases h1 : t = ta
    · subst h1
      rw [if_pos rfl]
      have : ((((vs ++ Array.replicate (fn.ntmps - vs.size) undef).setIfInBounds t (.pointer (some ⟨w.heap.size, 0, none⟩))).setIfInBounds tb (.pointer (some ⟨w.heap.size + 1, 0, none⟩))).setIfInBounds tf (.func (.func df) #[] #[.pointer (some ⟨w.heap.size, 0, none⟩), .pointer (some ⟨w.heap.size + 1, 0, none⟩)])).getD t undef = .pointer (some ⟨w.heap.size, 0, none⟩) := by
        simp [Array.getD_eq_getD_getElem?, Array.getElem?_setIfInBounds, Ne.symm l8, Ne.symm l7, hsz, l1, -Array.size_append]
      rw [this]
      exact .ref _ _ _ _ r500
    rw [if_neg h1]
    by_cases h2 : t = tb
    · subst h2
      rw [if_pos rfl]
      have : ((((vs ++ Array.replicate (fn.ntmps - vs.size) undef).setIfInBounds ta (.pointer (some ⟨w.heap.size, 0, none⟩))).setIfInBounds t (.pointer (some ⟨w.heap.size + 1, 0, none⟩))).setIfInBounds tf (.func (.func df) #[] #[.pointer (some ⟨w.heap.size, 0, none⟩), .pointer (some ⟨w.heap.size + 1, 0, none⟩)])).getD t undef = .pointer (some ⟨w.heap.size + 1, 0, none⟩) := by
        simp [Array.getD_eq_getD_getElem?, Array.getElem?_setIfInBounds, Ne.symm l9, hsz, l2, -Array.size_append]
      rw [this]
      exact .ref _ _ _ _ r501
    rw [if_neg h2]
    by_cases htl : t < args.length
    · have h3 : args[t]? = some args[t] := List.getElem?_eq_getElem htl
      obtain ⟨x, hx, hr⟩ := hvs.get h3
      have e3 : args.getD t .any = args[t] := by simp [List.getD_eq_getElem?_getD, h3]
      have e4 : ((((vs ++ Array.replicate (fn.ntmps - vs.size) undef).setIfInBounds ta (.pointer (some ⟨w.heap.size, 0, none⟩))).setIfInBounds tb (.pointer (some ⟨w.heap.size + 1, 0, none⟩))).setIfInBounds tf (.func (.func df) #[] #[.pointer (some ⟨w.heap.size, 0, none⟩), .pointer (some ⟨w.heap.size + 1, 0, none⟩)])).getD t undef = x := by
        have h5 : (vs ++ Array.replicate (fn.ntmps - vs.size) undef)[t]? = some x := by
          rw [Array.getElem?_append_left (by omega)]; simpa using hx
        rw [Array.getD_eq_getD_getElem?, Array.getElem?_setIfInBounds, if_neg (by omega), Array.getElem?_setIfInBounds, if_neg (by omega), Array.getElem?_setIfInBounds, if_neg (by omega), h5]
        rfl
      rw [e3, e4]; exact hr.ext e
    · have e3 : args.getD t .any = .any := by simp [List.getD_eq_getElem?_getD, List.getElem?_eq_none (Nat.le_of_not_lt htl)]
      rw [e3]; exact .any _ _
  · simp; omega
  · exact ⟨[], by rw [htl]; rfl, by simp, by simp⟩
  · rw [hd] at hp; rw [hρ2]; exact hp
  · rintro ex a' w' ⟨s', hpost, g', t⟩
    rw [hW] at t
    have hbel : Below w.heap.size w w' := by
      have := t.below (B := w.heap.size) hb02.size fun k hk => by omega
      exact ⟨this.os.trans hb02.os, this.tape.trans hb02.tape, this.output.trans hb02.output, Nat.le_trans hb02.size this.size, fun k hk => (this.block k hk).trans (hb02.block k hk)⟩
    rcases hpost with ⟨he, _, s'', hle, hres', _, hcv, _⟩ | ⟨n, t1', t2', u1, u2, rfl, rfl, hta, htb, h500, h501⟩
    · obtain ⟨L', ρ', g''⟩ := hle C a' w' g'
      obtain ⟨Ds, d1, d2, d3⟩ := g''.defers
      have key : LeavesInM Fence.wide 0 P fn a'.tmps (fun e w' => ∃ x, e = .returned x ∧ Below w.heap.size w w' ∧ ∃ L' ρ', G (fun b => w.heap.size ≤ b) (fun b => L b ∨ w.heap.size ≤ b) (obsF []) w' L' ρ' ∧ (∀ b, L b → L' b) ∧ R w' L' ρ' v x ∧ ∀ (j : Nat), ([] : List Ob).length ≤ j → ρ' j = none) a'.defers .returning w' := by
        rw [d1, htl]
        refine leaves_marksT (by simp) Ds w' d2 (fun D hD => (d3 D hD).1) fun w2' ht2 => ?_
        refine ⟨by simp, .inr ⟨fun e => by simp [Fence.wide] at e, _, _, df, #[.pointer (some ⟨w.heap.size, 0, none⟩), .pointer (some ⟨w.heap.size + 1, 0, none⟩)], rfl, by simp [dfd, invoke, hdf.enter], fun _ _ => trivial, ?_⟩⟩
        have hdi := hdf.idle w.heap.size (w.heap.size + 1) w2'
        refine (show CallsDIn Fence.wide 0 P df _ _ w2' _ from by simpa using hdi).mono ?_
        rintro e u' w3 ⟨⟨x0, rfl⟩, rfl, rfl⟩
        obtain ⟨g3, e3⟩ := g''.g.marks ht2 d3
        obtain ⟨x, hx, hr⟩ := resV_run hT g3 (fun t => (g''.tm t).ext e3) fn hres'
        refine ⟨x, hx, x, rfl, ?_⟩
        have hWD : ∀ D ∈ Ds, w.heap.size ≤ D := fun D hD => by have := (d3 D hD).2.1; rw [hW] at this; exact this
        have hb2 : Below w.heap.size w w3 := ⟨ht2.os.trans hbel.os, ht2.tape.trans hbel.tape, ht2.output.trans hbel.output, Nat.le_trans hbel.size ht2.size, fun k hk => (ht2.block k (Nat.lt_of_lt_of_le hk hbel.size) fun hc => by have := hWD k hc; omega).trans (hbel.block k hk)⟩
        have hr2 : R w3 L' (fun i => ρ' (clamp 0 s''.nx i)) v x := R_ren _ _ _ (by rw [show clamp 0 s''.nx = clamp ([] : List Ob).length s''.nx from rfl, hcv]; exact hr)
        have hE2 : Ext w3 L' (fun i => ρ' (clamp 0 s''.nx i)) w3 (fun b => L' b ∨ L b) (fun i => ρ' (clamp 0 s''.nx i)) := ⟨fun b hb => ⟨.inl hb, rfl⟩, fun _ _ h => h⟩
        refine ⟨hb2, fun b => L' b ∨ L b, fun i => ρ' (clamp 0 s''.nx i), ⟨fun b hb => ?_, fun b hb => ⟨Nat.le_trans hb2.size hb, .inr (Nat.le_trans hb2.size hb)⟩, fun id o ho => by simp [obsF] at ho, fun i j x y k _ hi => by simp [obsF] at hi, g3.glL hE2.l⟩, fun b hb => .inr hb, hr2.ext hE2, fun j hj => ?_⟩
        · rcases hb with hb | hb
          · have := g3.ll b hb
            rw [hLB] at this
            exact ⟨this.1, this.2⟩
          · exact ⟨Nat.lt_of_lt_of_le (hL b hb) hb2.size, .inl hb⟩
        · have e3 : clamp 0 s''.nx j = s''.nx * 100000 + j := if_neg (by omega)
          show ρ' (clamp 0 s''.nx j) = none
          rw [e3]
          exact g''.fr _ (by unfold freshA; omega)
      rcases he with rfl | rfl <;> exact key
    · obtain ⟨L', ρ', g''⟩ := g'
      obtain ⟨Ds, d1, d2, d3⟩ := g''.defers
      have p500 : ρ' 500 = some (.pointer (some ⟨w.heap.size, 0, none⟩)) := g''.pin _ _ (by rw [hd, upd_ne _ _ (by omega), upd_same])
      have p501 : ρ' 501 = some (.pointer (some ⟨w.heap.size + 1, 0, none⟩)) := g''.pin _ _ (by rw [hd, upd_same])
      show LeavesInM Fence.wide 0 P fn a'.tmps _ a'.defers _ w'
      rw [d1, htl]
      refine leaves_marksT (by simp) Ds w' d2 (fun D hD => (d3 D hD).1) fun w2' ht2 => ?_
      obtain ⟨g3, e3⟩ := g''.g.marks ht2 d3
      have tm3 : ∀ t, R w2' L' ρ' (s'.tm t) (a'.tmps.getD t undef) := fun t => (g''.tm t).ext e3
      refine ⟨by simp, .inr ⟨fun e => by simp [Fence.wide] at e, _, _, df, #[.pointer (some ⟨w.heap.size, 0, none⟩), .pointer (some ⟨w.heap.size + 1, 0, none⟩)], rfl, by simp [dfd, invoke, hdf.enter], fun _ _ => trivial, ?_⟩⟩
      have ra := tm3 ta
      rw [hta] at ra
      have rb := tm3 tb
      rw [htb] at rb
      obtain ⟨b1, xs1, ea, eb, _, _, hh1, hl1⟩ := box_of g3 ra h500
      obtain ⟨b2, xs2, ea', eb', _, _, hh2, hl2⟩ := box_of g3 rb h501
      rw [p500] at eb; injection eb with eb; injection eb with eb; injection eb with eb; injection eb with eb
      rw [p501] at eb'; injection eb' with eb'; injection eb' with eb'; injection eb' with eb'; injection eb' with eb'
      subst eb eb'
      obtain ⟨y1, hy1, _⟩ := hl1.get (i := 0) rfl
      obtain ⟨y2, hy2, _⟩ := hl2.get (i := 0) rfl
      have c1 : w2'.cell? ⟨w.heap.size, 0, none⟩ = some y1 := by rw [cell_of_row w2' _ 0 xs1 t1' (0, 0) hh1]; simpa using hy1
      have c2 : w2'.cell? ⟨w.heap.size + 1, 0, none⟩ = some y2 := by rw [cell_of_row w2' _ 0 xs2 t2' (0, 0) hh2]; simpa using hy2
      have hdi := hdf.catch_ w.heap.size (w.heap.size + 1) n y1 y2 w2' c1 (frozen0 hh1) c2 (frozen0 hh2) (by omega)
      refine (show CallsDIn Fence.wide 0 P df _ _ w2' _ from by simpa using hdi).mono ?_
      rintro e u' w3 ⟨⟨x0, rfl⟩, rfl, rfl⟩
      have hWD : ∀ D ∈ Ds, w.heap.size ≤ D := fun D hD => by have := (d3 D hD).2.1; rw [hW] at this; exact this
      have hb2 : Below w.heap.size w w2' := ⟨ht2.os.trans hbel.os, ht2.tape.trans hbel.tape, ht2.output.trans hbel.output, Nat.le_trans hbel.size ht2.size, fun k hk => (ht2.block k (Nat.lt_of_lt_of_le hk hbel.size) fun hc => by have := hWD k hc; omega).trans (hbel.block k hk)⟩
      have ht3 : Tch (fun b => w.heap.size ≤ b) w2' ((w2'.setCell ⟨w.heap.size, 0, none⟩ (.slice none 0 0)).setCell ⟨w.heap.size + 1, 0, none⟩ (.int .i64 n)) :=
        ((Tch.refl _ w2').setCell (p := ⟨w.heap.size, 0, none⟩) (fun _ => Nat.le_refl _) _).setCell (p := ⟨w.heap.size + 1, 0, none⟩) (fun _ => Nat.le_succ _) _
      have hb3 : Below w.heap.size w ((w2'.setCell ⟨w.heap.size, 0, none⟩ (.slice none 0 0)).setCell ⟨w.heap.size + 1, 0, none⟩ (.int .i64 n)) := by
        have := ht3.below (B := w.heap.size) hb2.size fun k hk => by omega
        exact ⟨this.os.trans hb2.os, this.tape.trans hb2.tape, this.output.trans hb2.output, Nat.le_trans hb2.size this.size, fun k hk => (this.block k hk).trans (hb2.block k hk)⟩
      have k1 : ((w2'.setCell ⟨w.heap.size, 0, none⟩ (.slice none 0 0)).setCell ⟨w.heap.size + 1, 0, none⟩ (.int .i64 n)).cell? ⟨w.heap.size, 0, none⟩ = some (.slice none 0 0) := by
        rw [World.cell?_setCell_other _ _ _ _ (by simp)]
        exact World.cell?_setCell_same _ _ _ c1
      have k2 : ((w2'.setCell ⟨w.heap.size, 0, none⟩ (.slice none 0 0)).setCell ⟨w.heap.size + 1, 0, none⟩ (.int .i64 n)).cell? ⟨w.heap.size + 1, 0, none⟩ = some (.int .i64 n) := by
        exact World.cell?_setCell_same (u := y2) _ _ _ (by rw [World.cell?_setCell_other _ _ _ _ (by simp)]; exact c2)
      refine ⟨.tuple #[.slice none 0 0, .int .i64 n], ?_, .tuple #[.slice none 0 0, .int .i64 n], rfl, hb3, L, ρ0, ⟨fun b hb => ⟨Nat.lt_of_lt_of_le (hL b hb) hb3.size, .inl hb⟩, fun b hb => ⟨Nat.le_trans hb3.size hb, .inr (Nat.le_trans hb3.size hb)⟩, fun id o ho => by simp [obsF] at ho, fun i j x y k _ hi => by simp [obsF] at hi, g0.glL fun b hb => ⟨hb, hb3.block b (hL b hb)⟩⟩, fun b hb => hb, .tup' (.cons (.nil _) (.cons (.c _ _) .nil)), fun _ _ => rfl⟩
      rw [results_eq, hres]
      have m1 := run_loadVar1 ha1 k1
      have m2 := run_loadVar1 ha2 k2
      simp [rM, ea, ea', asAddr, m1, m2]
end
end Go.Ab
