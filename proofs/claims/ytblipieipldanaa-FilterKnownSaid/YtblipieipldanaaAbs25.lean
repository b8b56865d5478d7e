/-
  Contracts of functions that turn objects of their caller, for values without addresses. No condition but those that a contract names.
-/
import Derived.Test.YtblipieipldanaaAbs24
import Derived.Test.YtblipieipldanaaMD
namespace Go.Ab
open Go.RowKit Go.Dw

mutual
/-- all names are those of objects that a call is handed -/
def V.inN (n : Nat) : V → Bool
  | .agg cs => V.inNL n cs
  | .tup cs => V.inNL n cs
  | .fn _ a b => V.inNL n a && V.inNL n b
  | .ifc _ v => v.inN n
  | .gd _ v => v.inN n
  | .own i => decide (500 ≤ i) && decide (i < 500 + n)
  | .ref i _ => decide (500 ≤ i) && decide (i < 500 + n)
  | .oel i _ _ _ => decide (500 ≤ i) && decide (i < 500 + n)
  | .osl i _ _ _ => decide (500 ≤ i) && decide (i < 500 + n)
  | _ => true
def V.inNL (n : Nat) : List V → Bool
  | [] => true
  | v :: l => v.inN n && V.inNL n l
end
theorem V.inNL_get {n : Nat} : ∀ {l : List V} (_ : V.inNL n l = true) {i : Nat} {u : V} (_ : l[i]? = some u), u.inN n = true
  | v :: l, h, 0, u, hu => by
    simp at hu; subst hu
    simp only [V.inNL, Bool.and_eq_true] at h
    exact h.1
  | v :: l, h, i + 1, u, hu => by
    simp only [V.inNL, Bool.and_eq_true] at h
    exact V.inNL_get h.2 (by simpa using hu)
theorem R.into {n : Nat} {w : World} {L : Nat → Prop} {ρ : Nat → Option Value} {u : V} {x : Value} (h : R w L ρ u x) : ∀ (_ : u.inN n = true) (ρ' : Nat → Option Value), (∀ id v, 500 ≤ id → id < 500 + n → ρ id = some v → ρ' id = some v) → R w L ρ' u x := by
  induction h with
  | any => exact fun _ _ _ => .any _ _
  | c => exact fun _ _ _ => .c _ _
  | agg ρ cs xs f hl hf hr ih =>
    intro hi ρ' hρ
    simp only [V.inN] at hi
    exact .agg _ _ _ f hl hf fun i u hu => ih i u hu (V.inNL_get hi hu) ρ' hρ
  | tup ρ cs xs f hl hf hr ih =>
    intro hi ρ' hρ
    simp only [V.inN] at hi
    exact .tup _ _ _ f hl hf fun i u hu => ih i u hu (V.inNL_get hi hu) ρ' hρ
  | nil => exact fun _ _ _ => .nil _
  | emp => exact fun _ _ _ => .emp _ _
  | sl0 => exact fun _ _ _ => .sl0 _ _ _ _ _
  | sl ρ sz n row b o c f hb hcap hlen hf hr ih => exact fun _ ρ' _ => .sl _ _ _ _ _ _ _ f hb hcap hlen hf hr
  | ptr ρ cs b o f hb hf hr ih => exact fun _ ρ' _ => .ptr _ _ _ _ f hb hf hr
  | own ρ id x h h1 =>
    intro hi ρ' hρ
    simp only [V.inN, Bool.and_eq_true, decide_eq_true_eq] at hi
    exact .own _ _ _ (hρ _ _ hi.1 hi.2 h) h1
  | ref ρ id off b h =>
    intro hi ρ' hρ
    simp only [V.inN, Bool.and_eq_true, decide_eq_true_eq] at hi
    exact .ref _ _ _ _ (hρ _ _ hi.1 hi.2 h)
  | oel ρ id sz i off b n c h =>
    intro hi ρ' hρ
    simp only [V.inN, Bool.and_eq_true, decide_eq_true_eq] at hi
    exact .oel _ _ _ _ _ _ n c (hρ _ _ hi.1 hi.2 h)
  | osl ρ id sz off k b m c c2 A h hn hA =>
    intro hi ρ' hρ
    simp only [V.inN, Bool.and_eq_true, decide_eq_true_eq] at hi
    exact .osl _ _ _ _ _ _ m c _ _ (hρ _ _ hi.1 hi.2 h) hn hA
  | fn ρ f fs cs xs ys g h hl hm hg hh hr hs ih1 ih2 =>
    intro hi ρ' hρ
    simp only [V.inN, Bool.and_eq_true] at hi
    exact .fn _ _ _ _ _ _ g h hl hm hg hh (fun i u hu => ih1 i u hu (V.inNL_get hi.1 hu) ρ' hρ) fun i u hu => ih2 i u hu (V.inNL_get hi.2 hu) ρ' hρ
  | ifc ρ t u x h ih =>
    intro hi ρ' hρ
    simp only [V.inN] at hi
    exact .ifc _ _ _ _ (ih hi ρ' hρ)
  | gd ρ g u x h h' ih =>
    intro hi ρ' hρ
    simp only [V.inN] at hi
    exact .gd _ _ _ _ (fun hg => ih hg hi ρ' hρ) h'
theorem RV.into {n : Nat} {w : World} {L : Nat → Prop} {ρ ρ' : Nat → Option Value} {us : List V} {xs : List Value} (h : RV w L ρ us xs) (hi : V.inNL n us = true) (hρ : ∀ id v, 500 ≤ id → id < 500 + n → ρ id = some v → ρ' id = some v) : RV w L ρ' us xs :=
  ⟨h.1, fun i u x hu hx => (h.2 i u x hu hx).into (V.inNL_get hi hu) ρ' hρ⟩
theorem RL.into {n : Nat} {w : World} {L : Nat → Prop} {ρ ρ' : Nat → Option Value} {us : List V} {xs : List Value} (h : RL w L ρ us xs) (hi : V.inNL n us = true) (hρ : ∀ id v, 500 ≤ id → id < 500 + n → ρ id = some v → ρ' id = some v) : RL w L ρ' us xs :=
  ⟨h.1, fun i u x hu hx => ⟨(h.2 i u x hu hx).1.into (V.inNL_get hi hu) ρ' hρ, (h.2 i u x hu hx).2⟩⟩
theorem RV_ren {w : World} {L : Nat → Prop} {ρ : Nat → Option Value} (g : Nat → Nat) {us : List V} {xs : List Value} (h : RV w L ρ (V.renL g us) xs) : RV w L (fun i => ρ (g i)) us xs :=
  ⟨by rw [← h.1, V.renL_len], fun i u x hu hx => R_renL g us i u x hu (h.2 i (u.ren g) x (by rw [V.renL_get, hu]; rfl) hx)⟩
/-- an object's names are those of objects that a call is handed -/
def Ob.inN (n : Nat) : Ob → Prop
  | .box _ cs => V.inNL n cs = true
  | .row _ _ m f => ∀ i, i < m → V.inNL n (f i) = true
  | .mp _ f => ∀ k u, f.look k = some u → V.inN n u = true
theorem V.inNL_append {n : Nat} : ∀ {l m : List V}, V.inNL n l = true → V.inNL n m = true → V.inNL n (l ++ m) = true
  | [], m, _, h => h
  | v :: l, m, h, k => by
    simp only [V.inNL, Bool.and_eq_true, List.cons_append] at h ⊢
    exact ⟨h.1, V.inNL_append h.2 k⟩
theorem inN_slRows {k : Nat} {row : Nat → List V} : ∀ n, (∀ i, i < n → V.inNL k (row i) = true) → V.inNL k (slRows n row).flatten = true := by
  intro n h
  have key : ∀ l : List (List V), (∀ x ∈ l, V.inNL k x = true) → V.inNL k l.flatten = true := by
    intro l
    induction l with
    | nil => intro _; rfl
    | cons x l ih => intro h; rw [List.flatten_cons]; exact V.inNL_append (h x (by simp)) (ih fun y hy => h y (by simp [hy]))
  refine key _ fun x hx => ?_
  simp only [slRows, List.mem_map, List.mem_range] at hx
  obtain ⟨i, hi, rfl⟩ := hx
  exact h i hi

/-! ### The contract -/
def insF (ins : List Ob) (id : Nat) : Option Ob := if 500 ≤ id then ins[id - 500]? else none
def outF (outs : List (Option Ob)) (obs : List Ob) (id : Nat) : Option Ob := if 500 ≤ id then (outs[id - 500]?).join else obs[id]?
/-- a call that is handed the objects 'ins' (their names: 500, 501 ..), turns them into 'outs', and makes 'obs' (names 0, 1 ..) -/
def AM (P : Program) (f : FuncId) (args : List V) (ins : List Ob) (v : V) (outs : List (Option Ob)) (obs : List Ob) : Prop :=
  (∀ (args : Array Value) (w : World), (callFunc f args).run P w = .ok (.enter f args) w) ∧
  ∀ (W LB L : Nat → Prop) (w : World) (ρ : Nat → Option Value) (vs : Array Value), (∀ b, W b → LB b) → (∀ b, W b → ¬ L b) → G W LB (insF ins) w L ρ → (∀ id, (id < 500 ∨ 500 + ins.length ≤ id) → ρ id = none) → RV w L ρ args vs.toList →
    Calls P f vs w fun e w' => ∃ x, e = .returned x ∧ Tch W w w' ∧ ∃ L' ρ', G W LB (outF outs obs) w' L' ρ' ∧ Ext w L ρ w' L' ρ' ∧ R w' L' ρ' v x ∧ ∀ j, obs.length ≤ j → (j < 500 ∨ 500 + ins.length ≤ j) → ρ' j = none

def clampM (k n nx i : Nat) : Nat := if i < k ∨ (500 ≤ i ∧ i < 500 + n) then i else nx * 100000 + i
def RetPostM (T : List TI) (fn : Func) (n : Nat) (v : V) (outs : List (Option Ob)) (obs : List Ob) : Exit → S → Prop := fun e s => (e = .normal ∨ e = .ret) ∧ ∃ s', Le s s' ∧ resV T s' fn.results.toList = some v ∧ (∀ i ob, obs[i]? = some ob → s'.σ i = some ob) ∧ (∀ i ob, outs[i]? = some (some ob) → s'.σ (500 + i) = some ob) ∧
  v.ren (clampM obs.length n s'.nx) = v ∧ (∀ ob ∈ obs, ob.ren (clampM obs.length n s'.nx) = ob) ∧ (∀ ob : Ob, some ob ∈ outs → ob.ren (clampM obs.length n s'.nx) = ob)
theorem am_intro {T : List TI} {P : Program} (hT : TabOk T P) (hmx : P.follows .mixedOrders = true) {f : FuncId} {fn : Func} {c : Code} {N : Nat} (hk : FnOk P f fn c N) {args : List V} {ins : List Ob} {v : V} {outs : List (Option Ob)} {obs : List Ob} (hargs : args.length ≤ N) (hn : outs.length = ins.length) (hn4 : ins.length ≤ 400) (_ : obs.length ≤ 90)
    (h : ∀ C : Cx P N, C.F = Fence.wide → AW C c (RetPostM T fn ins.length v outs obs) ⟨fun t => args.getD t .any, insF ins, 1⟩) : AM P f args ins v outs obs := by
  refine ⟨hk.call, fun W LB L w ρ vs hwl hWL hG hρn hvs => ?_⟩
  have hsome : ∀ i, i < ins.length → ∃ ob x, ins[i]? = some ob ∧ insF ins (500 + i) = some ob ∧ ρ (500 + i) = some x ∧ ∀ k, blk x = some k → k < w.heap.size ∧ W k ∧ ¬ L k := by
    intro i hi
    have h1 : ins[i]? = some ins[i] := List.getElem?_eq_getElem hi
    have h2 : insF ins (500 + i) = some ins[i] := by unfold insF; rw [if_pos (by omega), Nat.add_sub_cancel_left]; exact h1
    obtain ⟨x, hx, hx2⟩ := (hG.ob _ _ h2).lt
    exact ⟨_, x, h1, h2, hx, hx2⟩
  obtain ⟨C, hW, hLB, hd, hFw, htl⟩ : ∃ C : Cx P N, C.W = W ∧ C.LB = LB ∧ C.dfs.pin = (fun id => if 500 ≤ id ∧ id < 500 + ins.length then ρ id else none) ∧ C.F = Fence.wide ∧ C.dfs.tl = [] :=
    ⟨⟨W, LB, hwl, ⟨[], fun id => if 500 ≤ id ∧ id < 500 + ins.length then ρ id else none, fun id x hp => by
      split at hp
      · omega
      · cases hp⟩, hmx, Fence.wide, .inl rfl⟩, rfl, rfl, rfl, rfl, rfl⟩
  have hvl : vs.size = args.length := by have := hvs.1; simpa using this.symm
  refine callsIn_wide.1 (callsIn_of_wp_marks (n := 0) hk.hf hk.hb trivial ?_ rfl)
  have hw := h C hFw
  unfold AW at hw
  rw [hFw] at hw
  refine wpIn_mono (hw _ w ⟨L, ρ, ⟨?_, fun id hid => ?_, fun t => ?_, ?_, ?_, fun id x hp => ?_⟩⟩) ?_
  · rw [hW, hLB]; exact hG
  · have hid' : 1 * 100000 ≤ id := hid
    exact hρn id (.inr (by omega))
  · by_cases ht : t < args.length
    · have h1 : args[t]? = some args[t] := List.getElem?_eq_getElem ht
      obtain ⟨x, hx, hr⟩ := hvs.get h1
      have e1 : args.getD t .any = args[t] := by simp [List.getD_eq_getElem?_getD, h1]
      have e2 : (vs ++ Array.replicate (fn.ntmps - vs.size) undef).getD t undef = x := by
        rw [Array.getD_eq_getD_getElem?, Array.getElem?_append_left (by omega)]
        have : vs[t]? = some x := by simpa using hx
        rw [this]; rfl
      show R w L ρ (args.getD t .any) _
      rw [e1, e2]; exact hr
    · have e1 : args.getD t .any = .any := by simp [List.getD_eq_getElem?_getD, List.getElem?_eq_none (Nat.le_of_not_lt ht)]
      show R w L ρ (args.getD t .any) _
      rw [e1]; exact .any _ _
  · rw [← hk.hn] at hargs ⊢
    simp; omega
  · exact ⟨[], by rw [htl]; rfl, by simp, by simp⟩
  · rw [hd] at hp
    simp only at hp
    split at hp
    · exact hp
    · cases hp
  · rintro e a' w' ⟨s', ⟨he, s'', hle, hres, hob, hout, hcv, hco, hcu⟩, g', t⟩
    obtain ⟨L', ρ', g''⟩ := hle C a' w' g'
    rw [hW] at t
    obtain ⟨Ds, d1, d2, d3⟩ := g''.defers
    rw [htl, List.append_nil] at d1
    refine end_marks' Ds he d1 d2 (fun D hD => (d3 D hD).1) fun w2 ht2 => ?_
    obtain ⟨g2, e2⟩ := g''.g.marks ht2 d3
    obtain ⟨x, hx, hr⟩ := resV_run hT g2 (fun t => (g''.tm t).ext e2) fn hres
    have hWD : ∀ D ∈ Ds, W D := fun D hD => by have := (d3 D hD).2.1; rw [hW] at this; exact this
    have tt : Tch W w w2 := t.trans (ht2.mono fun k _ hkD => hWD k hkD)
    refine ⟨x, hx, x, rfl, tt, ?_⟩
    have hr2 : R w2 L' (fun i => ρ' (clampM obs.length ins.length s''.nx i)) v x := R_ren _ _ _ (by rw [hcv]; exact hr)
    have hlt : ∀ i, i < obs.length → clampM obs.length ins.length s''.nx i = i := fun i hi => by unfold clampM; rw [if_pos (.inl hi)]
    have hlt5 : ∀ i, 500 ≤ i → i < 500 + ins.length → clampM obs.length ins.length s''.nx i = i := fun i h1 h2 => by unfold clampM; rw [if_pos (.inr ⟨h1, h2⟩)]
    have hoF : ∀ id o, outF outs obs id = some o → s''.σ id = some o ∧ clampM obs.length ins.length s''.nx id = id ∧ o.ren (clampM obs.length ins.length s''.nx) = o := by
      intro id o ho
      unfold outF at ho
      split at ho
      · rename_i h5
        have ho' : outs[id - 500]? = some (some o) := by
          cases hq : outs[id - 500]? with
          | none => rw [hq] at ho; cases ho
          | some q => rw [hq] at ho; simp at ho; rw [ho]
        have hlt' := (List.getElem?_eq_some_iff.1 ho').1
        refine ⟨?_, hlt5 id h5 (by omega), hcu o (List.mem_of_getElem? ho')⟩
        have := hout (id - 500) o ho'
        rwa [show 500 + (id - 500) = id by omega] at this
      · exact ⟨hob id o ho, hlt id (List.getElem?_eq_some_iff.1 ho).1, hco o (List.mem_of_getElem? ho)⟩
    have hE2 : Ext w2 L' (fun i => ρ' (clampM obs.length ins.length s''.nx i)) w2 (fun b => L' b ∨ L b) (fun i => ρ' (clampM obs.length ins.length s''.nx i)) := ⟨fun b hb => ⟨.inl hb, rfl⟩, fun _ _ h => h⟩
    refine ⟨fun b => L' b ∨ L b, fun i => ρ' (clampM obs.length ins.length s''.nx i), ⟨fun b hb => ?_, fun b hb => ?_, fun id o ho => ?_, fun i j x y k hij hi hj => ?_, g2.glL hE2.l⟩, ⟨fun b hb => ⟨.inr hb, tt.block b (hG.ll b hb).1 fun hc => hWL b hc hb⟩, fun id x hx => ?_⟩, hr2.ext hE2, fun j hj hj5 => ?_⟩
    · rcases hb with hb | hb
      · have := g2.ll b hb
        rw [hLB] at this
        exact ⟨this.1, this.2⟩
      · exact ⟨Nat.lt_of_lt_of_le (hG.ll b hb).1 tt.size, (hG.ll b hb).2⟩
    · exact hG.new b (Nat.le_trans tt.size hb)
    · obtain ⟨q1, q2, q3⟩ := hoF id o ho
      have hr0 := g2.ob id o q1
      rw [hW] at hr0
      have hr : Real W w2 L' (fun i => ρ' (clampM obs.length ins.length s''.nx i)) id o := Real.ren (by rw [q2, q3]; exact hr0)
      obtain ⟨y, hy, hy2⟩ := hr.lt
      refine hr.keep hE2 fun x k hx hk => ?_
      rw [hx] at hy; injection hy with hy; subst hy
      refine ⟨rfl, ?_⟩
      rintro (h1 | h1)
      · exact (hy2 k hk).2.2 h1
      · exact hWL k (hy2 k hk).2.1 h1
    · have key : ∀ i, outF outs obs i ≠ none → s''.σ i ≠ none ∧ clampM obs.length ins.length s''.nx i = i := fun i hi => by
        cases ho : outF outs obs i with
        | none => exact absurd ho hi
        | some o => obtain ⟨q1, q2, _⟩ := hoF i o ho; exact ⟨by rw [q1]; simp, q2⟩
      simp only [(key i hi).2, (key j hj).2]
      exact g2.sep i j x y k hij (key i hi).1 (key j hj).1
    · show ρ' (clampM obs.length ins.length s''.nx id) = some x
      by_cases h5 : 500 ≤ id ∧ id < 500 + ins.length
      · rw [hlt5 id h5.1 h5.2]
        exact g''.pin id x (by rw [hd]; simp only; rw [if_pos h5]; exact hx)
      · rw [hρn id (by omega)] at hx; cases hx
    · have e3 : clampM obs.length ins.length s''.nx j = s''.nx * 100000 + j := if_neg (by omega)
      show ρ' (clampM obs.length ins.length s''.nx j) = none
      rw [e3]
      exact g''.fr _ (by unfold freshA; omega)

/-! ### The call -/
def nameG (nx : Nat) (d : Option Tmp) (ns : List Nat) (id : Nat) : Nat := if 500 ≤ id then ns.getD (id - 500) (nx * 100000 + 1000 * id + d.getD 0) else callG nx d id
def outD (g : Nat → Nat) : List Nat → List (Option Ob) → List (Nat × Option Ob)
  | k :: ks, o :: os => (k, o.map (Ob.ren g)) :: outD g ks os
  | _, _ => []
def preD : List Nat → List Ob → List (Nat × Ob)
  | k :: ks, o :: os => (k, o) :: preD ks os
  | _, _ => []
theorem upds_append (σ : Nat → Option Ob) : ∀ l m : List (Nat × Option Ob), upds σ (l ++ m) = upds (upds σ l) m
  | [], m => rfl
  | (k, o) :: l, m => by simp only [List.cons_append, upds]; exact upds_append _ l m
theorem outD_in (g : Nat → Nat) : ∀ (ns : List Nat) (os : List (Option Ob)) (σ : Nat → Option Ob) (id : Nat) (o : Ob), ns.Nodup → os.length = ns.length → upds σ (outD g ns os) id = some o → (∃ (i : Nat) (ob : Ob), ns[i]? = some id ∧ os[i]? = some (some ob) ∧ o = ob.ren g) ∨ (σ id = some o ∧ id ∉ ns)
  | [], os, σ, id, o, _, _, h => .inr ⟨by simpa [outD, upds] using h, by simp⟩
  | n :: ns, [], σ, id, o, _, hl, h => by simp at hl
  | n :: ns, x :: os, σ, id, o, hn, hl, h => by
    rw [outD, upds] at h
    have hn' := List.nodup_cons.1 hn
    rcases outD_in g ns os _ id o hn'.2 (by simpa using hl) h with ⟨i, ob, h1, h2, h3⟩ | ⟨h1, h2⟩
    · exact .inl ⟨i + 1, ob, by simpa using h1, by simpa using h2, h3⟩
    · by_cases he : id = n
      · subst he
        rw [upd_same] at h1
        cases x with
        | none => cases h1
        | some x => simp at h1; exact .inl ⟨0, x, rfl, rfl, h1.symm⟩
      · rw [upd_ne _ _ he] at h1
        exact .inr ⟨h1, by simp [he, h2]⟩
theorem preD_in : ∀ {ns : List Nat} {os : List Ob} {i : Nat} {n : Nat} {o : Ob}, ns[i]? = some n → os[i]? = some o → (n, o) ∈ preD ns os
  | [], _, _, _, _, h, _ => by simp at h
  | _ :: _, [], _, _, _, _, h => by simp at h
  | a :: ns, b :: os, 0, n, o, h, k => by simp at h k; subst h k; simp [preD]
  | a :: ns, b :: os, i + 1, n, o, h, k => by
    simp at h k
    exact List.mem_cons_of_mem _ (preD_in h k)

section
variable {P : Program} {W LB : Nat → Prop} {d : Option Tmp} {ty : TypeId} {pos : String} {af : Array Edge} {gd : Option (Nat × Bool)} {ev : Operand → V}
theorem as_callM {fo : Operand} {ar : Array Operand} {ats : Array TypeId} {f : FuncId} {first caps args : List V} {ins ins' : List Ob} {v : V} {outs : List (Option Ob)} {obs : List Ob} (hc : AM P f args ins v outs obs) (hwl : ∀ b, W b → LB b) (ns : List Nat) (hf : ev fo = .fn (.func f) first caps) (nx : Nat)
    (hargs : first ++ ar.toList.map ev ++ caps = V.renL (nameG nx d ns) args) (hin : V.inNL ins.length args = true) (hd : d.all (fun t => decide (t < 1000)) = true) (hobs : obs.length ≤ 90)
    (hns : ns.Nodup) (hnl : ns.length = ins.length) (hol : outs.length = ins.length) (hil : ins'.length = ins.length) (hins : ∀ (i : Nat) (o o' : Ob), ins[i]? = some o → ins'[i]? = some o' → ObEq o' (o.ren (nameG nx d ns)) ∧ o.inN ins.length) :
    AStep P W LB ⟨d, .call { callee := .value fo, args := ar, argTypes := ats }, ty, pos, af, gd⟩ ev (v.ren (nameG nx d ns)) (preD ns ins') ((List.range obs.length).map (callG nx d)) (outD (nameG nx d ns) ns outs ++ callD (nameG nx d ns) 0 obs) := by
  intro σ w L ρ g hG hr hpre hnew
  have h1 := hr fo (by simp [Op.operands, Call.operands])
  rw [hf] at h1
  obtain ⟨xs, ys, e1, hx, hy⟩ := h1.fn_inv
  have hz : RV w L ρ (ar.toList.map ev) (ar.map g).toList := by
    refine ⟨by simp, fun i u x hu hx => ?_⟩
    simp only [List.getElem?_map, Option.map_eq_some_iff, Array.toList_map] at hu hx
    obtain ⟨p, hp, rfl⟩ := hu
    obtain ⟨q, hq, rfl⟩ := hx
    rw [hp] at hq
    injection hq with hq
    subst hq
    exact hr p (by simp only [Op.operands, Call.operands]; have := List.mem_of_getElem? hp; simp at this ⊢; exact .inr this)
  obtain ⟨G0, hG0⟩ : ∃ G0, G0 = nameG nx d ns := ⟨_, rfl⟩
  rw [← hG0] at hargs hins ⊢
  obtain ⟨n, hn⟩ : ∃ n, n = ins.length := ⟨_, rfl⟩
  rw [← hn] at hin hnl hol hil hins
  have gpin : ∀ i, i < n → ∃ m, ns[i]? = some m ∧ G0 (500 + i) = m := by
    intro i hi
    have h2 : ns[i]? = some ns[i] := List.getElem?_eq_getElem (by omega)
    refine ⟨_, h2, ?_⟩
    rw [hG0]; unfold nameG
    rw [if_pos (by omega), Nat.add_sub_cancel_left, List.getD_eq_getElem?_getD, h2]; rfl
  have gnew : ∀ j, j < 500 → G0 j = callG nx d j := fun j hj => by rw [hG0]; unfold nameG; rw [if_neg (by omega)]
  -- the objects that are handed
  have hobj : ∀ i, i < n → ∃ m o o' x, ns[i]? = some m ∧ G0 (500 + i) = m ∧ ins[i]? = some o ∧ σ m = some o' ∧ ObEq o' (o.ren G0) ∧ o.inN n ∧ Real W w L ρ m o' ∧ ρ m = some x ∧ ∀ k, blk x = some k → k < w.heap.size ∧ W k ∧ ¬ L k := by
    intro i hi
    obtain ⟨m, hm, hgm⟩ := gpin i hi
    have h2 : ins[i]? = some ins[i] := List.getElem?_eq_getElem (by omega)
    have h3 : ins'[i]? = some ins'[i] := List.getElem?_eq_getElem (by omega)
    have h4 := hpre _ (preD_in hm h3)
    obtain ⟨h5, h6⟩ := hins i _ _ h2 h3
    have h7 := hG.ob m _ h4
    obtain ⟨x, hx, hx2⟩ := h7.lt
    exact ⟨m, _, _, x, hm, hgm, h2, h4, h5, h6, h7, hx, hx2⟩
  obtain ⟨ρ1, hρ1⟩ : ∃ ρ1 : Nat → Option Value, ∀ id, ρ1 id = if 500 ≤ id ∧ id < 500 + n then ρ (G0 id) else none := ⟨_, fun _ => rfl⟩
  have hρ1p : ∀ i, i < n → ρ1 (500 + i) = ρ (G0 (500 + i)) := fun i hi => by rw [hρ1, if_pos (by omega)]
  have hinto : ∀ id v, 500 ≤ id → id < 500 + n → (fun i => ρ (G0 i)) id = some v → ρ1 id = some v := fun id v h5 h6 h7 => by rw [hρ1, if_pos ⟨h5, h6⟩]; exact h7
  have hrv : RV w L ρ1 args (xs ++ ar.map g ++ ys).toList := by
    have := (hx.append hz).append hy
    rw [hargs] at this
    exact (RV_ren G0 (by simpa using this)).into hin hinto
  obtain ⟨W1, hW1⟩ : ∃ W1 : Nat → Prop, ∀ b, W1 b ↔ (∃ i x, i < n ∧ ρ1 (500 + i) = some x ∧ blk x = some b) ∨ w.heap.size ≤ b := ⟨_, fun _ => Iff.rfl⟩
  have hW1old : ∀ b, W1 b → b < w.heap.size → W b ∧ ¬ L b ∧ ∃ i m x, i < n ∧ ns[i]? = some m ∧ σ m ≠ none ∧ ρ m = some x ∧ blk x = some b := by
    intro b hb hlt
    rcases (hW1 b).1 hb with ⟨i, x, hi, hx, hbx⟩ | h
    · obtain ⟨m, o, o', x', q1, q2, q3, q4, q5, q6, q7, q8, q9⟩ := hobj i hi
      rw [hρ1p i hi, q2, q8] at hx
      injection hx with hx; subst hx
      exact ⟨(q9 b hbx).2.1, (q9 b hbx).2.2, i, m, _, hi, q1, by rw [q4]; simp, q8, hbx⟩
    · omega
  have hW1W : ∀ b, W1 b → W b := fun b hb => by
    by_cases hlt : b < w.heap.size
    · exact (hW1old b hb hlt).1
    · exact (hG.new b (by omega)).1
  have hW1L : ∀ b, W1 b → ¬ L b := fun b hb hL => by
    have hlt := (hG.ll b hL).1
    exact (hW1old b hb hlt).2.1 hL
  -- the callee's own view
  have hinsF : ∀ id o, insF ins id = some o → ∃ i, i < n ∧ id = 500 + i ∧ ins[i]? = some o := by
    intro id o ho
    unfold insF at ho
    split at ho
    · exact ⟨id - 500, by rw [hn]; exact (List.getElem?_eq_some_iff.1 ho).1, by omega, ho⟩
    · cases ho
  have hG1 : G W1 (fun b => L b ∨ W1 b) (insF ins) w L ρ1 := by
    refine ⟨fun b hb => ⟨(hG.ll b hb).1, .inl hb⟩, fun b hb => ?_, fun id o ho => ?_, fun i j x y k hij hi hj hx hy hk => ?_, hG.gl⟩
    · have : W1 b := (hW1 b).2 (.inr hb)
      exact ⟨this, .inr this⟩
    · obtain ⟨i, hi, rfl, hio⟩ := hinsF id o ho
      obtain ⟨m, o2, o', x, q1, q2, q3, q4, q5, q6, q7, q8, q9⟩ := hobj i hi
      rw [hio] at q3; injection q3 with q3; subst q3
      have hre : Real W w L (fun i => ρ (G0 i)) (500 + i) o := Real.ren (by rw [q2]; exact q7.eq q5)
      have hbW : ∀ k, blk x = some k → W1 k ∧ ¬ L k := fun k hk => ⟨(hW1 k).2 (.inl ⟨i, x, hi, by rw [hρ1p i hi, q2]; exact q8, hk⟩), (q9 k hk).2.2⟩
      have hxe : (fun i => ρ (G0 i)) (500 + i) = some x := by show ρ (G0 (500 + i)) = some x; rw [q2]; exact q8
      cases o with
      | box t cs =>
        obtain ⟨b, ys', r1, r2, r3, r4, r5⟩ := hre
        have e0 := r1
        rw [hxe] at e0; injection e0 with e0
        have := hbW b (by rw [e0]; rfl)
        exact ⟨b, ys', hinto _ _ (by omega) (by omega) r1, this.1, r3, r4, r5.into q6 hinto⟩
      | row e sz nn row =>
        obtain ⟨y, ys', r1, r2, r3, r4, r5⟩ := hre
        have e0 := r1
        rw [hxe] at e0; injection e0 with e0; subst e0
        exact ⟨_, ys', hinto _ _ (by omega) (by omega) r1, r2, r3, r4.into (inN_slRows _ q6) hinto, fun k hk => hbW k hk⟩
      | mp str f =>
        obtain ⟨b, es, cl, r1, r2, r3, r4, r5⟩ := hre
        have e0 := r1
        rw [hxe] at e0; injection e0 with e0
        have := hbW b (by rw [e0]; rfl)
        exact ⟨b, es, cl, hinto _ _ (by omega) (by omega) r1, this.1, r3, r4, r5.imp fun i u x hu hr => hr.into (q6 i u hu) _ hinto⟩
    · cases hoi : insF ins i with
      | none => exact absurd hoi hi
      | some oi =>
        cases hoj : insF ins j with
        | none => exact absurd hoj hj
        | some oj =>
          obtain ⟨a, ha, rfl, _⟩ := hinsF i oi hoi
          obtain ⟨b, hb, rfl, _⟩ := hinsF j oj hoj
          obtain ⟨m, o2, o', x', q1, q2, q3, q4, q5, q6, q7, q8, q9⟩ := hobj a ha
          obtain ⟨m', o2', o'', x'', p1, p2, p3, p4, p5, p6, p7, p8, p9⟩ := hobj b hb
          rw [hρ1p a ha, q2] at hx
          rw [hρ1p b hb, p2] at hy
          refine hG.sep m m' x y k (fun e => hij ?_) (by rw [q4]; simp) (by rw [p4]; simp) hx hy hk
          subst e
          have l1 := List.getElem?_eq_some_iff.1 q1
          have l2 := List.getElem?_eq_some_iff.1 p1
          obtain ⟨l1a, l1b⟩ := l1
          obtain ⟨l2a, l2b⟩ := l2
          have pw := List.pairwise_iff_getElem.1 hns
          have : a = b := by
            rcases Nat.lt_trichotomy a b with h | h | h
            · exact absurd (l1b.trans l2b.symm) (pw a b l1a l2a h)
            · exact h
            · exact absurd (l2b.trans l1b.symm) (pw b a l2a l1a h)
          rw [this]
  have hrun : (execOp g ⟨d, .call { callee := .value fo, args := ar, argTypes := ats }, ty, pos, af, gd⟩).run P w = .ok (.enter f (xs ++ ar.map g ++ ys)) w := by
    simp [execOp, resolve, Deferred.ofValue, invoke, e1, hc.1]
  refine OpDoes.enter rfl hrun ((hc.2 W1 (fun b => L b ∨ W1 b) L w ρ1 _ (fun b h => .inr h) hW1L hG1 (fun id hid => by rw [hρ1, if_neg (by rw [← hn] at hid; omega)]) hrv).mono ?_)
  rintro e w' ⟨x, rfl, tt, L', ρ', hG', hE', hv, hnn⟩
  obtain ⟨D, hD, hd'⟩ : ∃ D : Nat, d.getD 0 = D ∧ D < 1000 := ⟨_, rfl, by cases d with | none => decide | some t => simpa using hd⟩
  have ginj : ∀ i j, callG nx d i = callG nx d j → i = j := fun i j h => by unfold callG at h; rw [hD] at h; omega
  have hpinE : ∀ i, i < n → ρ' (500 + i) = ρ (G0 (500 + i)) := by
    intro i hi
    obtain ⟨m, o, o', x', q1, q2, q3, q4, q5, q6, q7, q8, q9⟩ := hobj i hi
    rw [q2, q8]
    exact hE'.r _ _ (by rw [hρ1p i hi, q2]; exact q8)
  obtain ⟨ρ2, hρ2⟩ : ∃ ρ2 : Nat → Option Value, ρ2 = fun id => if id ∈ (List.range obs.length).map (callG nx d) then ρ' ((id - nx * 100000) / 1000) else ρ id := ⟨_, rfl⟩
  have hgi : ∀ j, j < obs.length → ρ2 (callG nx d j) = ρ' j := by
    intro j hj
    have : (callG nx d j - nx * 100000) / 1000 = j := by unfold callG; rw [hD]; omega
    rw [hρ2]
    simp only
    rw [if_pos (List.mem_map.2 ⟨j, by simpa using hj, rfl⟩), this]
  have hout : ∀ id, id ∉ (List.range obs.length).map (callG nx d) → ρ2 id = ρ id := by
    intro id hid; rw [hρ2]; simp only; rw [if_neg hid]
  have hkeep : ∀ id y, ρ id = some y → ρ2 id = some y := fun id y hy => by
    rw [hout id (fun hc => by rw [hnew id hc] at hy; cases hy)]; exact hy
  have hon : ∀ j y, ρ' j = some y → ρ2 (G0 j) = some y := by
    intro j y hy
    by_cases hj : j < obs.length
    · rw [gnew j (by omega), hgi j hj]; exact hy
    · by_cases h5 : 500 ≤ j ∧ j < 500 + n
      · have e5 : j = 500 + (j - 500) := by omega
        rw [e5, hpinE (j - 500) (by omega)] at hy
        rw [e5]
        exact hkeep _ _ hy
      · rw [hnn j (by omega) (by rw [← hn]; omega)] at hy; cases hy
  have ex : Ext w L ρ w' L' ρ2 := ⟨hE'.l, hkeep⟩
  have hLL : ∀ b, L' b → L b ∨ W1 b := fun b hb => (hG'.ll b hb).2
  have hofD : ∀ D', w.heap[D']? = some (.deferred (some [])) → ¬ W1 D' := fun D' hD' hc => by
    have hlt := (Array.getElem?_eq_some_iff.1 hD').1
    obtain ⟨_, _, i, m, y, _, _, hs, hy, hbk⟩ := hW1old D' hc hlt
    cases hso : σ m with
    | none => exact hs hso
    | some o => exact (hG.ob m o hso).no_deferred hy hbk hD'
  have names : ∀ (id : Nat) (o : Ob), upds σ (outD G0 ns outs ++ callD G0 0 obs) id = some o → (∃ j ob, outF outs obs j = some ob ∧ id = G0 j ∧ o = ob.ren G0) ∨ (σ id = some o ∧ id ∉ ns ∧ id ∉ (List.range obs.length).map (callG nx d)) := by
    intro id o ho
    rw [upds_append] at ho
    have key : ∀ (obs' : List Ob) (j0 : Nat) (σ : Nat → Option Ob), upds σ (callD G0 j0 obs') id = some o → (∃ j ob, obs'[j]? = some ob ∧ id = G0 (j0 + j) ∧ o = ob.ren G0) ∨ (σ id = some o ∧ ∀ j, j < obs'.length → id ≠ G0 (j0 + j)) := by
      intro obs'
      induction obs' with
      | nil => intro j0 σ ho; exact .inr ⟨ho, fun j hj => by simp at hj⟩
      | cons ob obs' ih =>
        intro j0 σ ho
        rw [callD, upds] at ho
        rcases ih (j0 + 1) _ ho with ⟨j, ob', h1, h2, h3⟩ | ⟨h1, h2⟩
        · exact .inl ⟨j + 1, ob', by simpa using h1, by rw [h2]; congr 1; omega, h3⟩
        · by_cases he : id = G0 j0
          · subst he
            rw [upd_same] at h1; injection h1 with h1
            exact .inl ⟨0, ob, rfl, rfl, h1.symm⟩
          · rw [upd_ne _ _ he] at h1
            refine .inr ⟨h1, fun j hj => ?_⟩
            cases j with
            | zero => exact he
            | succ j => have := h2 j (by simpa using hj); rwa [show j0 + (j + 1) = j0 + 1 + j by omega]
    rcases key obs 0 _ ho with ⟨j, ob, h1, h2, h3⟩ | ⟨h1, h2⟩
    · have hj := (List.getElem?_eq_some_iff.1 h1).1
      refine .inl ⟨j, ob, ?_, by rw [h2, Nat.zero_add], h3⟩
      unfold outF; rw [if_neg (by omega)]; exact h1
    · rcases outD_in G0 ns outs σ id o hns (by omega) h1 with ⟨i, ob, p1, p2, p3⟩ | ⟨p1, p2⟩
      · have hi : i < n := by have := (List.getElem?_eq_some_iff.1 p1).1; omega
        obtain ⟨m, hm, hgm⟩ := gpin i hi
        rw [p1] at hm; injection hm with hm
        refine .inl ⟨500 + i, ob, ?_, by rw [hgm, hm], p3⟩
        unfold outF; rw [if_pos (by omega), Nat.add_sub_cancel_left, p2]; rfl
      · refine .inr ⟨p1, p2, fun hc => ?_⟩
        obtain ⟨j, hj, rfl⟩ := List.mem_map.1 hc
        have hj' : j < obs.length := by simpa using hj
        exact h2 j hj' (by rw [Nat.zero_add, gnew j (by omega)])
  -- what was not handed stands
  have oldb : ∀ i y k, σ i ≠ none → i ∉ ns → ρ i = some y → blk y = some k → k < w.heap.size ∧ ¬ W1 k := by
    intro i y k hs hni hy hk
    cases ho : σ i with
    | none => exact absurd ho hs
    | some o =>
      obtain ⟨y', hy', hlt⟩ := (hG.ob i o ho).lt
      rw [hy] at hy'; injection hy' with hy'; subst hy'
      refine ⟨(hlt k hk).1, fun hc => ?_⟩
      obtain ⟨_, _, a, m, z, _, hm, hsm, hz, hbz⟩ := hW1old k hc (hlt k hk).1
      exact hG.sep i m y z k (fun e => hni (by rw [e]; exact List.mem_of_getElem? hm)) hs hsm hy hz hk hbz
  refine ⟨x, rfl, L', ρ2, ⟨fun b hbl => ?_, fun b hbs => hG.new b (Nat.le_trans tt.size hbs), fun id o ho => ?_, ?_, hG.glE ex⟩, R_renOn _ hon hv, tt.mono fun k _ hk => hW1W k hk, ex, fun id hid => hout id hid, fun D' hD' => ⟨(tt.block D' (Array.getElem?_eq_some_iff.1 hD').1 (hofD D' hD')).trans hD', fun hl => (hLL D' hl).resolve_right (hofD D' hD')⟩⟩
  · refine ⟨(hG'.ll b hbl).1, ?_⟩
    rcases hLL b hbl with h | h
    · exact (hG.ll b h).2
    · exact hwl b (hW1W b h)
  · rcases names id o ho with ⟨j, ob, h1, h2, h3⟩ | ⟨h1, h2, h2'⟩
    · subst h2 h3
      exact (hG'.ob j ob h1).renOn _ hon hW1W
    · have hk := hG.ob id o h1
      refine hk.keep ex fun y k hy hk2 => ?_
      obtain ⟨y', hy', hlt⟩ := hk.lt
      rw [hy] at hy'; injection hy' with hy'; subst hy'
      obtain ⟨l1, l2, l3⟩ := hlt k hk2
      have hnw := (oldb id y k (by rw [h1]; simp) h2 hy hk2).2
      exact ⟨tt.block k l1 hnw, fun hc => (hLL k hc).elim l3 hnw⟩
  · intro i j y z k hij hi hj hyi hzj hk hkz
    have cases' : ∀ i, upds σ (outD G0 ns outs ++ callD G0 0 obs) i ≠ none → (∃ q ob, outF outs obs q = some ob ∧ i = G0 q) ∨ (σ i ≠ none ∧ i ∉ ns ∧ i ∉ (List.range obs.length).map (callG nx d)) := by
      intro i hi
      cases ho : upds σ (outD G0 ns outs ++ callD G0 0 obs) i with
      | none => exact absurd ho hi
      | some o =>
        rcases names i o ho with ⟨q, ob, h1, h2, h3⟩ | ⟨h1, h2, h3⟩
        · exact .inl ⟨q, ob, h1, h2⟩
        · exact .inr ⟨by rw [h1]; simp, h2, h3⟩
    have newb : ∀ q ob y k, outF outs obs q = some ob → ρ2 (G0 q) = some y → blk y = some k → ρ' q = some y ∧ W1 k := by
      intro q ob y k ho hy hk
      obtain ⟨y', hy', hlt⟩ := (hG'.ob q ob ho).lt
      have := hon q y' hy'
      rw [hy] at this; injection this with this; subst this
      exact ⟨hy', (hlt k hk).2.1⟩
    rcases cases' i hi with ⟨q, ob, h1, rfl⟩ | ⟨h1, h2, h3⟩
    · rcases cases' j hj with ⟨q', ob', h1', rfl⟩ | ⟨h1', h2', h3'⟩
      · have a1 := newb q ob y k h1 hyi hk
        have a2 := newb q' ob' z k h1' hzj hkz
        exact hG'.sep q q' y z k (fun e => hij (by rw [e])) (by rw [h1]; simp) (by rw [h1']; simp) a1.1 a2.1 hk hkz
      · have a1 := newb q ob y k h1 hyi hk
        rw [hout j h3'] at hzj
        exact (oldb j z k h1' h2' hzj hkz).2 a1.2
    · rcases cases' j hj with ⟨q', ob', h1', rfl⟩ | ⟨h1', h2', h3'⟩
      · have a1 := newb q' ob' z k h1' hzj hkz
        rw [hout i h3] at hyi
        exact (oldb i y k h1 h2 hyi hk).2 a1.2
      · rw [hout i h3] at hyi
        rw [hout j h3'] at hzj
        exact hG.sep i j y z k hij h1 h1' hyi hzj hk hkz
end
end Go.Ab
