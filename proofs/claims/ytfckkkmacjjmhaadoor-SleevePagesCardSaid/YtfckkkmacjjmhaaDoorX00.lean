/-
  Several texts in one: A row that is not written any more, seen also where a cell holds it; what is handed back out of cells. No condition. .. A contract that reads a slice, for a row of the caller's that is not written any more. No condition.
-/
import Derived.LoopNIn
import Derived.Test.YtfckkkmacjjmhaaDoorMD
import Derived.Test.YtfckkkmacjjmhaaDoorMB
import Derived.Test.YtfckkkmacjjmhaaDoorAbs42
namespace Go.Ab
open Go.RowKit Go.Dw
def Ob.fz (id : Nat) (v : V) : Ob → Ob
 | .box t cs => .box t (V.fzL id v cs)
 | .row e sz n r => .row e sz n r
 | .mp s f => .mp s (f.map (V.fz id v))
def fzS (σ : Nat → Option Ob) (id : Nat) (v : V) : Nat → Option Ob := fun i => if i = id then none else (σ i).map (Ob.fz id v)
theorem Le.freezeIn {s : S} (id : Nat) {e sz n : Nat} {row row' : Nat → List V} (hσ : s.σ id = some (.row e sz n row)) (hi : ∀ i, i < n → V.idfL (row i) = true) (he' : ∀ i, i < n → row i = row' i) :
  Le s ⟨fun t => V.fz id (.sl sz n row') (s.tm t), fzS s.σ id (.sl sz n row'), s.nx⟩ := by
 intro P N C a w ⟨L, ρ, h⟩
 obtain ⟨v, xs, hv, hown, hsz, hl, hb⟩ := h.g.ob id _ hσ
 have hlt := (h.g.ob id _ hσ).lt
 obtain ⟨v', hv', hlt⟩ := hlt
 rw [hv] at hv'; injection hv' with hv'; subst hv'
 have ex : Ext w L ρ w (fun b => L b ∨ blk v = some b) ρ := ⟨fun b hb => ⟨.inl hb, rfl⟩, fun _ _ h => h⟩
 have h0 : ∀ y, ρ id = some y → R w (fun b => L b ∨ blk v = some b) ρ (.sl sz n row') y := by
  intro y hy
  refine R_rows (row := row) ?_ he'
  rw [hv] at hy; injection hy with hy; subst hy
  obtain ⟨A, c, hA⟩ : ∃ A c, v = .slice A n c := by
   rcases hown.2 with ⟨h1, h2⟩ | ⟨g', cap, cur, h1, _⟩
   ·
    exact ⟨_, _, by rw [h1, h2]⟩
   ·
    exact ⟨_, _, h1⟩
  have hcap : n ≤ c := by
   rcases hown.2 with ⟨h1, h2⟩ | ⟨g', cap, cur, h1, _, _, h3, _⟩
   ·
    omega
   ·
    rw [h1] at hA; injection hA with _ _ hA3; omega
  rw [hA]
  refine .sl' hcap fun hpos => ?_
  rcases hown.2 with ⟨_, h2⟩ | ⟨g', cap, cur, h1, _, hh, hc1, hc2, hc3, hc4⟩
  ·
   omega
  ·
   rw [h1] at hA
   injection hA with hA1 hA2 hA3
   refine ⟨g', 0, hA1.symm, .inr (by rw [← hA1]; rfl), fun i hi => ?_, fun i j u hil hu => ?_⟩
   ·
    exact hsz i hi
   ·
    have hj : j < sz := by rw [← hsz i hil]; exact (List.getElem?_eq_some_iff.1 hu).1
    have hfl : (slRows n row).flatten[i * sz + j]? = some u := by rw [flat_get (slRows_sz hsz) (slRows_get hil) hj, hu]
    obtain ⟨y, hy, hry, hone⟩ := hl.get hfl
    refine ⟨y, ?_, hone, (hry.free (V.idfL_get (hi i hil) hu) ρ0).ext ⟨fun b hb => ⟨.inl hb, rfl⟩, fun _ _ h => h⟩⟩
    rw [cell_of_row w g' _ cur e (0, 0) hh, Nat.zero_add]
    rw [← hc4, List.getElem?_take] at hy
    split at hy
    ·
     simpa using hy
    ·
     cases hy
 refine ⟨fun b => L b ∨ blk v = some b, ρ, ⟨⟨fun b hbl => ?_, h.g.new, fun id' o (ho : fzS s.σ id _ id' = some o) => ?_, ?_, h.g.glE ex⟩, h.fr, fun t => R_fz h0 _ _ ((h.tm t).ext ex), h.size, ?_, h.pin⟩⟩
 ·
  rcases hbl with hbl | hbl
  ·
   exact h.g.ll b hbl
  ·
   exact ⟨(hlt b hbl).1, C.wl b (hlt b hbl).2.1⟩
 ·
  by_cases he : id' = id
  ·
   subst he; rw [fzS, if_pos rfl] at ho; cases ho
  ·
   rw [fzS, if_neg he] at ho
   cases ho' : s.σ id' with
   | none => rw [ho'] at ho; cases ho
   | some o' =>
   rw [ho'] at ho
   injection ho with ho
   subst ho
   have k := (h.g.ob id' o' ho').keep ex fun x k hx hk => ⟨rfl, by
    rintro (hL | hL)
    ·
     obtain ⟨y, hy, hy2⟩ := (h.g.ob id' o' ho').lt
     rw [hx] at hy; injection hy with hy; subst hy
     exact (hy2 k hk).2.2 hL
    ·
     exact h.g.sep id' id x v k he (by rw [ho']; simp) (by rw [hσ]; simp) hx hv hk hL⟩
   cases o' with
   | row _ _ _ _ => exact k
   | mp str f =>
    obtain ⟨B, es, cl, hv', hBW, hBL, hh, hl⟩ := k
    exact ⟨B, es, cl, hv', hBW, hBL, hh, hl.mapF (fun v => by rw [V.fz]) fun i u x _ hr => R_fz h0 _ _ hr⟩
   | box t cs =>
    obtain ⟨B, xs, hv', hBW, hBL, hh, hl⟩ := k
    refine ⟨B, xs, hv', hBW, hBL, hh, ⟨by rw [← hl.1, V.fzL_len], fun i u x hu hx => ?_⟩⟩
    rw [V.fzL_get] at hu
    cases hc : cs[i]? with
    | none => rw [hc] at hu; cases hu
    | some u' =>
     rw [hc] at hu
     injection hu with hu
     subst hu
     obtain ⟨q1, q2⟩ := hl.2 i u' x hc hx
     exact ⟨R_fz h0 _ _ q1, q2⟩
 ·
  intro i j x y k hij hi' hj hx hy hk
  refine h.g.sep i j x y k hij (fun hc => hi' ?_) (fun hc => hj ?_) hx hy hk
  ·
   show fzS s.σ id _ i = none
   rw [fzS, hc]
   split <;> rfl
  ·
   show fzS s.σ id _ j = none
   rw [fzS, hc]
   split <;> rfl
 ·
  obtain ⟨Ds, h4, h5, h6⟩ := h.defers
  refine ⟨Ds, h4, h5, fun D hD => ?_⟩
  obtain ⟨h7, h8, h9⟩ := h6 D hD
  refine ⟨h7, h8, ?_⟩
  rintro (hL | hL)
  ·
   exact h9 hL
  ·
   rcases hown.2 with ⟨h, _⟩ | ⟨g', cap, cur, h, _, hh, _⟩
   ·
    rw [h] at hL; simp [blk] at hL
   ·
    rw [h] at hL; simp [blk] at hL; subst hL; rw [hh] at h7; cases h7
theorem le_freezeIn {tm : Nat → V} {σ : Nat → Option Ob} {nx : Nat} (id : Nat) {e sz n n' : Nat} {row row' : Nat → List V} (hσ : σ id = some (.row e sz n row)) (hi : ∀ i, V.idfL (row' i) = true) (hn : n = n') (he : ∀ i, i < n → row i = row' i) :
  Le ⟨tm, σ, nx⟩ ⟨fun t => V.fz id (.sl sz n' row') (tm t), fzS σ id (.sl sz n' row'), nx⟩ := by
 subst hn
 exact Le.freezeIn (s := ⟨tm, σ, nx⟩) id hσ (fun i h => by rw [he i h]; exact hi i) he
section
variable {P : Program} {b : Frame} {a : Act} {k : List Item} {cs : List Frame} {w : World} {F : Fence} {n : Nat}
theorem stepR_scope {c : Code} : step P (lone (b.atR a (.code (.scope c) :: k)) cs w) = .next (lone (b.atR a (.code c :: .inScope c :: k)) cs w) :=
 step_lone_go (by simp [stepG, stepG.exec, Frame.atR])
theorem stepR_inScope {c : Code} : step P (lone (b.atR a (.inScope c :: k)) cs w) = .next (lone (b.atR a k) cs w) :=
 step_lone_go (by simp [stepG, stepG.exec, Frame.atR])
def ExScope (Q : Exit → Act → World → Prop) : Exit → Act → World → Prop
 | .goto _, _, _ => False
 | e, a, w => Q e a w
theorem wpIn_scope {c : Code} {Q : Exit → Act → World → Prop} (h : c.wpIn F n P (ExScope Q) a w) : (Code.scope c).wpIn F n P Q a w := by
 intro b k cs hro hb hr
 have h0 : (lone (b.atR a (.code (.scope c) :: k)) cs w).fenced P F := fenced_calm hb hr rfl
 obtain ⟨e, a₁, w₁, hq, harr⟩ := h b (.inScope c :: k) cs hro hb hr
 cases e with
 | normal => exact ⟨.normal, a₁, w₁, hq, .head h0 stepR_scope (StepsIn.trans harr (.one (fenced_calm hb hr rfl) stepR_inScope))⟩
 | exit id =>
  have hx : exitTo id (.inScope c :: k) = exitTo id k := by simp [exitTo]
  exact ⟨.exit id, a₁, w₁, hq, fun k' hk => .head h0 stepR_scope (harr.1 k' (by rw [hx]; exact hk)),
   fun hr' hk => let ⟨k₁, h1, h2⟩ := harr.2 hr' (by rw [hx]; exact hk); ⟨k₁, h1, .head h0 stepR_scope h2⟩⟩
 | goto l => exact hq.elim
 | ret => exact ⟨_, a₁, w₁, hq, .of_steps (.one h0 stepR_scope) harr⟩
 | panic ch => exact ⟨_, a₁, w₁, hq, .of_steps (.one h0 stepR_scope) harr⟩
 | outgrown => exact ⟨_, a₁, w₁, hq, .of_steps (.one h0 stepR_scope) harr⟩
end
def XScope (Q : Exit → S → Prop) : Exit → S → Prop
 | .goto _, _ => False
 | e, s => Q e s
section
variable {P : Program} {N : Nat} {C : Cx P N} {Q : Exit → S → Prop} {s : S} {id : Nat}
theorem aw_scope {c : Code} (h : AW C c (XScope Q) s) : AW C (.scope c) Q s := by
 intro a w g
 refine wpIn_scope (wpIn_mono (h a w g) ?_)
 rintro e a' w' ⟨s', q, g', t⟩
 cases e with
 | goto l => exact q.elim
 | _ => exact ⟨s', q, g', t⟩
end
end Go.Ab

namespace Go.Ab
open Go.RowKit Go.Dw
mutual
def V.inN (n : Nat) : V → Bool
 | .agg cs => V.inNL n cs
 | .tup cs => V.inNL n cs
 | .fn _ a b => V.inNL n a && V.inNL n b
 | .ifc _ v => v.inN n
 | .gd _ v => v.inN n
 | .own i => decide (500 ≤ i) && decide (i < 500 + n)
 | .ref i _ => decide (500 ≤ i) && decide (i < 500 + n)
 | .oel i _ _ _ => decide (500 ≤ i) && decide (i < 500 + n)
 | .osl i _ _ _ => decide (500 ≤ i) && decide (i < 500 + n)
 | _ => true
def V.inNL (n : Nat) : List V → Bool
 | [] => true
 | v :: l => v.inN n && V.inNL n l
end
mutual
theorem idf_inN (n : Nat) : ∀ v : V, v.idf = true → v.inN n = true
 | .agg cs, h => by rw [V.idf] at h; rw [V.inN]; exact idf_inNL n cs h
 | .tup cs, h => by rw [V.idf] at h; rw [V.inN]; exact idf_inNL n cs h
 | .fn f a b, h => by rw [V.idf, Bool.and_eq_true] at h; rw [V.inN, idf_inNL n a h.1, idf_inNL n b h.2]; rfl
 | .ifc t v, h => by rw [V.idf] at h; rw [V.inN]; exact idf_inN n v h
 | .gd q v, h => by rw [V.idf] at h; rw [V.inN]; exact idf_inN n v h
 | .own _, h => by simp [V.idf] at h
 | .ref _ _, h => by simp [V.idf] at h
 | .oel _ _ _ _, h => by simp [V.idf] at h
 | .osl _ _ _ _, h => by simp [V.idf] at h
 | .any, _ => rfl
 | .c _, _ => rfl
 | .nil, _ => rfl
 | .emp, _ => rfl
 | .sl _ _ _, _ => rfl
 | .ptr _, _ => rfl
theorem idf_inNL (n : Nat) : ∀ l : List V, V.idfL l = true → V.inNL n l = true
 | [], _ => rfl
 | v :: l, h => by rw [V.idfL, Bool.and_eq_true] at h; rw [V.inNL, idf_inN n v h.1, idf_inNL n l h.2]; rfl
end
theorem V.inNL_get {n : Nat} : ∀ {l : List V} (_ : V.inNL n l = true) {i : Nat} {u : V} (_ : l[i]? = some u), u.inN n = true
 | v :: l, h, 0, u, hu => by
  simp at hu; subst hu
  simp only [V.inNL, Bool.and_eq_true] at h
  exact h.1
 | v :: l, h, i + 1, u, hu => by
  simp only [V.inNL, Bool.and_eq_true] at h
  exact V.inNL_get h.2 (by simpa using hu)
theorem R.into {n : Nat} {w : World} {L : Nat → Prop} {ρ : Nat → Option Value} {u : V} {x : Value} (h : R w L ρ u x) : ∀ (_ : u.inN n = true) (ρ' : Nat → Option Value), (∀ id v, 500 ≤ id → id < 500 + n → ρ id = some v → ρ' id = some v) → R w L ρ' u x := by
 induction h with
 | any => exact fun _ _ _ => .any _ _
 | c => exact fun _ _ _ => .c _ _
 | agg ρ cs xs f hl hf hr ih =>
  intro hi ρ' hρ
  simp only [V.inN] at hi
  exact .agg _ _ _ f hl hf fun i u hu => ih i u hu (V.inNL_get hi hu) ρ' hρ
 | tup ρ cs xs f hl hf hr ih =>
  intro hi ρ' hρ
  simp only [V.inN] at hi
  exact .tup _ _ _ f hl hf fun i u hu => ih i u hu (V.inNL_get hi hu) ρ' hρ
 | nil => exact fun _ _ _ => .nil _
 | emp => exact fun _ _ _ => .emp _ _
 | sl0 => exact fun _ _ _ => .sl0 _ _ _ _ _
 | sl ρ sz n row b o c f hb hcap hlen hf hr ih => exact fun _ ρ' _ => .sl _ _ _ _ _ _ _ f hb hcap hlen hf hr
 | ptr ρ cs b o f hb hf hr ih => exact fun _ ρ' _ => .ptr _ _ _ _ f hb hf hr
 | own ρ id x h h1 =>
  intro hi ρ' hρ
  simp only [V.inN, Bool.and_eq_true, decide_eq_true_eq] at hi
  exact .own _ _ _ (hρ _ _ hi.1 hi.2 h) h1
 | ref ρ id off b h =>
  intro hi ρ' hρ
  simp only [V.inN, Bool.and_eq_true, decide_eq_true_eq] at hi
  exact .ref _ _ _ _ (hρ _ _ hi.1 hi.2 h)
 | oel ρ id sz i off b n c h =>
  intro hi ρ' hρ
  simp only [V.inN, Bool.and_eq_true, decide_eq_true_eq] at hi
  exact .oel _ _ _ _ _ _ n c (hρ _ _ hi.1 hi.2 h)
 | osl ρ id sz off k b m c c2 A h hn hA =>
  intro hi ρ' hρ
  simp only [V.inN, Bool.and_eq_true, decide_eq_true_eq] at hi
  exact .osl _ _ _ _ _ _ m c _ _ (hρ _ _ hi.1 hi.2 h) hn hA
 | fn ρ f fs cs xs ys g h hl hm hg hh hr hs ih1 ih2 =>
  intro hi ρ' hρ
  simp only [V.inN, Bool.and_eq_true] at hi
  exact .fn _ _ _ _ _ _ g h hl hm hg hh (fun i u hu => ih1 i u hu (V.inNL_get hi.1 hu) ρ' hρ) fun i u hu => ih2 i u hu (V.inNL_get hi.2 hu) ρ' hρ
 | ifc ρ t u x h ih =>
  intro hi ρ' hρ
  simp only [V.inN] at hi
  exact .ifc _ _ _ _ (ih hi ρ' hρ)
 | gd ρ g u x h h' ih =>
  intro hi ρ' hρ
  simp only [V.inN] at hi
  exact .gd _ _ _ _ (fun hg => ih hg hi ρ' hρ) h'
theorem RV.into {n : Nat} {w : World} {L : Nat → Prop} {ρ ρ' : Nat → Option Value} {us : List V} {xs : List Value} (h : RV w L ρ us xs) (hi : V.inNL n us = true) (hρ : ∀ id v, 500 ≤ id → id < 500 + n → ρ id = some v → ρ' id = some v) : RV w L ρ' us xs :=
 ⟨h.1, fun i u x hu hx => (h.2 i u x hu hx).into (V.inNL_get hi hu) ρ' hρ⟩
theorem RL.into {n : Nat} {w : World} {L : Nat → Prop} {ρ ρ' : Nat → Option Value} {us : List V} {xs : List Value} (h : RL w L ρ us xs) (hi : V.inNL n us = true) (hρ : ∀ id v, 500 ≤ id → id < 500 + n → ρ id = some v → ρ' id = some v) : RL w L ρ' us xs :=
 ⟨h.1, fun i u x hu hx => ⟨(h.2 i u x hu hx).1.into (V.inNL_get hi hu) ρ' hρ, (h.2 i u x hu hx).2⟩⟩
theorem RV_ren {w : World} {L : Nat → Prop} {ρ : Nat → Option Value} (g : Nat → Nat) {us : List V} {xs : List Value} (h : RV w L ρ (V.renL g us) xs) : RV w L (fun i => ρ (g i)) us xs :=
 ⟨by rw [← h.1, V.renL_len], fun i u x hu hx => R_renL g us i u x hu (h.2 i (u.ren g) x (by rw [V.renL_get, hu]; rfl) hx)⟩
def Ob.inN (n : Nat) : Ob → Prop
 | .box _ cs => V.inNL n cs = true
 | .row _ _ m f => ∀ i, i < m → V.inNL n (f i) = true
 | .mp _ f => ∀ k u, f.look k = some u → V.inN n u = true
theorem V.inNL_append {n : Nat} : ∀ {l m : List V}, V.inNL n l = true → V.inNL n m = true → V.inNL n (l ++ m) = true
 | [], m, _, h => h
 | v :: l, m, h, k => by
  simp only [V.inNL, Bool.and_eq_true, List.cons_append] at h ⊢
  exact ⟨h.1, V.inNL_append h.2 k⟩
theorem inN_slRows {k : Nat} {row : Nat → List V} : ∀ n, (∀ i, i < n → V.inNL k (row i) = true) → V.inNL k (slRows n row).flatten = true := by
 intro n h
 have key : ∀ l : List (List V), (∀ x ∈ l, V.inNL k x = true) → V.inNL k l.flatten = true := by
  intro l
  induction l with
  | nil => intro _; rfl
  | cons x l ih => intro h; rw [List.flatten_cons]; exact V.inNL_append (h x (by simp)) (ih fun y hy => h y (by simp [hy]))
 refine key _ fun x hx => ?_
 simp only [slRows, List.mem_map, List.mem_range] at hx
 obtain ⟨i, hi, rfl⟩ := hx
 exact h i hi
def insF (ins : List Ob) (id : Nat) : Option Ob := if 500 ≤ id then ins[id - 500]? else none
def outF (outs : List (Option Ob)) (obs : List Ob) (id : Nat) : Option Ob := if 500 ≤ id then (outs[id - 500]?).join else obs[id]?
def AM (P : Program) (f : FuncId) (args : List V) (ins : List Ob) (v : V) (outs : List (Option Ob)) (obs : List Ob) : Prop :=
 (∀ (args : Array Value) (w : World), (callFunc f args).run P w = .ok (.enter f args) w) ∧
 ∀ (W LB L : Nat → Prop) (w : World) (ρ : Nat → Option Value) (vs : Array Value), (∀ b, W b → LB b) → (∀ b, W b → ¬ L b) → G W LB (insF ins) w L ρ → (∀ id, (id < 500 ∨ 500 + ins.length ≤ id) → ρ id = none) → RV w L ρ args vs.toList →
  Calls P f vs w fun e w' => ∃ x, e = .returned x ∧ Tch W w w' ∧ ∃ L' ρ', G W LB (outF outs obs) w' L' ρ' ∧ Ext w L ρ w' L' ρ' ∧ R w' L' ρ' v x ∧ ∀ j, obs.length ≤ j → (j < 500 ∨ 500 + ins.length ≤ j) → ρ' j = none
def clampM (k n nx i : Nat) : Nat := if i < k ∨ (500 ≤ i ∧ i < 500 + n) then i else nx * 100000 + i
def RetPostM (T : List TI) (fn : Func) (n : Nat) (v : V) (outs : List (Option Ob)) (obs : List Ob) : Exit → S → Prop := fun e s => (e = .normal ∨ e = .ret) ∧ ∃ s', Le s s' ∧ resV T s' fn.results.toList = some v ∧ (∀ i ob, obs[i]? = some ob → s'.σ i = some ob) ∧ (∀ i ob, outs[i]? = some (some ob) → s'.σ (500 + i) = some ob) ∧
 v.ren (clampM obs.length n s'.nx) = v ∧ (∀ ob ∈ obs, ob.ren (clampM obs.length n s'.nx) = ob) ∧ (∀ ob : Ob, some ob ∈ outs → ob.ren (clampM obs.length n s'.nx) = ob)
theorem am_introP {T : List TI} {P : Program} (hT : TabOk T P) (hmx : P.follows .mixedOrders = true) {f : FuncId} {fn : Func} {c : Code} {N : Nat} (hk : FnOk P f fn c N) {args : List V} {ins : List Ob} {v : V} {outs : List (Option Ob)} {obs : List Ob} (hargs : args.length ≤ N) (hn : outs.length = ins.length) (hn4 : ins.length ≤ 400) (_ : obs.length ≤ 90)
  (h : ∀ C : Cx P N, C.F = Fence.wide → (∀ id x, C.dfs.pin id = some x → 500 ≤ id ∧ id < 500 + ins.length) → C.dfs.tl = [] → AW C c (RetPostM T fn ins.length v outs obs) ⟨fun t => args.getD t .any, insF ins, 1⟩) : AM P f args ins v outs obs := by
 refine ⟨hk.call, fun W LB L w ρ vs hwl hWL hG hρn hvs => ?_⟩
 have hsome : ∀ i, i < ins.length → ∃ ob x, ins[i]? = some ob ∧ insF ins (500 + i) = some ob ∧ ρ (500 + i) = some x ∧ ∀ k, blk x = some k → k < w.heap.size ∧ W k ∧ ¬ L k := by
  intro i hi
  have h1 : ins[i]? = some ins[i] := List.getElem?_eq_getElem hi
  have h2 : insF ins (500 + i) = some ins[i] := by unfold insF; rw [if_pos oM, Nat.add_sub_cancel_left]; exact h1
  obtain ⟨x, hx, hx2⟩ := (hG.ob _ _ h2).lt
  exact ⟨_, x, h1, h2, hx, hx2⟩
 obtain ⟨C, hW, hLB, hd, hFw, htl⟩ : ∃ C : Cx P N, C.W = W ∧ C.LB = LB ∧ C.dfs.pin = (fun id => if 500 ≤ id ∧ id < 500 + ins.length then ρ id else none) ∧ C.F = Fence.wide ∧ C.dfs.tl = [] :=
  ⟨⟨W, LB, hwl, ⟨[], fun id => if 500 ≤ id ∧ id < 500 + ins.length then ρ id else none, fun id x hp => by
   split at hp
   ·
    omega
   ·
    cases hp⟩, hmx, Fence.wide, .inl rfl⟩, rfl, rfl, rfl, rfl, rfl⟩
 have hvl : vs.size = args.length := by have := hvs.1; simpa using this.symm
 refine callsIn_wide.1 (callsIn_of_wp_marks (n := 0) hk.hf hk.hb trivial ?_ rfl)
 have hw := h C hFw (fun id x hp => by
  rw [hd] at hp
  simp only at hp
  split at hp
  ·
   assumption
  ·
   cases hp) htl
 unfold AW at hw
 rw [hFw] at hw
 refine wpIn_mono (hw _ w ⟨L, ρ, ⟨?_, fun id hid => ?_, fun t => ?_, ?_, ?_, fun id x hp => ?_⟩⟩) ?_
 ·
  rw [hW, hLB]; exact hG
 ·
  have hid' : 1 * 100000 ≤ id := hid
  exact hρn id (.inr oM)
 ·
  by_cases ht : t < args.length
  ·
   have h1 : args[t]? = some args[t] := List.getElem?_eq_getElem ht
   obtain ⟨x, hx, hr⟩ := hvs.get h1
   have e1 : args.getD t .any = args[t] := by simp [List.getD_eq_getElem?_getD, h1]
   have e2 : (vs ++ Array.replicate (fn.ntmps - vs.size) undef).getD t undef = x := by
    rw [Array.getD_eq_getD_getElem?, Array.getElem?_append_left oM]
    have : vs[t]? = some x := by simpa using hx
    rw [this]; rfl
   show R w L ρ (args.getD t .any) _
   rw [e1, e2]; exact hr
  ·
   have e1 : args.getD t .any = .any := by simp [List.getD_eq_getElem?_getD, List.getElem?_eq_none (Nat.le_of_not_lt ht)]
   show R w L ρ (args.getD t .any) _
   rw [e1]; exact .any _ _
 ·
  rw [← hk.hn] at hargs ⊢
  simp; omega
 ·
  exact ⟨[], by rw [htl]; rfl, by simp, by simp⟩
 ·
  rw [hd] at hp
  simp only at hp
  split at hp
  ·
   exact hp
  ·
   cases hp
 ·
  rintro e a' w' ⟨s', ⟨he, s'', hle, hres, hob, hout, hcv, hco, hcu⟩, g', t⟩
  obtain ⟨L', ρ', g''⟩ := hle C a' w' g'
  rw [hW] at t
  obtain ⟨Ds, d1, d2, d3⟩ := g''.defers
  rw [htl, List.append_nil] at d1
  refine end_marks' Ds he d1 d2 (fun D hD => (d3 D hD).1) fun w2 ht2 => ?_
  obtain ⟨g2, e2⟩ := g''.g.marks ht2 d3
  obtain ⟨x, hx, hr⟩ := resV_run hT g2 (fun t => (g''.tm t).ext e2) fn hres
  have hWD : ∀ D ∈ Ds, W D := fun D hD => by have := (d3 D hD).2.1; rw [hW] at this; exact this
  have tt : Tch W w w2 := t.trans (ht2.mono fun k _ hkD => hWD k hkD)
  refine ⟨x, hx, x, rfl, tt, ?_⟩
  have hr2 : R w2 L' (fun i => ρ' (clampM obs.length ins.length s''.nx i)) v x := R_ren _ _ _ (by rw [hcv]; exact hr)
  have hlt : ∀ i, i < obs.length → clampM obs.length ins.length s''.nx i = i := fun i hi => by unfold clampM; rw [if_pos (.inl hi)]
  have hlt5 : ∀ i, 500 ≤ i → i < 500 + ins.length → clampM obs.length ins.length s''.nx i = i := fun i h1 h2 => by unfold clampM; rw [if_pos (.inr ⟨h1, h2⟩)]
  have hoF : ∀ id o, outF outs obs id = some o → s''.σ id = some o ∧ clampM obs.length ins.length s''.nx id = id ∧ o.ren (clampM obs.length ins.length s''.nx) = o := by
   intro id o ho
   unfold outF at ho
   split at ho
   ·
    rename_i h5
    have ho' : outs[id - 500]? = some (some o) := by
     cases hq : outs[id - 500]? with
     | none => rw [hq] at ho; cases ho
     | some q => rw [hq] at ho; simp at ho; rw [ho]
    have hlt' := (List.getElem?_eq_some_iff.1 ho').1
    refine ⟨?_, hlt5 id h5 oM, hcu o (List.mem_of_getElem? ho')⟩
    have := hout (id - 500) o ho'
    rwa [show 500 + (id - 500) = id by omega] at this
   ·
    exact ⟨hob id o ho, hlt id (List.getElem?_eq_some_iff.1 ho).1, hco o (List.mem_of_getElem? ho)⟩
  have hE2 : Ext w2 L' (fun i => ρ' (clampM obs.length ins.length s''.nx i)) w2 (fun b => L' b ∨ L b) (fun i => ρ' (clampM obs.length ins.length s''.nx i)) := ⟨fun b hb => ⟨.inl hb, rfl⟩, fun _ _ h => h⟩
  refine ⟨fun b => L' b ∨ L b, fun i => ρ' (clampM obs.length ins.length s''.nx i), ⟨fun b hb => ?_, fun b hb => ?_, fun id o ho => ?_, fun i j x y k hij hi hj => ?_, g2.glL hE2.l⟩, ⟨fun b hb => ⟨.inr hb, tt.block b (hG.ll b hb).1 fun hc => hWL b hc hb⟩, fun id x hx => ?_⟩, hr2.ext hE2, fun j hj hj5 => ?_⟩
  ·
   rcases hb with hb | hb
   ·
    have := g2.ll b hb
    rw [hLB] at this
    exact ⟨this.1, this.2⟩
   ·
    exact ⟨Nat.lt_of_lt_of_le (hG.ll b hb).1 tt.size, (hG.ll b hb).2⟩
  ·
   exact hG.new b (Nat.le_trans tt.size hb)
  ·
   obtain ⟨q1, q2, q3⟩ := hoF id o ho
   have hr0 := g2.ob id o q1
   rw [hW] at hr0
   have hr : Real W w2 L' (fun i => ρ' (clampM obs.length ins.length s''.nx i)) id o := Real.ren (by rw [q2, q3]; exact hr0)
   obtain ⟨y, hy, hy2⟩ := hr.lt
   refine hr.keep hE2 fun x k hx hk => ?_
   rw [hx] at hy; injection hy with hy; subst hy
   refine ⟨rfl, ?_⟩
   rintro (h1 | h1)
   ·
    exact (hy2 k hk).2.2 h1
   ·
    exact hWL k (hy2 k hk).2.1 h1
  ·
   have key : ∀ i, outF outs obs i ≠ none → s''.σ i ≠ none ∧ clampM obs.length ins.length s''.nx i = i := fun i hi => by
    cases ho : outF outs obs i with
    | none => exact absurd ho hi
    | some o => obtain ⟨q1, q2, _⟩ := hoF i o ho; exact ⟨by rw [q1]; simp, q2⟩
   simp only [(key i hi).2, (key j hj).2]
   exact g2.sep i j x y k hij (key i hi).1 (key j hj).1
  ·
   show ρ' (clampM obs.length ins.length s''.nx id) = some x
   by_cases h5 : 500 ≤ id ∧ id < 500 + ins.length
   ·
    rw [hlt5 id h5.1 h5.2]
    exact g''.pin id x (by rw [hd]; simp only; rw [if_pos h5]; exact hx)
   ·
    rw [hρn id oM] at hx; cases hx
  ·
   have e3 : clampM obs.length ins.length s''.nx j = s''.nx * 100000 + j := if_neg oM
   show ρ' (clampM obs.length ins.length s''.nx j) = none
   rw [e3]
   exact g''.fr _ (by unfold freshA; omega)
def nameG (nx : Nat) (d : Option Tmp) (ns : List Nat) (id : Nat) : Nat := if 500 ≤ id then ns.getD (id - 500) (nx * 100000 + 1000 * id + d.getD 0) else callG nx d id
def outD (g : Nat → Nat) : List Nat → List (Option Ob) → List (Nat × Option Ob)
 | k :: ks, o :: os => (k, o.map (Ob.ren g)) :: outD g ks os
 | _, _ => []
def preD : List Nat → List Ob → List (Nat × Ob)
 | k :: ks, o :: os => (k, o) :: preD ks os
 | _, _ => []
theorem upds_append (σ : Nat → Option Ob) : ∀ l m : List (Nat × Option Ob), upds σ (l ++ m) = upds (upds σ l) m
 | [], m => rfl
 | (k, o) :: l, m => by simp only [List.cons_append, upds]; exact upds_append _ l m
theorem outD_in (g : Nat → Nat) : ∀ (ns : List Nat) (os : List (Option Ob)) (σ : Nat → Option Ob) (id : Nat) (o : Ob), ns.Nodup → os.length = ns.length → upds σ (outD g ns os) id = some o → (∃ (i : Nat) (ob : Ob), ns[i]? = some id ∧ os[i]? = some (some ob) ∧ o = ob.ren g) ∨ (σ id = some o ∧ id ∉ ns)
 | [], os, σ, id, o, _, _, h => .inr ⟨by simpa [outD, upds] using h, by simp⟩
 | n :: ns, [], σ, id, o, _, hl, h => by simp at hl
 | n :: ns, x :: os, σ, id, o, hn, hl, h => by
  rw [outD, upds] at h
  have hn' := List.nodup_cons.1 hn
  rcases outD_in g ns os _ id o hn'.2 (by simpa using hl) h with ⟨i, ob, h1, h2, h3⟩ | ⟨h1, h2⟩
  ·
   exact .inl ⟨i + 1, ob, by simpa using h1, by simpa using h2, h3⟩
  ·
   by_cases he : id = n
   ·
    subst he
    rw [upd_same] at h1
    cases x with
    | none => cases h1
    | some x => simp at h1; exact .inl ⟨0, x, rfl, rfl, h1.symm⟩
   ·
    rw [upd_ne _ _ he] at h1
    exact .inr ⟨h1, by simp [he, h2]⟩
theorem preD_in : ∀ {ns : List Nat} {os : List Ob} {i : Nat} {n : Nat} {o : Ob}, ns[i]? = some n → os[i]? = some o → (n, o) ∈ preD ns os
 | [], _, _, _, _, h, _ => by simp at h
 | _ :: _, [], _, _, _, _, h => by simp at h
 | a :: ns, b :: os, 0, n, o, h, k => by simp at h k; subst h k; simp [preD]
 | a :: ns, b :: os, i + 1, n, o, h, k => by
  simp at h k
  exact List.mem_cons_of_mem _ (preD_in h k)
section
variable {P : Program} {W LB : Nat → Prop} {d : Option Tmp} {ty : TypeId} {pos : String} {af : Array Edge} {gd : Option (Nat × Bool)} {ev : Operand → V}
def Hex (P : Program) (o : Oper) (ev : Operand → V) (f : FuncId) (as0 : List V) : Prop :=
 ∀ (w : World) (L : Nat → Prop) (ρ : Nat → Option Value) (g : Operand → Value), (∀ x ∈ o.op.operands, R w L ρ (ev x) (g x)) → ∃ vs : Array Value, ((∀ (args : Array Value) (w : World), (callFunc f args).run P w = .ok (.enter f args) w) → (execOp g o).run P w = .ok (.enter f vs) w) ∧ RV w L ρ as0 vs.toList
theorem as_callMG {o : Oper} {f : FuncId} {as0 args : List V} {ins ins' : List Ob} {v : V} {outs : List (Option Ob)} {obs : List Ob} (hc : AM P f args ins v outs obs) (hwl : ∀ b, W b → LB b) (ns : List Nat) (hp : plainOp o.op = true) (hex : Hex P o ev f as0) (nx : Nat)
  (hargs : as0 = V.renL (nameG nx d ns) args) (hin : V.inNL ins.length args = true) (hd : d.all (fun t => decide (t < 1000)) = true) (hobs : obs.length ≤ 90)
  (hns : ns.Nodup) (hnl : ns.length = ins.length) (hol : outs.length = ins.length) (hil : ins'.length = ins.length) (hins : ∀ (i : Nat) (o o' : Ob), ins[i]? = some o → ins'[i]? = some o' → ObEq o' (o.ren (nameG nx d ns)) ∧ o.inN ins.length) :
  AStep P W LB o ev (v.ren (nameG nx d ns)) (preD ns ins') ((List.range obs.length).map (callG nx d)) (outD (nameG nx d ns) ns outs ++ callD (nameG nx d ns) 0 obs) := by
 intro σ w L ρ g hG hr hpre hnew
 obtain ⟨vs, hrun0, hz⟩ := hex w L ρ g hr
 obtain ⟨G0, hG0⟩ : ∃ G0, G0 = nameG nx d ns := ⟨_, rfl⟩
 rw [← hG0] at hargs hins ⊢
 obtain ⟨n, hn⟩ : ∃ n, n = ins.length := ⟨_, rfl⟩
 rw [← hn] at hin hnl hol hil hins
 have gpin : ∀ i, i < n → ∃ m, ns[i]? = some m ∧ G0 (500 + i) = m := by
  intro i hi
  have h2 : ns[i]? = some ns[i] := List.getElem?_eq_getElem oM
  refine ⟨_, h2, ?_⟩
  rw [hG0]; unfold nameG
  rw [if_pos oM, Nat.add_sub_cancel_left, List.getD_eq_getElem?_getD, h2]; rfl
 have gnew : ∀ j, j < 500 → G0 j = callG nx d j := fun j hj => by rw [hG0]; unfold nameG; rw [if_neg oM]
 -- the objects that are handed
 have hobj : ∀ i, i < n → ∃ m o o' x, ns[i]? = some m ∧ G0 (500 + i) = m ∧ ins[i]? = some o ∧ σ m = some o' ∧ ObEq o' (o.ren G0) ∧ o.inN n ∧ Real W w L ρ m o' ∧ ρ m = some x ∧ ∀ k, blk x = some k → k < w.heap.size ∧ W k ∧ ¬ L k := by
  intro i hi
  obtain ⟨m, hm, hgm⟩ := gpin i hi
  have h2 : ins[i]? = some ins[i] := List.getElem?_eq_getElem oM
  have h3 : ins'[i]? = some ins'[i] := List.getElem?_eq_getElem oM
  have h4 := hpre _ (preD_in hm h3)
  obtain ⟨h5, h6⟩ := hins i _ _ h2 h3
  have h7 := hG.ob m _ h4
  obtain ⟨x, hx, hx2⟩ := h7.lt
  exact ⟨m, _, _, x, hm, hgm, h2, h4, h5, h6, h7, hx, hx2⟩
 obtain ⟨ρ1, hρ1⟩ : ∃ ρ1 : Nat → Option Value, ∀ id, ρ1 id = if 500 ≤ id ∧ id < 500 + n then ρ (G0 id) else none := ⟨_, fun _ => rfl⟩
 have hρ1p : ∀ i, i < n → ρ1 (500 + i) = ρ (G0 (500 + i)) := fun i hi => by rw [hρ1, if_pos oM]
 have hinto : ∀ id v, 500 ≤ id → id < 500 + n → (fun i => ρ (G0 i)) id = some v → ρ1 id = some v := fun id v h5 h6 h7 => by rw [hρ1, if_pos ⟨h5, h6⟩]; exact h7
 have hrv : RV w L ρ1 args vs.toList := by
  rw [hargs] at hz
  exact (RV_ren G0 hz).into hin hinto
 obtain ⟨W1, hW1⟩ : ∃ W1 : Nat → Prop, ∀ b, W1 b ↔ (∃ i x, i < n ∧ ρ1 (500 + i) = some x ∧ blk x = some b) ∨ w.heap.size ≤ b := ⟨_, fun _ => Iff.rfl⟩
 have hW1old : ∀ b, W1 b → b < w.heap.size → W b ∧ ¬ L b ∧ ∃ i m x, i < n ∧ ns[i]? = some m ∧ σ m ≠ none ∧ ρ m = some x ∧ blk x = some b := by
  intro b hb hlt
  rcases (hW1 b).1 hb with ⟨i, x, hi, hx, hbx⟩ | h
  ·
   obtain ⟨m, o, o', x', q1, q2, q3, q4, q5, q6, q7, q8, q9⟩ := hobj i hi
   rw [hρ1p i hi, q2, q8] at hx
   injection hx with hx; subst hx
   exact ⟨(q9 b hbx).2.1, (q9 b hbx).2.2, i, m, _, hi, q1, by rw [q4]; simp, q8, hbx⟩
  ·
   omega
 have hW1W : ∀ b, W1 b → W b := fun b hb => by
  by_cases hlt : b < w.heap.size
  ·
   exact (hW1old b hb hlt).1
  ·
   exact (hG.new b oM).1
 have hW1L : ∀ b, W1 b → ¬ L b := fun b hb hL => by
  have hlt := (hG.ll b hL).1
  exact (hW1old b hb hlt).2.1 hL
 -- the callee's own view
 have hinsF : ∀ id o, insF ins id = some o → ∃ i, i < n ∧ id = 500 + i ∧ ins[i]? = some o := by
  intro id o ho
  unfold insF at ho
  split at ho
  ·
   exact ⟨id - 500, by rw [hn]; exact (List.getElem?_eq_some_iff.1 ho).1, by omega, ho⟩
  ·
   cases ho
 have hG1 : G W1 (fun b => L b ∨ W1 b) (insF ins) w L ρ1 := by
  refine ⟨fun b hb => ⟨(hG.ll b hb).1, .inl hb⟩, fun b hb => ?_, fun id o ho => ?_, fun i j x y k hij hi hj hx hy hk => ?_, hG.gl⟩
  ·
   have : W1 b := (hW1 b).2 (.inr hb)
   exact ⟨this, .inr this⟩
  ·
   obtain ⟨i, hi, rfl, hio⟩ := hinsF id o ho
   obtain ⟨m, o2, o', x, q1, q2, q3, q4, q5, q6, q7, q8, q9⟩ := hobj i hi
   rw [hio] at q3; injection q3 with q3; subst q3
   have hre : Real W w L (fun i => ρ (G0 i)) (500 + i) o := Real.ren (by rw [q2]; exact q7.eq q5)
   have hbW : ∀ k, blk x = some k → W1 k ∧ ¬ L k := fun k hk => ⟨(hW1 k).2 (.inl ⟨i, x, hi, by rw [hρ1p i hi, q2]; exact q8, hk⟩), (q9 k hk).2.2⟩
   have hxe : (fun i => ρ (G0 i)) (500 + i) = some x := by show ρ (G0 (500 + i)) = some x; rw [q2]; exact q8
   cases o with
   | box t cs =>
    obtain ⟨b, ys', r1, r2, r3, r4, r5⟩ := hre
    have e0 := r1
    rw [hxe] at e0; injection e0 with e0
    have := hbW b (by rw [e0]; rfl)
    exact ⟨b, ys', hinto _ _ oM oM r1, this.1, r3, r4, r5.into q6 hinto⟩
   | row e sz nn row =>
    obtain ⟨y, ys', r1, r2, r3, r4, r5⟩ := hre
    have e0 := r1
    rw [hxe] at e0; injection e0 with e0; subst e0
    exact ⟨_, ys', hinto _ _ oM oM r1, r2, r3, r4.into (inN_slRows _ q6) hinto, fun k hk => hbW k hk⟩
   | mp str f =>
    obtain ⟨b, es, cl, r1, r2, r3, r4, r5⟩ := hre
    have e0 := r1
    rw [hxe] at e0; injection e0 with e0
    have := hbW b (by rw [e0]; rfl)
    exact ⟨b, es, cl, hinto _ _ oM oM r1, this.1, r3, r4, r5.imp fun i u x hu hr => hr.into (q6 i u hu) _ hinto⟩
  ·
   cases hoi : insF ins i with
   | none => exact absurd hoi hi
   | some oi =>
    cases hoj : insF ins j with
    | none => exact absurd hoj hj
    | some oj =>
     obtain ⟨a, ha, rfl, _⟩ := hinsF i oi hoi
     obtain ⟨b, hb, rfl, _⟩ := hinsF j oj hoj
     obtain ⟨m, o2, o', x', q1, q2, q3, q4, q5, q6, q7, q8, q9⟩ := hobj a ha
     obtain ⟨m', o2', o'', x'', p1, p2, p3, p4, p5, p6, p7, p8, p9⟩ := hobj b hb
     rw [hρ1p a ha, q2] at hx
     rw [hρ1p b hb, p2] at hy
     refine hG.sep m m' x y k (fun e => hij ?_) (by rw [q4]; simp) (by rw [p4]; simp) hx hy hk
     subst e
     have l1 := List.getElem?_eq_some_iff.1 q1
     have l2 := List.getElem?_eq_some_iff.1 p1
     obtain ⟨l1a, l1b⟩ := l1
     obtain ⟨l2a, l2b⟩ := l2
     have pw := List.pairwise_iff_getElem.1 hns
     have : a = b := by
      rcases Nat.lt_trichotomy a b with h | h | h
      ·
       exact absurd (l1b.trans l2b.symm) (pw a b l1a l2a h)
      ·
       exact h
      ·
       exact absurd (l2b.trans l1b.symm) (pw b a l2a l1a h)
     rw [this]
 have hrun := hrun0 hc.1
 refine OpDoes.enter hp hrun ((hc.2 W1 (fun b => L b ∨ W1 b) L w ρ1 _ (fun b h => .inr h) hW1L hG1 (fun id hid => by rw [hρ1, if_neg (by rw [← hn] at hid; omega)]) hrv).mono ?_)
 rintro e w' ⟨x, rfl, tt, L', ρ', hG', hE', hv, hnn⟩
 obtain ⟨D, hD, hd'⟩ : ∃ D : Nat, d.getD 0 = D ∧ D < 1000 := ⟨_, rfl, by cases d with | none => decide | some t => simpa using hd⟩
 have ginj : ∀ i j, callG nx d i = callG nx d j → i = j := fun i j h => by unfold callG at h; rw [hD] at h; omega
 have hpinE : ∀ i, i < n → ρ' (500 + i) = ρ (G0 (500 + i)) := by
  intro i hi
  obtain ⟨m, o, o', x', q1, q2, q3, q4, q5, q6, q7, q8, q9⟩ := hobj i hi
  rw [q2, q8]
  exact hE'.r _ _ (by rw [hρ1p i hi, q2]; exact q8)
 obtain ⟨ρ2, hρ2⟩ : ∃ ρ2 : Nat → Option Value, ρ2 = fun id => if id ∈ (List.range obs.length).map (callG nx d) then ρ' ((id - nx * 100000) / 1000) else ρ id := ⟨_, rfl⟩
 have hgi : ∀ j, j < obs.length → ρ2 (callG nx d j) = ρ' j := by
  intro j hj
  have : (callG nx d j - nx * 100000) / 1000 = j := by unfold callG; rw [hD]; omega
  rw [hρ2]
  simp only
  rw [if_pos (List.mem_map.2 ⟨j, by simpa using hj, rfl⟩), this]
 have hout : ∀ id, id ∉ (List.range obs.length).map (callG nx d) → ρ2 id = ρ id := by
  intro id hid; rw [hρ2]; simp only; rw [if_neg hid]
 have hkeep : ∀ id y, ρ id = some y → ρ2 id = some y := fun id y hy => by
  rw [hout id (fun hc => by rw [hnew id hc] at hy; cases hy)]; exact hy
 have hon : ∀ j y, ρ' j = some y → ρ2 (G0 j) = some y := by
  intro j y hy
  by_cases hj : j < obs.length
  ·
   rw [gnew j oM, hgi j hj]; exact hy
  ·
   by_cases h5 : 500 ≤ j ∧ j < 500 + n
   ·
    have e5 : j = 500 + (j - 500) := by omega
    rw [e5, hpinE (j - 500) oM] at hy
    rw [e5]
    exact hkeep _ _ hy
   ·
    rw [hnn j oM (by rw [← hn]; omega)] at hy; cases hy
 have ex : Ext w L ρ w' L' ρ2 := ⟨hE'.l, hkeep⟩
 have hLL : ∀ b, L' b → L b ∨ W1 b := fun b hb => (hG'.ll b hb).2
 have hofD : ∀ D', w.heap[D']? = some (.deferred (some [])) → ¬ W1 D' := fun D' hD' hc => by
  have hlt := (Array.getElem?_eq_some_iff.1 hD').1
  obtain ⟨_, _, i, m, y, _, _, hs, hy, hbk⟩ := hW1old D' hc hlt
  cases hso : σ m with
  | none => exact hs hso
  | some o => exact (hG.ob m o hso).no_deferred hy hbk hD'
 have names : ∀ (id : Nat) (o : Ob), upds σ (outD G0 ns outs ++ callD G0 0 obs) id = some o → (∃ j ob, outF outs obs j = some ob ∧ id = G0 j ∧ o = ob.ren G0) ∨ (σ id = some o ∧ id ∉ ns ∧ id ∉ (List.range obs.length).map (callG nx d)) := by
  intro id o ho
  rw [upds_append] at ho
  have key : ∀ (obs' : List Ob) (j0 : Nat) (σ : Nat → Option Ob), upds σ (callD G0 j0 obs') id = some o → (∃ j ob, obs'[j]? = some ob ∧ id = G0 (j0 + j) ∧ o = ob.ren G0) ∨ (σ id = some o ∧ ∀ j, j < obs'.length → id ≠ G0 (j0 + j)) := by
   intro obs'
   induction obs' with
   | nil => intro j0 σ ho; exact .inr ⟨ho, fun j hj => by simp at hj⟩
   | cons ob obs' ih =>
    intro j0 σ ho
    rw [callD, upds] at ho
    rcases ih (j0 + 1) _ ho with ⟨j, ob', h1, h2, h3⟩ | ⟨h1, h2⟩
    ·
     exact .inl ⟨j + 1, ob', by simpa using h1, by rw [h2]; congr 1; omega, h3⟩
    ·
     by_cases he : id = G0 j0
     ·
      subst he
      rw [upd_same] at h1; injection h1 with h1
      exact .inl ⟨0, ob, rfl, rfl, h1.symm⟩
     ·
      rw [upd_ne _ _ he] at h1
      refine .inr ⟨h1, fun j hj => ?_⟩
      cases j with
      | zero => exact he
      | succ j => have := h2 j (by simpa using hj); rwa [show j0 + (j + 1) = j0 + 1 + j by omega]
  rcases key obs 0 _ ho with ⟨j, ob, h1, h2, h3⟩ | ⟨h1, h2⟩
  ·
   have hj := (List.getElem?_eq_some_iff.1 h1).1
   refine .inl ⟨j, ob, ?_, by rw [h2, Nat.zero_add], h3⟩
   unfold outF; rw [if_neg oM]; exact h1
  ·
   rcases outD_in G0 ns outs σ id o hns oM h1 with ⟨i, ob, p1, p2, p3⟩ | ⟨p1, p2⟩
   ·
    have hi : i < n := by have := (List.getElem?_eq_some_iff.1 p1).1; omega
    obtain ⟨m, hm, hgm⟩ := gpin i hi
    rw [p1] at hm; injection hm with hm
    refine .inl ⟨500 + i, ob, ?_, by rw [hgm, hm], p3⟩
    unfold outF; rw [if_pos oM, Nat.add_sub_cancel_left, p2]; rfl
   ·
    refine .inr ⟨p1, p2, fun hc => ?_⟩
    obtain ⟨j, hj, rfl⟩ := List.mem_map.1 hc
    have hj' : j < obs.length := by simpa using hj
    exact h2 j hj' (by rw [Nat.zero_add, gnew j oM])
 -- what was not handed stands
 have oldb : ∀ i y k, σ i ≠ none → i ∉ ns → ρ i = some y → blk y = some k → k < w.heap.size ∧ ¬ W1 k := by
  intro i y k hs hni hy hk
  cases ho : σ i with
  | none => exact absurd ho hs
  | some o =>
   obtain ⟨y', hy', hlt⟩ := (hG.ob i o ho).lt
   rw [hy] at hy'; injection hy' with hy'; subst hy'
   refine ⟨(hlt k hk).1, fun hc => ?_⟩
   obtain ⟨_, _, a, m, z, _, hm, hsm, hz, hbz⟩ := hW1old k hc (hlt k hk).1
   exact hG.sep i m y z k (fun e => hni (by rw [e]; exact List.mem_of_getElem? hm)) hs hsm hy hz hk hbz
 refine ⟨x, rfl, L', ρ2, ⟨fun b hbl => ?_, fun b hbs => hG.new b (Nat.le_trans tt.size hbs), fun id o ho => ?_, ?_, hG.glE ex⟩, R_renOn _ hon hv, tt.mono fun k _ hk => hW1W k hk, ex, fun id hid => hout id hid, fun D' hD' => ⟨(tt.block D' (Array.getElem?_eq_some_iff.1 hD').1 (hofD D' hD')).trans hD', fun hl => (hLL D' hl).resolve_right (hofD D' hD')⟩⟩
 ·
  refine ⟨(hG'.ll b hbl).1, ?_⟩
  rcases hLL b hbl with h | h
  ·
   exact (hG.ll b h).2
  ·
   exact hwl b (hW1W b h)
 ·
  rcases names id o ho with ⟨j, ob, h1, h2, h3⟩ | ⟨h1, h2, h2'⟩
  ·
   subst h2 h3
   exact (hG'.ob j ob h1).renOn _ hon hW1W
  ·
   have hk := hG.ob id o h1
   refine hk.keep ex fun y k hy hk2 => ?_
   obtain ⟨y', hy', hlt⟩ := hk.lt
   rw [hy] at hy'; injection hy' with hy'; subst hy'
   obtain ⟨l1, l2, l3⟩ := hlt k hk2
   have hnw := (oldb id y k (by rw [h1]; simp) h2 hy hk2).2
   exact ⟨tt.block k l1 hnw, fun hc => (hLL k hc).elim l3 hnw⟩
 ·
  intro i j y z k hij hi hj hyi hzj hk hkz
  have cases' : ∀ i, upds σ (outD G0 ns outs ++ callD G0 0 obs) i ≠ none → (∃ q ob, outF outs obs q = some ob ∧ i = G0 q) ∨ (σ i ≠ none ∧ i ∉ ns ∧ i ∉ (List.range obs.length).map (callG nx d)) := by
   intro i hi
   cases ho : upds σ (outD G0 ns outs ++ callD G0 0 obs) i with
   | none => exact absurd ho hi
   | some o =>
    rcases names i o ho with ⟨q, ob, h1, h2, h3⟩ | ⟨h1, h2, h3⟩
    ·
     exact .inl ⟨q, ob, h1, h2⟩
    ·
     exact .inr ⟨by rw [h1]; simp, h2, h3⟩
  have newb : ∀ q ob y k, outF outs obs q = some ob → ρ2 (G0 q) = some y → blk y = some k → ρ' q = some y ∧ W1 k := by
   intro q ob y k ho hy hk
   obtain ⟨y', hy', hlt⟩ := (hG'.ob q ob ho).lt
   have := hon q y' hy'
   rw [hy] at this; injection this with this; subst this
   exact ⟨hy', (hlt k hk).2.1⟩
  rcases cases' i hi with ⟨q, ob, h1, rfl⟩ | ⟨h1, h2, h3⟩
  ·
   rcases cases' j hj with ⟨q', ob', h1', rfl⟩ | ⟨h1', h2', h3'⟩
   ·
    have a1 := newb q ob y k h1 hyi hk
    have a2 := newb q' ob' z k h1' hzj hkz
    exact hG'.sep q q' y z k (fun e => hij (by rw [e])) (by rw [h1]; simp) (by rw [h1']; simp) a1.1 a2.1 hk hkz
   ·
    have a1 := newb q ob y k h1 hyi hk
    rw [hout j h3'] at hzj
    exact (oldb j z k h1' h2' hzj hkz).2 a1.2
  ·
   rcases cases' j hj with ⟨q', ob', h1', rfl⟩ | ⟨h1', h2', h3'⟩
   ·
    have a1 := newb q' ob' z k h1' hzj hkz
    rw [hout i h3] at hyi
    exact (oldb i y k h1 h2 hyi hk).2 a1.2
   ·
    rw [hout i h3] at hyi
    rw [hout j h3'] at hzj
    exact hG.sep i j y z k hij h1 h1' hyi hzj hk hkz
theorem as_callM {fo : Operand} {ar : Array Operand} {ats : Array TypeId} {f : FuncId} {first caps args : List V} {ins ins' : List Ob} {v : V} {outs : List (Option Ob)} {obs : List Ob} (hc : AM P f args ins v outs obs) (hwl : ∀ b, W b → LB b) (ns : List Nat) (hf : ev fo = .fn (.func f) first caps) (nx : Nat)
  (hargs : first ++ ar.toList.map ev ++ caps = V.renL (nameG nx d ns) args) (hin : V.inNL ins.length args = true) (hd : d.all (fun t => decide (t < 1000)) = true) (hobs : obs.length ≤ 90)
  (hns : ns.Nodup) (hnl : ns.length = ins.length) (hol : outs.length = ins.length) (hil : ins'.length = ins.length) (hins : ∀ (i : Nat) (o o' : Ob), ins[i]? = some o → ins'[i]? = some o' → ObEq o' (o.ren (nameG nx d ns)) ∧ o.inN ins.length) :
  AStep P W LB ⟨d, .call { callee := .value fo, args := ar, argTypes := ats }, ty, pos, af, gd⟩ ev (v.ren (nameG nx d ns)) (preD ns ins') ((List.range obs.length).map (callG nx d)) (outD (nameG nx d ns) ns outs ++ callD (nameG nx d ns) 0 obs) := by
 refine as_callMG hc hwl ns rfl (as0 := first ++ ar.toList.map ev ++ caps) (fun w L ρ g hr => ?_) nx hargs hin hd hobs hns hnl hol hil hins
 have h1 := hr fo (by simp [Op.operands, Call.operands])
 rw [hf] at h1
 obtain ⟨xs, ys, e1, hx, hy⟩ := h1.fn_inv
 have hz : RV w L ρ (ar.toList.map ev) (ar.map g).toList := by
  refine ⟨by simp, fun i u x hu hx => ?_⟩
  simp only [List.getElem?_map, Option.map_eq_some_iff, Array.toList_map] at hu hx
  obtain ⟨p, hp, rfl⟩ := hu
  obtain ⟨q, hq, rfl⟩ := hx
  rw [hp] at hq
  injection hq with hq
  subst hq
  exact hr p (by simp only [Op.operands, Call.operands]; have := List.mem_of_getElem? hp; simp at this ⊢; exact .inr this)
 refine ⟨xs ++ ar.map g ++ ys, fun hcf => ?_, ?_⟩
 ·
  simp [execOp, resolve, Deferred.ofValue, invoke, e1, hcf]
 ·
  have := (hx.append hz).append hy
  simpa using this
end
end Go.Ab

namespace Go.Ab
open Go.RowKit Go.Dw
inductive InsOk (g : Nat → Nat) (n : Nat) : List Ob → List Ob → Prop
 | nil : InsOk g n [] []
 | box {t : TypeId} {cs cs' : List V} {l l' : List Ob} (h : cs' = V.renL g cs) (hi : V.inNL n cs = true) (k : InsOk g n l l') : InsOk g n (.box t cs :: l) (.box t cs' :: l')
 | row {e sz m m' : Nat} {f f' : Nat → List V} {l l' : List Ob} (hm : m' = m) (h : ∀ i, i < m' → f' i = V.renL g (f i)) (hi : ∀ i, i < m → V.inNL n (f i) = true) (k : InsOk g n l l') : InsOk g n (.row e sz m f :: l) (.row e sz m' f' :: l')
 | mp {s : Bool × Nat} {f f' : MF} {l l' : List Ob} (h : ∀ k, f'.look k = (f.map (V.ren g)).look k) (hi : ∀ k u, f.look k = some u → V.inN n u = true) (k : InsOk g n l l') : InsOk g n (.mp s f :: l) (.mp s f' :: l')
theorem InsOk.get {g : Nat → Nat} {n : Nat} {l l' : List Ob} (h : InsOk g n l l') : l'.length = l.length ∧ ∀ (i : Nat) (o o' : Ob), l[i]? = some o → l'[i]? = some o' → ObEq o' (o.ren g) ∧ o.inN n := by
 induction h with
 | nil => exact ⟨rfl, fun i o o' h => by simp at h⟩
 | box h hi k ih =>
  refine ⟨by simp [ih.1], fun i o o' h1 h2 => ?_⟩
  cases i with
  | zero => simp at h1 h2; subst h1 h2; exact ⟨⟨rfl, h⟩, hi⟩
  | succ i => exact ih.2 i o o' (by simpa using h1) (by simpa using h2)
 | row hm h hi k ih =>
  refine ⟨by simp [ih.1], fun i o o' h1 h2 => ?_⟩
  cases i with
  | zero => simp at h1 h2; subst h1 h2; exact ⟨⟨rfl, rfl, hm, h⟩, hi⟩
  | succ i => exact ih.2 i o o' (by simpa using h1) (by simpa using h2)
 | mp h hi k ih =>
  refine ⟨by simp [ih.1], fun i o o' h1 h2 => ?_⟩
  cases i with
  | zero => simp at h1 h2; subst h1 h2; exact ⟨⟨rfl, h⟩, hi⟩
  | succ i => exact ih.2 i o o' (by simpa using h1) (by simpa using h2)
def lookS (σ : Nat → Option Ob) : List Nat → List (Option Ob)
 | [] => []
 | n :: ns => σ n :: lookS σ ns
theorem lookS_pre {σ : Nat → Option Ob} : ∀ {ns : List Nat} {l : List Ob}, lookS σ ns = l.map some → ∀ p ∈ preD ns l, σ p.1 = some p.2
 | [], l, _, p, hp => by simp [preD] at hp
 | n :: ns, [], h, p, hp => by simp [lookS] at h
 | n :: ns, o :: l, h, p, hp => by
  simp only [lookS, List.map_cons, List.cons.injEq] at h
  rcases List.mem_cons.1 hp with rfl | hp
  ·
   exact h.1
  ·
   exact lookS_pre h.2 p hp
section
variable {P : Program} {N : Nat} {C : Cx P N} {T : List TI} {ops : Array Oper} {nx : Nat} {o : Oper} {os : List Oper} {tm : Nat → V} {σ : Nat → Option Ob} {ks : List (List Nat × List Nat)} {K : (Nat → V) → (Nat → Option Ob) → List (List Nat × List Nat) → Prop} {ty : TypeId} {pos : String} {af : Array Edge}
theorem aops_callM {d : Nat} {fo : Operand} {ar : Array Operand} {ats : Array TypeId} {f : FuncId} {first caps args : List V} {ins ins' : List Ob} {v v' : V} {outs : List (Option Ob)} {obs : List Ob} {δ : List (Nat × Option Ob)} {kp : List Nat} (ns : List Nat) (hc : AM P f args ins v outs obs) (hf : ev tm fo = .fn (.func f) first caps)
  (hargs : first ++ ar.toList.map (ev tm) ++ caps = V.renL (nameG nx (some d) ns) args) (hin : V.inNL ins.length args = true) (hd : decide (d < 1000) = true) (hobs : decide (obs.length ≤ 90) = true) (hns : decide ns.Nodup = true) (hnl : ns.length = ins.length) (hol : outs.length = ins.length)
  (hσ : lookS σ ns = ins'.map some) (hins : InsOk (nameG nx (some d) ns) ins.length ins ins') (hv : v.ren (nameG nx (some d) ns) = v') (hδ : outD (nameG nx (some d) ns) ns outs ++ callD (nameG nx (some d) ns) 0 obs = δ) (hkp : keysP (preD ns ins') = kp)
  (hk : AOps C ops nx os (upd tm d v') (upds σ δ) (ks ++ [(keysD δ, kp ++ keysD δ)]) K) : AOps C ops nx (⟨some d, .call { callee := .value fo, args := ar, argTypes := ats }, ty, pos, af, none⟩ :: os) tm σ ks K := by
 subst hv hδ hkp
 have hd' : d < 1000 := of_decide_eq_true hd
 refine aops_step rfl (as_callM (d := some d) hc C.wl ns hf nx hargs hin (by simpa using hd') (of_decide_eq_true hobs) (of_decide_eq_true hns) hnl hol hins.get.1 hins.get.2) (lookS_pre hσ) ?_ hk
 intro id hid
 have hob : obs.length ≤ 90 := of_decide_eq_true hobs
 obtain ⟨j, hj, rfl⟩ := List.mem_map.1 hid
 have hj' : j < obs.length := by simpa using hj
 refine ⟨d, rfl, ?_, ?_, ?_⟩ <;> simp only [callG, Option.getD_some] <;> omega
end
section
variable {P : Program} {N : Nat} {C : Cx P N} {T : List TI} {M : List Nat} {ops : Array Oper} {nx : Nat} {o : Oper} {os : List Oper} {tm : Nat → V} {σ : Nat → Option Ob} {ks : List (List Nat × List Nat)} {K : (Nat → V) → (Nat → Option Ob) → List (List Nat × List Nat) → Prop}
end
def slO : Nat → List (Option Ob) → List (Nat × Ob)
 | _, [] => []
 | k, none :: os => slO (k + 1) os
 | k, some o :: os => (k, o) :: slO (k + 1) os
theorem mkS_slO : ∀ (os : List (Option Ob)) (k : Nat) (l : List (Nat × Ob)) (i : Nat), (i < k ∨ k + os.length ≤ i → mkS (slO k os ++ l) i = mkS l i) ∧ ∀ (j : Nat) (ob : Ob), os[j]? = some (some ob) → mkS (slO k os ++ l) (k + j) = some ob
 | [], k, l, i => ⟨fun _ => rfl, fun j ob h => by simp at h⟩
 | none :: os, k, l, i => by
  refine ⟨fun h => (mkS_slO os (k + 1) l i).1 (by simp at h; omega), fun j ob h => ?_⟩
  cases j with
  | zero => simp at h
  | succ j =>
   have := (mkS_slO os (k + 1) l i).2 j ob (by simpa using h)
   rwa [show k + (j + 1) = k + 1 + j by omega]
 | some o :: os, k, l, i => by
  have e : ∀ i, i ≠ k → mkS (slO k (some o :: os) ++ l) i = mkS (slO (k + 1) os ++ l) i := fun i hi => by
   show upd (mkS (slO (k + 1) os ++ l)) k (some o) i = _
   rw [upd_ne _ _ hi]
  refine ⟨fun h => ?_, fun j ob h => ?_⟩
  ·
   rw [e i (by simp at h; omega)]
   exact (mkS_slO os (k + 1) l i).1 (by simp at h; omega)
  ·
   cases j with
   | zero =>
    simp at h; subst h
    show upd (mkS (slO (k + 1) os ++ l)) k (some o) k = _
    exact upd_same _ _ _
   | succ j =>
    rw [e _ oM, show k + (j + 1) = k + 1 + j by omega]
    exact (mkS_slO os (k + 1) l i).2 j ob (by simpa using h)
def okR (g : Nat → Nat) : List (Option Ob) → List (Option Ob) := List.map fun o => o.map (Ob.ren g)
theorem retMx {T : List TI} {fn : Func} {n : Nat} {v v' : V} {outs : List (Option Ob)} {obs : List Ob} {e : Exit} {tm : Nat → V} {σ : Nat → Option Ob} {nx : Nat} (gl : List (Nat × Nat)) (tl : List (Nat × V)) (ex : List (Nat × Ob)) (he : e = .normal ∨ e = .ret)
  (htm : All (fun p => tm p.1 = p.2.ren (lookG gl nx)) tl) (hσ : All (fun p => ∃ ob, σ (lookG gl nx p.1) = some ob ∧ ObEq ob (p.2.ren (lookG gl nx))) (slO 0 (obs.map some) ++ (slO 500 outs ++ ex)))
  (hinj : decide (((slO 0 (obs.map some) ++ (slO 500 outs ++ ex)).map fun p => lookG gl nx p.1).Nodup) = true) (hid : gl.all (fun p => decide (p.1 < 500)) = true) (hob : decide (obs.length ≤ 90) = true)
  (hres : resV T ⟨mkT tl, mkS (slO 0 (obs.map some) ++ (slO 500 outs ++ ex)), 1⟩ fn.results.toList = some v') (hv : v' = v) (hcv : v'.ren (clampM obs.length n 1) = v') (hco : okR (clampM obs.length n 1) (obs.map some ++ outs) = obs.map some ++ outs) : RetPostM T fn n v outs obs e ⟨tm, σ, nx⟩ := by
 subst hv
 have hob := of_decide_eq_true hob
 have hren : ∀ o : Ob, some o ∈ obs.map some ++ outs → o.ren (clampM obs.length n 1) = o := by
  intro o ho
  obtain ⟨i, hi⟩ := List.getElem?_of_mem ho
  have h1 : (okR (clampM obs.length n 1) (obs.map some ++ outs))[i]? = some (some (o.ren (clampM obs.length n 1))) := by
   unfold okR; rw [List.getElem?_map, hi]; rfl
  rw [hco, hi] at h1
  injection h1 with h1; injection h1 with h1; exact h1.symm
 refine ⟨he, _, le_ren gl (tl := tl) (sl := slO 0 (obs.map some) ++ (slO 500 outs ++ ex)) htm hσ hinj hid, hres, fun i ob hi => ?_, fun i ob hi => ?_, hcv, fun ob hm => hren ob (by simp [hm]), fun ob hm => hren ob (by simp [hm])⟩
 ·
  have := (mkS_slO (obs.map some) 0 (slO 500 outs ++ ex) 0).2 i ob (by simp [hi])
  simpa using this
 ·
  have hi' := (List.getElem?_eq_some_iff.1 hi).1
  show mkS (slO 0 (obs.map some) ++ (slO 500 outs ++ ex)) (500 + i) = some ob
  rw [(mkS_slO (obs.map some) 0 (slO 500 outs ++ ex) (500 + i)).1 (by right; simp; omega)]
  exact (mkS_slO outs 500 ex 0).2 i ob hi
end Go.Ab

namespace Go.Ab
open Go.RowKit Go.Dw
section
variable {P : Program} {N : Nat} {C : Cx P N} {ops : Array Oper} {nx : Nat} {o : Oper} {os : List Oper} {tm : Nat → V} {σ : Nat → Option Ob} {ks : List (List Nat × List Nat)} {K : (Nat → V) → (Nat → Option Ob) → List (List Nat × List Nat) → Prop}
theorem aops_gfb {t : Nat} (hg : guardV (ops.toList.map (·.dst)) tm o = some (some false)) (ht : o.dst = some t) (hk : AOps C ops nx os (upd tm t (.gd false (.b false))) σ (ks ++ [([], [])]) K) : AOps C ops nx (o :: os) tm σ ks K := by
 have hw := guardV_spec hg
 have e : updO tm o.dst (.gd false (.b false)) = upd tm t (.gd false (.b false)) := by rw [ht]; rfl
 refine ⟨⟨false, .gd false (.b false), [], [], []⟩, ⟨hw, by simp, fun _ => ⟨fun _ _ _ => .gd _ _ _ _ (fun e => by cases e) fun _ => rfl, rfl, rfl⟩⟩, ?_⟩
 rw [e]; exact hk
end
end Go.Ab

namespace Go.Ab
open Go.RowKit Go.Dw
def AWR {P : Program} {N : Nat} (C : Cx P N) (c : Code) (Q : Exit → S → Prop) : Nat → S → Prop
 | 0, _ => False
 | m + 1, s => AW C c (XThen (AWR C c Q m) Q) s
section
variable {P : Program} {N : Nat} {C : Cx P N} {Q : Exit → S → Prop} {s : S} {c : Code}
theorem aw_rounds (m : Nat) (h : AWR C c Q m s) : AW C (.loop c) Q s := by
 intro a w g
 refine wpIn_loop_rounds m ?_
 have key : ∀ m s a w0 w, Tch C.W w0 w → AWR C c Q m s → Gm C s a w → Code.roundsIn C.F 0 P c (fun e a' w' => ∃ s', Q e s' ∧ Gm C s' a' w' ∧ Tch C.W w0 w') m a w := by
  intro m
  induction m with
  | zero => intro s a w0 w _ h; exact h.elim
  | succ m ih =>
   intro s a w0 w t0 h g
   refine wpIn_mono (h a w g) ?_
   rintro e a' w' ⟨s', q, g', t⟩
   cases e with
   | normal => exact ih s' a' w0 w' (t0.trans t) q g'
   | _ => exact ⟨s', q, g', t0.trans t⟩
 exact key m s a w w (Tch.refl _ _) h g
end
end Go.Ab

namespace Go.Ab
open Go.RowKit Go.Dw
inductive PQ where
 | tt
 | le (a b : Int)
 | lt (a b : Int)
 | nle (a b : Nat)
 | nlt (a b : Nat)
 | ne (a b : Int)
 | re (v : V)
 | and (p q : PQ)
def PQ.den : PQ → Prop
 | .tt => True
 | .le a b => a ≤ b
 | .lt a b => a < b
 | .nle a b => a ≤ b
 | .nlt a b => a < b
 | .ne a b => a ≠ b
 | .re v => v = v
 | .and p q => p.den ∧ q.den
def PQ.dec : PQ → Bool
 | .tt => true
 | .le a b => decide (a ≤ b)
 | .lt a b => decide (a < b)
 | .nle a b => Nat.ble a b
 | .nlt a b => Nat.blt a b
 | .ne a b => !decide (a = b)
 | .re _ => true
 | .and p q => match p.dec with
  | true => q.dec
  | false => false
theorem PQ.ok : ∀ {p : PQ}, p.dec = true → p.den
 | .tt, _ => trivial
 | .le a b, h => of_decide_eq_true (p := a ≤ b) h
 | .lt a b, h => of_decide_eq_true (p := a < b) h
 | .nle a b, h => Nat.le_of_ble_eq_true h
 | .nlt a b, h => Nat.le_of_ble_eq_true (n := a + 1) h
 | .ne a b, h => by simp only [PQ.dec, Bool.not_eq_true', decide_eq_false_iff_not] at h; exact h
 | .re _, _ => rfl
 | .and p q, h => by
  simp only [PQ.dec] at h
  split at h
  ·
   rename_i hp; exact ⟨PQ.ok hp, PQ.ok h⟩
  ·
   cases h
def inQ (k : IntKind) (n : Int) : PQ := match k with
 | .i8 => .and (.le (-128) n) (.le n 127)
 | .i16 => .and (.le (-32768) n) (.le n 32767)
 | .i32 => .and (.le (-2147483648) n) (.le n 2147483647)
 | .i64 => .and (.le (-9223372036854775808) n) (.le n 9223372036854775807)
 | .u8 => .and (.le 0 n) (.le n 255)
 | .u16 => .and (.le 0 n) (.le n 65535)
 | .u32 => .and (.le 0 n) (.le n 4294967295)
 | .u64 => .and (.le 0 n) (.le n 18446744073709551615)
def ixQ (i : Int) (n : Nat) : PQ := .and (.le 0 i) (.lt i n)
def slQ (e : Operand → V) (lo hi : Option Operand) (n : Nat) (z : Bool) : PQ := match slLo e lo, slHi e n hi with
 | some l, some h => .and (.le 0 l) (.and (.le l h) (match z with | true => .and (.le h n) (.nlt 0 n) | false => .le h n))
 | _, _ => .tt
def gdP (g : Bool) : V → List (Bool × Bool)
 | .gd g' _ => [(g', g)]
 | _ => []
def EqB (l : List (Bool × Bool)) : Prop := ∀ p ∈ l, p.1 = p.2
theorem EqB.l {a b : List (Bool × Bool)} (h : EqB (a ++ b)) : EqB a := fun p hp => h p (List.mem_append_left _ hp)
theorem EqB.r {a b : List (Bool × Bool)} (h : EqB (a ++ b)) : EqB b := fun p hp => h p (List.mem_append_right _ hp)
theorem gdP_m {g g' : Bool} {v : V} (h : EqB (gdP g (.gd g' v))) : g' = g := h (g', g) (List.mem_cons_self ..)
theorem gdP_pick {t b : Bool} {v : V} (h : EqB (gdP (t == b) v)) : pickOk t b v := by
 cases v <;> first | trivial | (intro hg; exact (gdP_m h).trans (by rw [hg]; simp))
inductive It (P : Program) where
 | c (p : Prop) (h : p)
 | g (g : Bool) (p : Prop) (h : g = true → p)
 | d
 | w
 | wc (p : Prop) (h : p)
 | q (p : Prop) (h : p)
 | f
 | cl (f : FuncId) (args : List V) (v : V) (h : AC P f args v [])
 | clg (g : Bool) (f : FuncId) (args : List V) (v : V) (h : g = true → AC P f args v [])
 | clo (f : FuncId) (args : List V) (v : V) (obs : List Ob) (h : AC P f args v obs)
inductive CE where
 | p (p : Prop)
 | b (b : Bool)
 | a (f : FuncId) (args : List V)
 | vs (l : List V)
 | n (f : Nat → List CE)
 | ys (f : Nat → Option (List (List V)))
inductive Fr where
 | c (y : Code)
 | b (id : Nat)
 | l (y : Code) (m : Nat)
 | s
inductive Cfg where
 | code (c : Code) (k : List Fr) (s : S)
 | ops (ol : List Oper) (dr : Bool) (rest : List Oper) (tm : Nat → V) (σ : Nat → Option Ob) (nx : Nat) (ks : List (List Nat × List Nat)) (k : List Fr)
 | done (e : Exit) (k : List Fr) (s : S)
structure Pm where
 T : List TI
 N : Nat
 M : List Nat
 u : Nat
 lit : Bool
structure Nx (P : Program) where
 n : Nat
 l : List (Nat × It P)
 g : Cfg
 e : List (CE × CE)
def psE : List (Bool × Bool) → List (CE × CE)
 | [] => []
 | (a, b) :: l => (.b a, .b b) :: psE l
def EqE (l : List (CE × CE)) : Prop := ∀ p ∈ l, p.1 = p.2
theorem EqE.l {a b : List (CE × CE)} (h : EqE (a ++ b)) : EqE a := fun p hp => h p (List.mem_append_left _ hp)
theorem EqE.r {a b : List (CE × CE)} (h : EqE (a ++ b)) : EqE b := fun p hp => h p (List.mem_append_right _ hp)
theorem EqE.hd {x y : CE} {l : List (CE × CE)} (h : EqE ((x, y) :: l)) : x = y := h (x, y) (List.mem_cons_self ..)
theorem EqE.tl {x : CE × CE} {l : List (CE × CE)} (h : EqE (x :: l)) : EqE l := fun p hp => h p (List.mem_cons_of_mem _ hp)
theorem EqE.ps : ∀ {l : List (Bool × Bool)}, EqE (psE l) → EqB l
 | [], _ => fun p hp => by cases hp
 | (a, b) :: l, h => fun p hp => by
  rcases List.mem_cons.1 hp with rfl | hp
  ·
   have := h.hd; injection this
  ·
   exact EqE.ps h.tl p hp
def callQ (e : Operand → V) (o : Oper) : Option (FuncId × List V) := match o.op with
 | .call c => match c.callee with
  | .value fo => match e fo with
   | .fn (.func f) first caps => some (f, first ++ c.args.toList.map e ++ caps)
   | _ => none
  | _ => none
 | _ => none
section
variable {P : Program} (pm : Pm) (n : Nat) (l : List (Nat × It P)) (ol : List Oper) (dr : Bool) (o : Oper) (os : List Oper) (tm : Nat → V) (σ : Nat → Option Ob) (nx : Nat) (ks : List (List Nat × List Nat)) (k : List Fr)
end
section
variable {P : Program} {N : Nat} (C : Cx P N) (Q : Exit → S → Prop)
end
abbrev KT : Type := List Oper → Bool → Nat → List Fr → (Nat → V) → (Nat → Option Ob) → List (List Nat × List Nat) → Prop
section
variable {P : Program} {N : Nat} {C : Cx P N} {Q : Exit → S → Prop} {KK : KT} {R : Cfg → Prop} {pm : Pm} {n : Nat} {l : List (Nat × It P)}
section
variable {ol : List Oper} {dr : Bool} {o : Oper} {os : List Oper} {tm : Nat → V} {σ : Nat → Option Ob} {nx : Nat} {ks : List (List Nat × List Nat)} {k : List Fr} {r : Nx P}
theorem AOps.mono {ops : Array Oper} {K K' : (Nat → V) → (Nat → Option Ob) → List (List Nat × List Nat) → Prop} : ∀ {os : List Oper} {tm : Nat → V} {σ : Nat → Option Ob} {ks : List (List Nat × List Nat)}, AOps C ops nx os tm σ ks K → (∀ a b c, K a b c → K' a b c) → AOps C ops nx os tm σ ks K'
 | [], _, _, _, h, hk => hk _ _ _ h
 | _ :: _, _, _, _, ⟨e, h1, h2⟩, hk => ⟨e, h1, AOps.mono h2 hk⟩
theorem callQ_spec {e : Operand → V} {f : FuncId} {as0 : List V} (h : callQ e o = some (f, as0)) : ∃ d fo ar ats ty pos af gd first caps, o = ⟨d, .call { callee := .value fo, args := ar, argTypes := ats }, ty, pos, af, gd⟩ ∧ e fo = .fn (.func f) first caps ∧ first ++ ar.toList.map e ++ caps = as0 := by
 obtain ⟨d, op, ty, pos, af, gd⟩ := o
 unfold callQ at h
 simp only at h
 split at h
 ·
  rename_i c
  obtain ⟨callee, args, ats⟩ := c
  simp only at h
  split at h
  ·
   rename_i fo
   split at h
   ·
    rename_i f' first caps hf
    injection h with h
    injection h with h1 h2
    subst h1
    exact ⟨d, fo, args, ats, ty, pos, af, gd, first, caps, rfl, hf, h2⟩
   ·
    cases h
  ·
   cases h
 ·
  cases h
end
theorem eqE_of : ∀ {l : List (CE × CE)}, l.map Prod.fst = l.map Prod.snd → EqE l
 | [], _ => fun p hp => by cases hp
 | x :: l, h => by
  simp only [List.map_cons, List.cons.injEq] at h
  intro p hp
  rcases List.mem_cons.1 hp with rfl | hp
  ·
   exact h.1
  ·
   exact eqE_of h.2 p hp
end
def tl : Nat → Code → Code
 | 0, c => c
 | j + 1, .seq _ y => tl j y
 | _ + 1, c => c
section
variable {P : Program} {N : Nat} {C : Cx P N} {T : List TI} {Q : Exit → S → Prop} {c : Code} {tm : Nat → V} {σ : Nat → Option Ob} {nx : Nat}
end
end Go.Ab

namespace Go.Ab
open Go.RowKit Go.Dw
def kExtract (v : V) (i : Nat) : Option SR := match v with
 | .tup cs => match cs[i]? with
  | some v => some (resSR True v)
  | none => none
 | _ => none
def kBin (T : List TI) (wr : Bool) (op : BinOp) (t : Nat) (u v : V) : Option SR := match binV wr op u v with
 | some (c, v) => some (resSR c v)
 | none => eqSR T op t u v
def kUn (wr : Bool) (op : UnOp) (v : V) : Option SR := match op with
 | .not => match v with
  | .c (.bool b) => some (resSR True (.b (!b)))
  | _ => none
 | .neg => match v with
  | .c (.int k a) => if wr then some (resSR True (.c (.int k (k.wrap (0 - a))))) else some (resSR (inR k (-a)) (.c (.int k (-a))))
  | _ => none
 | _ => none
def kConv (T : List TI) (wr : Bool) (s t : Nat) (v : V) : Option SR := match v with
 | .c (.int _ a) => match (T.getD t ti0).kind with
  | some k => if (T.getD s ti0).some' = true then (if wr then some (resSR True (.c (.int k (k.wrap a)))) else some (resSR (inR k a) (.c (.int k a)))) else none
  | none => none
 | _ => none
def kFld (T : List TI) (s f : Nat) (v : V) : Option SR := match ((T.getD s ti0).fld[f]?).join with
 | some off => match v with
  | .ptr cs => some (resSR True (.ptr (cs.drop off)))
  | .ref id o => some (resSR True (.ref id (o + off)))
  | .oel id sz i o => some (resSR True (.oel id sz i (o + off)))
  | _ => none
 | none => none
def kIdx (T : List TI) (t : Nat) (σ : Nat → Option Ob) (u v : V) : Option SR := match v with
 | .c (.int _ i) => indexSR T t σ u i
 | _ => none
def kSlice (T : List TI) (M : List Nat) (nx : Nat) (d : Option Tmp) (e : Operand → V) (σ : Nat → Option Ob) (t : Nat) (x : Operand) (lo hi mx : Option Operand) : Option SR := match mx with
 | none => sliceSR T M nx d e σ t x lo hi
 | some _ => none
def kAlloc (T : List TI) (nx : Nat) (d : Option Tmp) (t : Nat) : Option SR := match (T.getD t ti0).zero with
 | some zs => some ⟨True, .ref (nx * 100000 + d.getD 0) 0, [], [nx * 100000 + d.getD 0], [(nx * 100000 + d.getD 0, some (.box t zs))]⟩
 | none => none
def kBox (M : List Nat) (nx : Nat) (d : Option Tmp) (t : Nat) (v : V) : Option SR := match cellsV v with
 | some us => if M.contains (d.getD 0) then some ⟨True, .ref (nx * 100000 + d.getD 0) 0, [], [nx * 100000 + d.getD 0], [(nx * 100000 + d.getD 0, some (.box t us))]⟩
  else if V.idfL us = true then some (resSR True (.ptr us)) else none
 | none => none
def kBuild (T : List TI) (t : Nat) (parts : List (Nat × V)) : Option SR := match (T.getD t ti0).zero, (T.getD t ti0).pl with
 | some zs, some pl => match fillV (pl[·]?) zs parts with
  | some us => some (resSR True (.agg us))
  | none => none
 | _, _ => none
def kBuildS (T : List TI) (M : List Nat) (nx : Nat) (d : Option Tmp) (t n : Nat) (parts : List (Nat × V)) : Option SR := match (T.getD t ti0).elem with
 | some el => match (T.getD el ti0).zero, (T.getD el ti0).size with
  | some zs, some sz => match fillV (fun i => some (i * sz, sz)) (repV n zs) parts with
   | some cs => if zs.length = sz ∧ 0 < sz ∧ n * sz ≤ 4096 ∧ cs.length = n * sz then (if M.contains (d.getD 0) then
     some ⟨True, .own (nx * 100000 + d.getD 0), [], [nx * 100000 + d.getD 0], [(nx * 100000 + d.getD 0, some (.row el sz n fun i => (cs.drop (i * sz)).take sz))]⟩
    else if V.idfL cs = true then some (resSR True (.sl sz n fun i => (cs.drop (i * sz)).take sz)) else none) else none
   | none => none
  | _, _ => none
 | none => none
def kMake (T : List TI) (nx : Nat) (d : Option Tmp) (t : Nat) (u v : V) : Option SR := match u, v with
 | .c (.int _ l), .c (.int _ c) => match (T.getD t ti0).elem with
  | some el => match (T.getD el ti0).zero, (T.getD el ti0).size with
   | some zs, some sz => if elemOk T el sz zs then some ⟨0 ≤ l ∧ l ≤ c ∧ c ≤ 1099511627776, .own (nx * 100000 + d.getD 0), [], [nx * 100000 + d.getD 0], [(nx * 100000 + d.getD 0, some (.row el sz l.toNat fun _ => zs))]⟩ else none
   | _, _ => none
  | none => none
 | _, _ => none
def kLen (T : List TI) (σ : Nat → Option Ob) (e : Operand → V) (c : Call) : Option SR := match c.args, c.argTypes with
 | ⟨[x]⟩, ⟨[t]⟩ => lenSR T t σ (e x)
 | _, _ => none
def kApp (T : List TI) (nx : Nat) (d : Option Tmp) (ty : Nat) (σ : Nat → Option Ob) (e : Operand → V) (c : Call) : Option SR := match c.args, c.argTypes with
 | ⟨[s, x]⟩, ⟨[t, t']⟩ => match appendSR T t (nx * 100000 + d.getD 0) σ (e s) (e x) with
  | some r => if t' = t ∧ ty = t then some r else none
  | none => none
 | _, _ => none
def kMax (e : Operand → V) (c : Call) : Option SR := match c.args with
 | ⟨[x, y]⟩ => match e x, e y with
  | .c (.int k a), .c (.int k' b) => if k = k' then some (resSR True (.c (.int k (max a b)))) else none
  | _, _ => none
 | ⟨[x, y, z]⟩ => match e x, e y, e z with
  | .c (.int k a), .c (.int k' b), .c (.int k'' q) => if k = k' ∧ k = k'' then some (resSR True (.c (.int k (max (max a b) q)))) else none
  | _, _, _ => none
 | ⟨[x, y, z, u]⟩ => match e x, e y, e z, e u with
  | .c (.int k a), .c (.int k' b), .c (.int k'' q), .c (.int k3 p) => if k = k' ∧ k = k'' ∧ k = k3 then some (resSR True (.c (.int k (max (max (max a b) q) p)))) else none
  | _, _, _, _ => none
 | _ => none
def kMin (e : Operand → V) (c : Call) : Option SR := match c.args with
 | ⟨[x, y]⟩ => match e x, e y with
  | .c (.int k a), .c (.int k' b) => if k = k' then some (resSR True (.c (.int k (min a b)))) else none
  | _, _ => none
 | _ => none
def kCall (T : List TI) (nx : Nat) (d : Option Tmp) (ty : Nat) (σ : Nat → Option Ob) (e : Operand → V) (c : Call) : Option SR := match c.callee with
 | .builtin .len => kLen T σ e c
 | .builtin .append => kApp T nx d ty σ e c
 | .builtin .max => kMax e c
 | .builtin .min => kMin e c
 | _ => none
def kstep1 (T : List TI) (wr : Bool) (M : List Nat) (nx : Nat) (o : Oper) (e : Operand → V) (σ : Nat → Option Ob) : Option SR :=
 match o.op with
 | .move x => some (resSR True (e x))
 | .assign x => some (resSR True (e x))
 | .extract x i => kExtract (e x) i
 | .binOp op t x y _ => kBin T wr op t (e x) (e y)
 | .unOp op _ x => kUn wr op (e x)
 | .convert s t x => kConv T wr s t (e x)
 | .fieldAddr s x f => kFld T s f (e x)
 | .indexAddr t x ix => kIdx T t σ (e x) (e ix)
 | .load t x => loadSR T t σ (e x)
 | .store t x y => storeSR T t σ (e x) (e y)
 | .slice t x lo hi mx => kSlice T M nx o.dst e σ t x lo hi mx
 | .alloc t => kAlloc T nx o.dst t
 | .box t y => kBox M nx o.dst t (e y)
 | .build t parts => kBuild T t (parts.toList.map fun p => (p.1, e p.2))
 | .buildSlice t n parts => kBuildS T M nx o.dst t n (parts.toList.map fun p => (p.1, e p.2))
 | .makeSlice t x y => kMake T nx o.dst t (e x) (e y)
 | .makeFunc f first caps => some (resSR True (.fn f (first.toList.map e) (caps.toList.map e)))
 | .call c => kCall T nx o.dst o.type σ e c
 | _ => none
theorem kstep1_eq (T : List TI) (wr : Bool) (M : List Nat) (nx : Nat) (o : Oper) (e : Operand → V) (σ : Nat → Option Ob) : kstep1 T wr M nx o e σ = astep T wr M nx o e σ := by
 obtain ⟨d, op, ty, pos, af, gd⟩ := o
 cases op <;> try rfl
 case unOp op t x => cases op <;> rfl
def k2Idx (T : List TI) (t : Nat) (u v : V) : Option SR := match u, v with
 | .agg cs, .c (.int _ i) => match (T.getD t ti0).arr with
  | some (n, el) => match (T.getD el ti0).size with
   | some sz => match loadV T el (cs.drop (i.toNat * sz)) with
    | some v => some (resSR (0 ≤ i ∧ i < n) v)
    | none => none
   | none => none
  | none => none
 | _, _ => none
def k2Build (T : List TI) (t : Nat) (parts : List (Nat × V)) : Option SR := match (T.getD t ti0).zero, (T.getD t ti0).arr with
 | some zs, some (_, el) => match (T.getD el ti0).size with
  | some sz => match fillV (fun i => some (i * sz, sz)) zs parts with
   | some us => some (resSR True (.agg us))
   | none => none
  | none => none
 | _, _ => none
def k2Slice (T : List TI) (t : Nat) (v : V) (lo hi mx : Option Operand) : Option SR := match lo, hi, mx with
 | none, none, none => match v, (T.getD t ti0).arr with
  | .ptr cs, some (n, el) => match (T.getD el ti0).size with
   | some sz => if cs.length = n * sz then some (resSR True (.sl sz n fun i => (cs.drop (i * sz)).take sz)) else none
   | none => none
  | _, _ => none
 | _, _, _ => none
def k2Copy (T : List TI) (σ : Nat → Option Ob) (e : Operand → V) (c : Call) : Option SR := match c.args, c.argTypes with
 | ⟨[x, y]⟩, ⟨[t, _]⟩ => match (T.getD t ti0).elem with
  | some el => if (T.getD el ti0).size = some 1 then (match e x, e y with
   | .own id, .sl sz m row' => match σ id with
    | some (.row e' sz' n row) => if sz = 1 ∧ sz' = 1 then some ⟨0 < n ∧ 0 < m, .i ((min m n : Nat) : Int), [(id, .row e' sz' n row)], [], [(id, some (.row e' sz' n fun j => if j < min m n then row' j else row j))]⟩ else none
    | _ => none
   | _, _ => none) else none
  | none => none
 | _, _ => none
def k2Eq (T : List TI) (t : Nat) (u v : V) : Option SR := match u, v with
 | .c (.bool a), .c (.bool b) => if (T.getD t ti0).eqn = some 1000000 then some (resSR True (.b (a == b))) else none
 | .c (.string a), .c (.string b) => some (resSR True (.b (a.toList == b.toList)))
 | u, .c (.pointer none) => match ptrNil u with
  | some b => if (T.getD t ti0).eqn = some 1000002 then some (resSR True (.b b)) else none
  | none => none
 | _, _ => match (T.getD t ti0).elem with
  | some _ => match nilV u v with
   | some (c, b) => some (resSR c (.b (b)))
   | none => none
  | none => none
def k2Ne (T : List TI) (t : Nat) (u v : V) : Option SR := match u, v with
 | .c (.bool a), .c (.bool b) => if (T.getD t ti0).eqn = some 1000000 then some (resSR True (.b (!(a == b)))) else none
 | .c (.string a), .c (.string b) => some (resSR True (.b (!(a.toList == b.toList))))
 | u, .c (.pointer none) => match ptrNil u with
  | some b => if (T.getD t ti0).eqn = some 1000002 then some (resSR True (.b (!b))) else none
  | none => none
 | _, _ => match (T.getD t ti0).elem with
  | some _ => match nilV u v with
   | some (c, b) => some (resSR c (.b (!b)))
   | none => none
  | none => none
def k2Bin (T : List TI) (op : BinOp) (t : Nat) (u v : V) : Option SR := match op with
 | .eql => k2Eq T t u v
 | .neq => k2Ne T t u v
 | _ => none
def k2Call (T : List TI) (σ : Nat → Option Ob) (e : Operand → V) (c : Call) : Option SR := match c.callee with
 | .builtin .copy => k2Copy T σ e c
 | _ => none
def k2Nil (v : V) : Option SR := match v.isPtr with
 | true => some (resSR True v)
 | false => none
def kstep2 (T : List TI) (o : Oper) (e : Operand → V) (σ : Nat → Option Ob) : Option SR :=
 match o.op with
 | .index t x ix => k2Idx T t (e x) (e ix)
 | .build t parts => k2Build T t (parts.toList.map fun p => (p.1, e p.2))
 | .slice t x lo hi mx => k2Slice T t (e x) lo hi mx
 | .call c => k2Call T σ e c
 | .nilCheck x => k2Nil (e x)
 | .binOp op t x y _ => k2Bin T op t (e x) (e y)
 | _ => none
theorem kstep2_eq (T : List TI) (o : Oper) (e : Operand → V) (σ : Nat → Option Ob) : kstep2 T o e σ = astep2 T o e σ := by
 obtain ⟨d, op, ty, pos, af, gd⟩ := o
 cases op <;> try rfl
 case binOp op t x y t' => cases op <;> rfl
 case slice t x lo hi mx => cases lo <;> cases hi <;> cases mx <;> rfl
 case nilCheck x =>
  show k2Nil (e x) = if (e x).isPtr = true then some (resSR True (e x)) else none
  unfold k2Nil
  cases (e x).isPtr <;> rfl
def kstep (T : List TI) (wr : Bool) (M : List Nat) (nx : Nat) (o : Oper) (e : Operand → V) (σ : Nat → Option Ob) : Option SR :=
 match kstep1 T wr M nx o e σ with
 | some r => some r
 | none => match kstep2 T o e σ with
  | some r => some r
  | none => match astep3 T nx o e σ with
   | some r => some r
   | none => astep4 T o e
theorem kstep_eq (T : List TI) (wr : Bool) (M : List Nat) (nx : Nat) (o : Oper) (e : Operand → V) (σ : Nat → Option Ob) : kstep T wr M nx o e σ = astepX T wr M nx o e σ := by
 unfold kstep astepX
 rw [kstep1_eq, kstep2_eq]
 rfl
def qAr (wr : Bool) (op : BinOp) (k : IntKind) (a b : Int) : PQ := match op with
 | .add => match wr with | true => .tt | false => inQ k (a + b)
 | .sub => match wr with | true => .tt | false => inQ k (a - b)
 | .mul => match wr with | true => .tt | false => inQ k (a * b)
 | .quo => match wr with | true => .ne b 0 | false => .and (.lt 0 b) (inQ k a)
 | .rem => .ne b 0
 | .shl => match wr with | true => .le 0 b | false => .and (.le 0 b) (.and (.le b k.bits) (inQ k (a * 2 ^ b.toNat)))
 | .shr => .le 0 b
 | _ => .tt
def qBin (wr : Bool) (op : BinOp) (u v : V) : PQ := match u, v with
 | .c (.int k a), .c (.int _ b) => qAr wr op k a b
 | .sl _ n _, .nil => .nlt 0 n
 | .nil, .sl _ n _ => .nlt 0 n
 | _, _ => .tt
def qNeg (wr : Bool) (v : V) : PQ := match v with
 | .c (.int k a) => match wr with | true => .tt | false => inQ k (-a)
 | _ => .tt
def qConv (T : List TI) (wr : Bool) (t : Nat) (v : V) : PQ := match v with
 | .c (.int _ a) => match (T.getD t ti0).kind with
  | some k => match wr with | true => .tt | false => inQ k a
  | none => .tt
 | _ => .tt
def qArr (T : List TI) (t : Nat) (i : Int) : PQ := match (T.getD t ti0).arr with
 | some (n, _) => ixQ i n
 | none => .tt
def qIdx (T : List TI) (t : Nat) (σ : Nat → Option Ob) (u v : V) : PQ := match v with
 | .c (.int _ i) => match u with
  | .sl _ n _ => ixQ i n
  | .own id => match σ id with
   | some (.row _ _ n _) => ixQ i n
   | _ => .tt
  | _ => qArr T t i
 | _ => .tt
def qIx2 (T : List TI) (t : Nat) (u v : V) : PQ := match v with
 | .c (.int _ i) => match u with
  | .c (.string b) => ixQ i b.size
  | _ => qArr T t i
 | _ => .tt
def qLoad (σ : Nat → Option Ob) (v : V) : PQ := match v with
 | .ref id o => match σ id with
  | some (.box _ cs) => .nle o cs.length
  | _ => .tt
 | .oel id _ i o => match σ id with
  | some (.row _ _ n row) => .and (.nlt i n) (.nle o (row i).length)
  | _ => .tt
 | _ => .tt
def qStore (σ : Nat → Option Ob) (u v : V) : PQ := match cellsV v with
 | some us => match u with
  | .ref id o => match σ id with
   | some (.box _ cs) => .nle (o + us.length) cs.length
   | _ => .tt
  | .oel id _ i o => match σ id with
   | some (.row _ _ n row) => .and (.nlt i n) (.nle (o + us.length) (row i).length)
   | _ => .tt
  | _ => .tt
 | none => .tt
def qSlice (σ : Nat → Option Ob) (e : Operand → V) (v : V) (lo hi : Option Operand) : PQ := match v with
 | .sl _ n _ => slQ e lo hi n false
 | .own id => match σ id with
  | some (.row _ _ n _) => slQ e lo hi n true
  | _ => .tt
 | .c (.string b) => slQ e lo hi b.size false
 | _ => .tt
def qMake (u v : V) : PQ := match u, v with
 | .c (.int _ l), .c (.int _ c) => .and (.le 0 l) (.and (.le l c) (.le c 1099511627776))
 | _, _ => .tt
def qApp (σ : Nat → Option Ob) (e : Operand → V) (c : Call) : PQ := match c.args with
 | ⟨[s, x]⟩ => match e x with
  | .sl _ m _ => match e s with
   | .nil => .nle m 1099511627776
   | .own id => match σ id with
    | some (.row _ _ n _) => .nle (n + m) 1099511627776
    | _ => .tt
   | _ => .tt
  | .own id1 => match σ id1 with
   | some (.row _ _ m _) => match e s with
    | .nil => .nle m 1099511627776
    | .own id => match σ id with
     | some (.row _ _ n _) => .nle (n + m) 1099511627776
     | _ => .tt
    | _ => .tt
   | _ => .tt
  | _ => .tt
 | _ => .tt
def qCopy (σ : Nat → Option Ob) (e : Operand → V) (c : Call) : PQ := match c.args with
 | ⟨[x, y]⟩ => match e x, e y with
  | .own id, .sl _ m _ => match σ id with
   | some (.row _ _ n _) => .and (.nlt 0 n) (.nlt 0 m)
   | _ => .tt
  | _, _ => .tt
 | _ => .tt
def qCall (σ : Nat → Option Ob) (e : Operand → V) (c : Call) : PQ := match c.callee with
 | .builtin .append => qApp σ e c
 | .builtin .copy => qCopy σ e c
 | _ => .tt
def qLook (T : List TI) (t : Nat) (σ : Nat → Option Ob) (u v : V) : PQ := match mcode T t, u, mkOf v with
 | some (_, et), .own id, some key => match σ id with
  | some (.mp _ f) => match vzOf T et with
   | some vz => match (T.getD et ti0).kind with
    | some _ => .re (mget f key vz)
    | none => .tt
   | none => .tt
  | _ => .tt
 | _, _, _ => .tt
def qStep (T : List TI) (wr : Bool) (o : Oper) (e : Operand → V) (σ : Nat → Option Ob) : PQ :=
 match o.op with
 | .binOp op _ x y _ => qBin wr op (e x) (e y)
 | .unOp .neg _ x => qNeg wr (e x)
 | .convert _ t x => qConv T wr t (e x)
 | .indexAddr t x ix => qIdx T t σ (e x) (e ix)
 | .index t x ix => qIx2 T t (e x) (e ix)
 | .load _ x => qLoad σ (e x)
 | .store _ x y => qStore σ (e x) (e y)
 | .slice _ x lo hi none => qSlice σ e (e x) lo hi
 | .makeSlice _ x y => qMake (e x) (e y)
 | .lookup t m k _ => qLook T t σ (e m) (e k)
 | .call c => qCall σ e c
 | _ => .tt
end Go.Ab

namespace Go.Ab
open Go.RowKit Go.Dw
theorem Real.weak {W W' : Nat → Prop} {w : World} {L : Nat → Prop} {ρ ρ' : Nat → Option Value} {id : Nat} {o : Ob} (h : Real W w L ρ id o) (hW : ∀ b, W b → W' b) (hρ : ∀ j y, ρ j = some y → ρ' j = some y) : Real W' w L ρ' id o := by
 have e : Ext w L ρ w L ρ' := ⟨fun _ hb => ⟨hb, rfl⟩, hρ⟩
 cases o with
 | box t cs =>
  obtain ⟨b, xs, h1, h2, h3, h4, h5⟩ := h
  exact ⟨b, xs, hρ _ _ h1, hW _ h2, h3, h4, h5.ext e⟩
 | row t sz n row =>
  obtain ⟨v, xs, h1, h2, h3, h4, h5⟩ := h
  exact ⟨v, xs, hρ _ _ h1, h2, h3, h4.ext e, fun k hk => ⟨hW _ (h5 k hk).1, (h5 k hk).2⟩⟩
 | mp str f =>
  obtain ⟨b, es, cl, h1, h2, h3, h4, h5⟩ := h
  exact ⟨b, es, cl, hρ _ _ h1, hW _ h2, h3, h4, h5.imp fun _ _ _ _ h => h.ext e⟩
theorem AC.row {P : Program} {f : FuncId} {args args' : List V} {v : V} {obs : List Ob} (h : AC P f args' v obs) (e : TypeId) {sz n n' : Nat} {row row' : Nat → List V} (ha : V.fzL 500 (.sl sz n row) args = args') (hi : V.idfL args' = true) (ho : obs.length ≤ 90) (hn : n' = n) (hr : ∀ i, i < n' → row' i = row i) (hi2 : ∀ i, V.idfL (row i) = true) :
  AM P f args [.row e sz n' row'] v [none] obs := by
 subst hn
 refine ⟨h.1, fun W LB L w ρ vs hwl hWL hG hρ hvs => ?_⟩
 have hσ : insF [.row e sz n' row'] 500 = some (.row e sz n' row') := rfl
 have hre : Real W w L ρ 500 (.row e sz n' row) := (hG.ob 500 _ hσ).eq ⟨rfl, rfl, rfl, hr⟩
 obtain ⟨v0, hv0, hlt, hs⟩ := hre.slice fun i _ => hi2 i
 have ex : Ext w L ρ w (fun b => L b ∨ blk v0 = some b) ρ := ⟨fun b hb => ⟨.inl hb, rfl⟩, fun _ _ h => h⟩
 have hrv : RV w (fun b => L b ∨ blk v0 = some b) ρ0 args' vs.toList := by
  refine RV.free (ρ := ρ) ?_ hi
  rw [← ha]
  refine ⟨by rw [V.fzL_len]; exact hvs.1, fun i u x hu hx => ?_⟩
  rw [V.fzL_get] at hu
  cases hc : args[i]? with
  | none => rw [hc] at hu; cases hu
  | some a =>
   rw [hc] at hu
   simp only [Option.map_some, Option.some.injEq] at hu
   subst hu
   refine R_fz (fun y hy => ?_) _ _ ((hvs.2 i a x hc hx).ext ex)
   rw [hv0] at hy; injection hy with hy; subst hy; exact hs
 refine (h.2 (fun b => L b ∨ blk v0 = some b) w vs (fun b hb => ?_) (hG.glE ex) hrv).mono ?_
 ·
  rcases hb with hb | hb
  ·
   exact (hG.ll b hb).1
  ·
   exact (hlt b hb).1
 rintro ee w' ⟨x, rfl, hbel, L', ρ', hG', hL', hv, hnn⟩
 obtain ⟨ρ2, hρ2⟩ : ∃ ρ2 : Nat → Option Value, ∀ id, ρ2 id = if id < obs.length then ρ' id else ρ id := ⟨_, fun _ => rfl⟩
 have hon : ∀ j y, ρ' j = some y → ρ2 j = some y := fun j y hy => by
  rw [hρ2]
  by_cases hj : j < obs.length
  ·
   rw [if_pos hj]; exact hy
  ·
   rw [hnn j oM] at hy; cases hy
 have ex2 : Ext w' L' ρ' w' L' ρ2 := ⟨fun _ hb => ⟨hb, rfl⟩, hon⟩
 refine ⟨x, rfl, Tch.of_below hbel fun k _ hk => (hG.new k hk).1, L', ρ2, ⟨fun b hb => ?_, fun b hb => hG.new b (Nat.le_trans hbel.size hb), fun id o hio => ?_, fun i j y z k hij hi hj hy hz => ?_, hG.glL fun b hb => ⟨hL' b (.inl hb), hbel.block b (hG.ll b hb).1⟩⟩, ⟨fun b hb => ⟨hL' b (.inl hb), hbel.block b (hG.ll b hb).1⟩, fun id y hy => ?_⟩, hv.ext ex2, fun j hj hj5 => ?_⟩
 ·
  have := hG'.ll b hb
  refine ⟨this.1, ?_⟩
  rcases this.2 with (h1 | h1) | h1
  ·
   exact (hG.ll b h1).2
  ·
   exact hwl b (hlt b h1).2.1
  ·
   exact (hG.new b h1).2
 ·
  have hob : obsF obs id = some o := by
   unfold outF at hio
   split at hio
   ·
    cases hq : ([none] : List (Option Ob))[id - 500]? with
    | none => rw [hq] at hio; cases hio
    | some q =>
     rw [hq] at hio
     have : q = none := by
      have := List.mem_of_getElem? hq
      simpa using this
     rw [this] at hio; cases hio
   ·
    exact hio
  exact (hG'.ob id o hob).weak (fun b hb => (hG.new b hb).1) hon
 ·
  have key : ∀ i, outF [none] obs i ≠ none → obsF obs i ≠ none ∧ i < obs.length := fun i hi => by
   unfold outF at hi
   split at hi
   ·
    exfalso
    apply hi
    cases hq : ([none] : List (Option Ob))[i - 500]? with
    | none => rfl
    | some q =>
     have : q = none := by
      have := List.mem_of_getElem? hq
      simpa using this
     rw [this]; rfl
   ·
    refine ⟨hi, ?_⟩
    cases hq : obs[i]? with
    | none => exact absurd hq hi
    | some q => exact (List.getElem?_eq_some_iff.1 hq).1
  rw [hρ2, if_pos (key i hi).2] at hy
  rw [hρ2, if_pos (key j hj).2] at hz
  exact hG'.sep i j y z k hij (key i hi).1 (key j hj).1 hy hz
 ·
  rw [hρ2]
  by_cases hid : id < obs.length
  ·
   rw [hρ id (.inl oM)] at hy; cases hy
  ·
   rw [if_neg hid]; exact hy
 ·
  rw [hρ2, if_neg oM]
  exact hρ j hj5
end Go.Ab
