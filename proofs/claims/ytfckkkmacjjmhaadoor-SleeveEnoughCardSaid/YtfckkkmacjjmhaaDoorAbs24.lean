/-
  A row that is not written any more, seen also where a cell holds it; what is handed back out of cells. No condition.
-/
import Derived.Test.YtfckkkmacjjmhaaDoorMD
namespace Go.Ab
open Go.RowKit Go.Dw

def Ob.fz (id : Nat) (v : V) : Ob → Ob
  | .box t cs => .box t (V.fzL id v cs)
  | .row e sz n r => .row e sz n r
  | .mp s f => .mp s fun k => (f k).map (V.fz id v)
def fzS (σ : Nat → Option Ob) (id : Nat) (v : V) : Nat → Option Ob := fun i => if i = id then none else (σ i).map (Ob.fz id v)
theorem Le.freezeIn {s : S} (id : Nat) {e sz n : Nat} {row row' : Nat → List V} (hσ : s.σ id = some (.row e sz n row)) (hi : ∀ i, i < n → V.idfL (row i) = true) (he' : ∀ i, i < n → row i = row' i) :
    Le s ⟨fun t => V.fz id (.sl sz n row') (s.tm t), fzS s.σ id (.sl sz n row'), s.nx⟩ := by
  intro P N C a w ⟨L, ρ, h⟩
  obtain ⟨v, xs, hv, hown, hsz, hl, hb⟩ := h.g.ob id _ hσ
  have hlt := (h.g.ob id _ hσ).lt
  obtain ⟨v', hv', hlt⟩ := hlt
  rw [hv] at hv'; injection hv' with hv'; subst hv'
  have ex : Ext w L ρ w (fun b => L b ∨ blk v = some b) ρ := ⟨fun b hb => ⟨.inl hb, rfl⟩, fun _ _ h => h⟩
  have h0 : ∀ y, ρ id = some y → R w (fun b => L b ∨ blk v = some b) ρ (.sl sz n row') y := by
    intro y hy
    refine R_rows (row := row) ?_ he'
    rw [hv] at hy; injection hy with hy; subst hy
    obtain ⟨A, c, hA⟩ : ∃ A c, v = .slice A n c := by
      rcases hown.2 with ⟨h1, h2⟩ | ⟨g', cap, cur, h1, _⟩
      · exact ⟨_, _, by rw [h1, h2]⟩
      · exact ⟨_, _, h1⟩
    have hcap : n ≤ c := by
      rcases hown.2 with ⟨h1, h2⟩ | ⟨g', cap, cur, h1, _, _, h3, _⟩
      · omega
      · rw [h1] at hA; injection hA with _ _ hA3; omega
    rw [hA]
    refine .sl' hcap fun hpos => ?_
    rcases hown.2 with ⟨_, h2⟩ | ⟨g', cap, cur, h1, _, hh, hc1, hc2, hc3, hc4⟩
    · omega
    · rw [h1] at hA
      injection hA with hA1 hA2 hA3
      refine ⟨g', 0, hA1.symm, .inr (by rw [← hA1]; rfl), fun i hi => ?_, fun i j u hil hu => ?_⟩
      · exact hsz i hi
      · have hj : j < sz := by rw [← hsz i hil]; exact (List.getElem?_eq_some_iff.1 hu).1
        have hfl : (slRows n row).flatten[i * sz + j]? = some u := by rw [flat_get (slRows_sz hsz) (slRows_get hil) hj, hu]
        obtain ⟨y, hy, hry, hone⟩ := hl.get hfl
        refine ⟨y, ?_, hone, (hry.free (V.idfL_get (hi i hil) hu) ρ0).ext ⟨fun b hb => ⟨.inl hb, rfl⟩, fun _ _ h => h⟩⟩
        rw [cell_of_row w g' _ cur e (0, 0) hh, Nat.zero_add]
        rw [← hc4, List.getElem?_take] at hy
        split at hy
        · simpa using hy
        · cases hy
  refine ⟨fun b => L b ∨ blk v = some b, ρ, ⟨⟨fun b hbl => ?_, h.g.new, fun id' o (ho : fzS s.σ id _ id' = some o) => ?_, ?_, h.g.glE ex⟩, h.fr, fun t => R_fz h0 _ _ ((h.tm t).ext ex), h.size, ?_, h.pin⟩⟩
  · rcases hbl with hbl | hbl
    · exact h.g.ll b hbl
    · exact ⟨(hlt b hbl).1, C.wl b (hlt b hbl).2.1⟩
  · by_cases he : id' = id
    · subst he; rw [fzS, if_pos rfl] at ho; cases ho
    · rw [fzS, if_neg he] at ho
      cases ho' : s.σ id' with
      | none => rw [ho'] at ho; cases ho
      | some o' =>
      rw [ho'] at ho
      injection ho with ho
      subst ho
      have k := (h.g.ob id' o' ho').keep ex fun x k hx hk => ⟨rfl, by
        rintro (hL | hL)
        · obtain ⟨y, hy, hy2⟩ := (h.g.ob id' o' ho').lt
          rw [hx] at hy; injection hy with hy; subst hy
          exact (hy2 k hk).2.2 hL
        · exact h.g.sep id' id x v k he (by rw [ho']; simp) (by rw [hσ]; simp) hx hv hk hL⟩
      cases o' with
      | row _ _ _ _ => exact k
      | mp str f =>
        obtain ⟨B, es, cl, hv', hBW, hBL, hh, hl⟩ := k
        exact ⟨B, es, cl, hv', hBW, hBL, hh, hl.map _ fun i u x _ hr => R_fz h0 _ _ hr⟩
      | box t cs =>
        obtain ⟨B, xs, hv', hBW, hBL, hh, hl⟩ := k
        refine ⟨B, xs, hv', hBW, hBL, hh, ⟨by rw [← hl.1, V.fzL_len], fun i u x hu hx => ?_⟩⟩
        rw [V.fzL_get] at hu
        cases hc : cs[i]? with
        | none => rw [hc] at hu; cases hu
        | some u' =>
          rw [hc] at hu
          injection hu with hu
          subst hu
          obtain ⟨q1, q2⟩ := hl.2 i u' x hc hx
          exact ⟨R_fz h0 _ _ q1, q2⟩
  · intro i j x y k hij hi' hj hx hy hk
    refine h.g.sep i j x y k hij (fun hc => hi' ?_) (fun hc => hj ?_) hx hy hk
    · show fzS s.σ id _ i = none
      rw [fzS, hc]
      split <;> rfl
    · show fzS s.σ id _ j = none
      rw [fzS, hc]
      split <;> rfl
  · obtain ⟨Ds, h4, h5, h6⟩ := h.defers
    refine ⟨Ds, h4, h5, fun D hD => ?_⟩
    obtain ⟨h7, h8, h9⟩ := h6 D hD
    refine ⟨h7, h8, ?_⟩
    rintro (hL | hL)
    · exact h9 hL
    · rcases hown.2 with ⟨h, _⟩ | ⟨g', cap, cur, h, _, hh, _⟩
      · rw [h] at hL; simp [blk] at hL
      · rw [h] at hL; simp [blk] at hL; subst hL; rw [hh] at h7; cases h7
/-- an own row seen as a slice everywhere, told as wanted where a temp or a cell holds it -/
theorem le_freezeIn {tm : Nat → V} {σ : Nat → Option Ob} {nx : Nat} (id : Nat) {e sz n n' : Nat} {row row' : Nat → List V} (hσ : σ id = some (.row e sz n row)) (hi : ∀ i, V.idfL (row' i) = true) (hn : n = n') (he : ∀ i, i < n → row i = row' i) :
    Le ⟨tm, σ, nx⟩ ⟨fun t => V.fz id (.sl sz n' row') (tm t), fzS σ id (.sl sz n' row'), nx⟩ := by
  subst hn
  exact Le.freezeIn (s := ⟨tm, σ, nx⟩) id hσ (fun i h => by rw [he i h]; exact hi i) he

/-! a scope through which the run goes without a goto -/
section
variable {P : Program} {b : Frame} {a : Act} {k : List Item} {cs : List Frame} {w : World} {F : Fence} {n : Nat}
theorem stepR_scope {c : Code} : step P (lone (b.atR a (.code (.scope c) :: k)) cs w) = .next (lone (b.atR a (.code c :: .inScope c :: k)) cs w) :=
  step_lone_go (by simp [stepG, stepG.exec, Frame.atR])
theorem stepR_inScope {c : Code} : step P (lone (b.atR a (.inScope c :: k)) cs w) = .next (lone (b.atR a k) cs w) :=
  step_lone_go (by simp [stepG, stepG.exec, Frame.atR])
def ExScope (Q : Exit → Act → World → Prop) : Exit → Act → World → Prop
  | .goto _, _, _ => False
  | e, a, w => Q e a w
theorem wpIn_scope {c : Code} {Q : Exit → Act → World → Prop} (h : c.wpIn F n P (ExScope Q) a w) : (Code.scope c).wpIn F n P Q a w := by
  intro b k cs hro hb hr
  have h0 : (lone (b.atR a (.code (.scope c) :: k)) cs w).fenced P F := fenced_calm hb hr rfl
  obtain ⟨e, a₁, w₁, hq, harr⟩ := h b (.inScope c :: k) cs hro hb hr
  cases e with
  | normal => exact ⟨.normal, a₁, w₁, hq, .head h0 stepR_scope (StepsIn.trans harr (.one (fenced_calm hb hr rfl) stepR_inScope))⟩
  | exit id =>
    have hx : exitTo id (.inScope c :: k) = exitTo id k := by simp [exitTo]
    exact ⟨.exit id, a₁, w₁, hq, fun k' hk => .head h0 stepR_scope (harr.1 k' (by rw [hx]; exact hk)),
      fun hr' hk => let ⟨k₁, h1, h2⟩ := harr.2 hr' (by rw [hx]; exact hk); ⟨k₁, h1, .head h0 stepR_scope h2⟩⟩
  | goto l => exact hq.elim
  | ret => exact ⟨_, a₁, w₁, hq, .of_steps (.one h0 stepR_scope) harr⟩
  | panic ch => exact ⟨_, a₁, w₁, hq, .of_steps (.one h0 stepR_scope) harr⟩
  | outgrown => exact ⟨_, a₁, w₁, hq, .of_steps (.one h0 stepR_scope) harr⟩
end
def XScope (Q : Exit → S → Prop) : Exit → S → Prop
  | .goto _, _ => False
  | e, s => Q e s
section
variable {P : Program} {N : Nat} {C : Cx P N} {Q : Exit → S → Prop} {s : S} {id : Nat}
theorem aw_scope {c : Code} (h : AW C c (XScope Q) s) : AW C (.scope c) Q s := by
  intro a w g
  refine wpIn_scope (wpIn_mono (h a w g) ?_)
  rintro e a' w' ⟨s', q, g', t⟩
  cases e with
  | goto l => exact q.elim
  | _ => exact ⟨s', q, g', t⟩
theorem xs_n (h : Q .normal s) : XScope Q .normal s := h
theorem xs_r (h : Q .ret s) : XScope Q .ret s := h
theorem xs_x (h : Q (.exit id) s) : XScope Q (.exit id) s := h
end
end Go.Ab
