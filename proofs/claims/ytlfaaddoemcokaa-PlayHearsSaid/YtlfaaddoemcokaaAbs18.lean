/-
  Bridges between contracts of two kinds. No condition.
-/
import Derived.Test.YtlfaaddoemcokaaAbs17
namespace Go.Ab
open Go.RowKit Go.Dw

/-- a slice of numbers of one kind -/
def V.nums (k : IntKind) (l : List Int) : V := .sl 1 l.length fun i => [.c (.int k (gi l i))]
def encN (k : IntKind) (x : Int) : List Value := [.int k x]
section
variable {w : World} {L : Nat → Prop} {ρ : Nat → Option Value} {A : Option Addr} {n c : Nat}
theorem R_nums {k : IntKind} {l : List Int} (h : SlAt (fun x => [.int k x]) 1 w A n l) (hcap : n ≤ c) (hL : ∀ b, A.map (·.block) = some b → L b) : R w L ρ (V.nums k l) (.slice A n c) := by
  have hl := h.1
  subst hl
  refine R.sl' hcap fun hn => ?_
  obtain ⟨b, o, hA, hb, hc⟩ := h.2.2 hn
  subst hA
  refine ⟨b, o, rfl, hL b rfl, fun _ _ => rfl, fun i j u hi hu => ?_⟩
  cases j with
  | zero =>
    simp at hu; subst hu
    have := hc i hi 0 (by decide)
    simp at this
    exact ⟨_, by simpa using this, rfl, by rw [gi_eq hi]; exact .c _ _⟩
  | succ j => simp at hu
theorem R_ints {l : List Int} (h : IntsAt w A n l) (hcap : n ≤ c) (hL : ∀ b, A.map (·.block) = some b → L b) : R w L ρ (V.ints l) (.slice A n c) := R_nums (k := .i64) h hcap hL
theorem R_pts {l : List Pt} (h : PtsAt w A n l) (hcap : n ≤ c) (hL : ∀ b, A.map (·.block) = some b → L b) : R w L ρ (V.pts l) (.slice A n c) := by
  have hl := h.1
  subst hl
  refine R.sl' hcap fun hn => ?_
  obtain ⟨b, o, hA, hb, hc⟩ := h.2.2 hn
  subst hA
  refine ⟨b, o, rfl, hL b rfl, fun _ _ => rfl, fun i j u hi hu => ?_⟩
  have h0 := hc i hi 0 (by decide)
  have h1 := hc i hi 1 (by decide)
  simp [encP] at h0 h1
  match j, hu with
  | 0, hu => simp at hu; subst hu; exact ⟨_, by simpa using h0, rfl, by rw [gp_eq hi]; exact .c _ _⟩
  | 1, hu => simp at hu; subst hu; exact ⟨_, by simpa using h1, rfl, by rw [gp_eq hi]; exact .c _ _⟩
  | j + 2, hu => simp at hu
theorem R_nums_inv {k : IntKind} {l : List Int} {x : Value} (h : R w L ρ (V.nums k l) x) (hL : ∀ b, L b → b < w.heap.size) : ∃ A c, x = .slice A l.length c ∧ l.length ≤ c ∧ SlAt (fun x => [.int k x]) 1 w A l.length l := by
  obtain ⟨A, c, rfl, h'⟩ := R.sl_inv h
  refine ⟨A, c, rfl, h.sl_cap, rfl, fun _ => rfl, fun hn => ?_⟩
  obtain ⟨b, o, hA, hb, _, hc⟩ := h' hn
  refine ⟨b, o, hA, hL b hb, fun i hi j hj => ?_⟩
  obtain rfl : j = 0 := by omega
  obtain ⟨y, hy, _, hr⟩ := hc i 0 _ hi (by simp; rfl)
  cases hr
  rw [gi_eq hi] at hy
  simpa using hy
theorem R_ints_inv {l : List Int} {x : Value} (h : R w L ρ (V.ints l) x) (hL : ∀ b, L b → b < w.heap.size) : ∃ A c, x = .slice A l.length c ∧ l.length ≤ c ∧ IntsAt w A l.length l := R_nums_inv (k := .i64) h hL
theorem R_pts_inv {l : List Pt} {x : Value} (h : R w L ρ (V.pts l) x) (hL : ∀ b, L b → b < w.heap.size) : ∃ A c, x = .slice A l.length c ∧ l.length ≤ c ∧ PtsAt w A l.length l := by
  obtain ⟨A, c, rfl, h'⟩ := R.sl_inv h
  refine ⟨A, c, rfl, h.sl_cap, rfl, encP_len, fun hn => ?_⟩
  obtain ⟨b, o, hA, hb, _, hc⟩ := h' hn
  refine ⟨b, o, hA, hL b hb, fun i hi j hj => ?_⟩
  match j, hj with
  | 0, _ =>
    obtain ⟨y, hy, _, hr⟩ := hc i 0 _ hi (by simp; rfl)
    cases hr
    rw [gp_eq hi] at hy
    simpa [encP] using hy
  | 1, _ =>
    obtain ⟨y, hy, _, hr⟩ := hc i 1 _ hi (by simp; rfl)
    cases hr
    rw [gp_eq hi] at hy
    simpa [encP] using hy
end
theorem own_cap {w : World} {base : Nat} {e : TypeId} {sz n m c : Nat} {A : Option Addr} {xs : List Value} (h : w.ownsRow base e sz (.slice A m c) n xs) : m ≤ c := by
  rcases h.2 with ⟨hv, h0⟩ | ⟨g, cap, cur, hv, _, _, h3, _⟩
  · injection hv with _ hv hc; omega
  · injection hv with _ hv hc; omega
/-- A row of the call's own, read from now on. -/
theorem own_R_pts {w : World} {base : Nat} {e : TypeId} {n : Nat} {v : Value} {l : List Pt} (h : w.ownsRow base e 2 v n (l.flatMap encP)) : ∃ N : Nat → Prop, (∀ b, N b → base ≤ b ∧ b < w.heap.size) ∧ ∀ ρ, R w N ρ (V.pts l) v := by
  obtain ⟨A, c, rfl⟩ := own_form h
  refine ⟨fun b => A.map (·.block) = some b, fun b hb => ?_, fun ρ => R_pts (SlAt.of_own encP_len (by decide) h) (own_cap h) fun b hb => hb⟩
  rcases h.2 with ⟨hv, h0⟩ | ⟨g, cap, cur, hv, hg, hh, _⟩
  · injection hv with hv; subst hv; simp at hb
  · injection hv with hv; subst hv; simp at hb; subst hb
    exact ⟨hg, (Array.getElem?_eq_some_iff.1 hh).1⟩
theorem own_R_ints {w : World} {base : Nat} {e : TypeId} {n : Nat} {v : Value} {l : List Int} (h : w.ownsRow base e 1 v n (l.flatMap encI)) : ∃ N : Nat → Prop, (∀ b, N b → base ≤ b ∧ b < w.heap.size) ∧ ∀ ρ, R w N ρ (V.ints l) v := by
  obtain ⟨A, c, rfl⟩ := own_form h
  refine ⟨fun b => A.map (·.block) = some b, fun b hb => ?_, fun ρ => R_ints (SlAt.of_own encI_len (by decide) h) (own_cap h) fun b hb => hb⟩
  rcases h.2 with ⟨hv, h0⟩ | ⟨g, cap, cur, hv, hg, hh, _⟩
  · injection hv with hv; subst hv; simp at hb
  · injection hv with hv; subst hv; simp at hb; subst hb
    exact ⟨hg, (Array.getElem?_eq_some_iff.1 hh).1⟩

/-- from a contract with addresses -/
theorem ac_of_calls {P : Program} {f : FuncId} {args : List V} {v : V} (he : ∀ (args : Array Value) (w : World), (callFunc f args).run P w = .ok (.enter f args) w)
    (h : ∀ (L : Nat → Prop) (w : World) (vs : Array Value), (∀ b, L b → b < w.heap.size) → RV w L ρ0 args vs.toList →
      Calls P f vs w fun e w' => ∃ x, e = .returned x ∧ Below w.heap.size w w' ∧ ∃ N : Nat → Prop, (∀ b, N b → w.heap.size ≤ b ∧ b < w'.heap.size) ∧ R w' (fun b => L b ∨ N b) ρ0 v x) : AC P f args v [] := by
  refine ⟨he, fun L w vs hL hvs => (h L w vs hL hvs).mono ?_⟩
  rintro e w' ⟨x, rfl, hb, N, hN, hr⟩
  refine ⟨x, rfl, hb, fun b => L b ∨ N b, ρ0, ⟨fun b hb' => ?_, fun b hb' => ⟨Nat.le_trans hb.size hb', .inr (Nat.le_trans hb.size hb')⟩, fun id o ho => by simp [obsF] at ho, fun i j x y k _ hi => by simp [obsF] at hi⟩, fun b h => .inl h, hr, fun _ _ => rfl⟩
  rcases hb' with h | h
  · exact ⟨Nat.lt_of_lt_of_le (hL b h) hb.size, .inl h⟩
  · exact ⟨(hN b h).2, .inr (hN b h).1⟩
/-- to a contract with addresses: all that lay there is read alone -/
theorem calls_of_ac {P : Program} {f : FuncId} {args : List V} {v : V} (h : AC P f args v []) {w : World} {vs : Array Value} (hvs : RV w (fun b => b < w.heap.size) ρ0 args vs.toList) :
    Calls P f vs w fun e w' => ∃ x, e = .returned x ∧ Below w.heap.size w w' ∧ ∃ L' ρ', (∀ b, L' b → b < w'.heap.size) ∧ R w' L' ρ' v x := by
  refine (h.2 (fun b => b < w.heap.size) w vs (fun _ h => h) hvs).mono ?_
  rintro e w' ⟨x, rfl, hb, L', ρ', hG, _, hr, _⟩
  exact ⟨x, rfl, hb, L', ρ', fun b hb => (hG.ll b hb).1, hr⟩
theorem law_of_ac {P : Program} {f : FuncId} {args : List V} (h : AC P f args (V.b true) []) {w : World} {vs : Array Value} (hvs : RV w (fun b => b < w.heap.size) ρ0 args vs.toList) :
    Calls P f vs w fun e w' => e = .returned (.bool true) ∧ Below w.heap.size w w' := by
  refine (calls_of_ac h hvs).mono ?_
  rintro e w' ⟨x, rfl, hb, L', ρ', _, hr⟩
  exact ⟨by rw [hr.c_inv], hb⟩
end Go.Ab
