/-
  Several texts in one: Bounds on differences, relaxed again and again, in plain Lean. Conditions: told in each theorem. .. A contract that reads what a pointer points at, for a box of the caller's. No condition.
-/
import Derived.LoopNIn
import Derived.RecoverIn
import Derived.Test.YtffggfnomhhckaaGreatDoorMD
import Derived.Test.YtffggfnomhhckaaGreatDoorX00
import Derived.Test.YtffggfnomhhckaaGreatDoorMB
namespace Go.Proofs.YtffggfnomhhckaaGreatDoor
open Go.Ab Go.RowKit Go.Dw Go.Shelf
structure BE where
  f : Nat
  t : Nat
  w : Int
  rule : Int
  at' : Int
structure BS where
  r : Nat → Int
  la : Nat → Option BE
  ch : Option Nat
  lc : Nat → Int
  ti : Nat → Nat
  clk : Nat
def BS.step (k : Int) (s : BS) (e : BE) : BS :=
  if s.r e.f + e.w < s.r e.t then ⟨upd s.r e.t (s.r e.f + e.w), upd s.la e.t (some e), some e.t, upd s.lc e.t k, upd s.ti e.t (s.clk + 1), s.clk + 1⟩ else s
def BS.to (k : Int) (s : BS) (E : List BE) : Nat → BS
  | 0 => s
  | j + 1 => match E[j]? with
    | some e => (BS.to k s E j).step k e
    | none => BS.to k s E j
def BS.begin (s : BS) : BS := { s with ch := none }
def BS.pass (k : Int) (E : List BE) (s : BS) : BS := s.begin.to k E E.length
def BS.init (i : Nat → Int) : BS := ⟨i, fun _ => none, none, fun _ => -1, fun _ => 0, 0⟩
def BS.rounds (E : List BE) (i : Nat → Int) : Nat → BS
  | 0 => .init i
  | k + 1 => (BS.rounds E i k).pass k E
def Sol (n : Nat) (E : List BE) (i g : Nat → Int) : Prop := (∀ v, v < n → g v ≤ i v) ∧ ∀ e ∈ E, g e.t ≤ g e.f + e.w
def EOk (n : Nat) (E : List BE) : Prop := ∀ e ∈ E, e.f < n ∧ e.t < n
section
variable {n : Nat} {E : List BE} {i g : Nat → Int} {s : BS} {k : Int}
theorem step_le (e : BE) (v : Nat) : (s.step k e).r v ≤ s.r v := by
  unfold BS.step
  split
  · by_cases h : v = e.t
    · subst h; simp only [upd_same]; omega
    · simp only [upd_ne _ _ h]; omega
  · omega
theorem step_sol (h : ∀ e ∈ E, g e.t ≤ g e.f + e.w) (hs : ∀ v, v < n → g v ≤ s.r v) (hE : EOk n E) {e : BE} (he : e ∈ E) : ∀ v, v < n → g v ≤ (s.step k e).r v := by
  intro v hv
  unfold BS.step
  split
  · by_cases h1 : v = e.t
    · subst h1
      simp only [upd_same]
      have := h e he
      have := hs e.f (hE e he).1
      omega
    · simp only [upd_ne _ _ h1]; exact hs v hv
  · exact hs v hv
theorem to_succ {j : Nat} {e : BE} (h : E[j]? = some e) : s.to k E (j + 1) = (s.to k E j).step k e := by rw [BS.to, h]
theorem to_ind (p : Nat → BS → Prop) (h0 : p 0 s) (hs : ∀ j e s', E[j]? = some e → p j s' → p (j + 1) (s'.step k e)) : ∀ j, j ≤ E.length → p j (s.to k E j)
  | 0, _ => h0
  | j + 1, h => by
    have e : E[j]? = some E[j] := List.getElem?_eq_getElem oM
    rw [to_succ e]
    exact hs j _ _ e (to_ind p h0 hs j oM)
structure BInv (n : Nat) (E : List BE) (i : Nat → Int) (k : Int) (j : Nat) (s : BS) : Prop where
  k0 : 0 ≤ k
  le : ∀ v, v < n → s.r v ≤ i v
  sol : ∀ g, Sol n E i g → ∀ v, v < n → g v ≤ s.r v
  non : ∀ v, v < n → s.la v = none → s.lc v = -1 ∧ s.r v = i v
  lcl : ∀ v, -1 ≤ s.lc v ∧ s.lc v ≤ k
  par : ∀ v e, v < n → s.la v = some e → e ∈ E ∧ e.t = v ∧ 0 ≤ s.lc v ∧ s.lc v - 1 ≤ s.lc e.f
  sat1 : ∀ m e, m < j → E[m]? = some e → s.lc e.f < k → s.r e.t ≤ s.r e.f + e.w
  sat2 : ∀ m e, j ≤ m → E[m]? = some e → s.lc e.f < k - 1 → s.r e.t ≤ s.r e.f + e.w
  tim : ∀ v e, v < n → s.la v = some e → (s.r v = s.r e.f + e.w ∧ s.ti e.f < s.ti v) ∨ s.r e.f + e.w < s.r v
  clk : ∀ v, s.ti v ≤ s.clk
  chg : ∀ v, s.ch = some v → v < n ∧ s.lc v = k
theorem BInv.step {j : Nat} {e : BE} (hE : EOk n E) (hns : ∀ e ∈ E, e.f ≠ e.t) (he : E[j]? = some e) (h : BInv n E i k j s) : BInv n E i k (j + 1) (s.step k e) := by
  have hm := List.mem_of_getElem? he
  obtain ⟨hf, ht⟩ := hE e hm
  have hne := hns e hm
  unfold BS.step
  split
  · rename_i hlt
    have hlc : k - 1 ≤ s.lc e.f := by
      refine Int.not_lt.1 fun hc => ?_
      have := h.sat2 j e (Nat.le_refl _) he hc
      omega
    have rle : ∀ v, upd s.r e.t (s.r e.f + e.w) v ≤ s.r v := fun v => by
      by_cases hv : v = e.t
      · subst hv; rw [upd_same]; omega
      · rw [upd_ne _ _ hv]; omega
    have hk0 := h.k0
    refine ⟨hk0, fun v hv => Int.le_trans (rle v) (h.le v hv), fun g hg v hv => ?_, fun v hv hn => ?_, fun v => ?_, fun v e' hv hl => ?_, fun m e' hm' he' hc => ?_, fun m e' hm' he' hc => ?_, fun v e' hv hl => ?_, fun v => ?_, fun v hv => ?_⟩
    · (try dsimp only at *)
      have := step_sol (k := k) hg.2 (h.sol g hg) hE hm v hv
      unfold BS.step at this
      rwa [if_pos hlt] at this
    · (try dsimp only at *)
      by_cases h1 : v = e.t
      · subst h1; simp only [upd_same] at hn; cases hn
      · simp only [upd_ne _ _ h1] at hn ⊢; exact h.non v hv hn
    · (try dsimp only at *)
      by_cases h1 : v = e.t
      · subst h1
        simp only [upd_same]
        have := (h.lcl e.f).2
        have := (h.lcl e.t)
        omega
      · simp only [upd_ne _ _ h1]; exact h.lcl v
    · (try dsimp only at *)
      by_cases h1 : v = e.t
      · subst h1
        simp only [upd_same, Option.some.injEq] at hl ⊢
        subst hl
        rw [upd_ne _ _ hne]
        have := (h.lcl e.t)
        exact ⟨hm, rfl, by omega, hlc⟩
      · simp only [upd_ne _ _ h1] at hl ⊢
        obtain ⟨a, b, c, d⟩ := h.par v e' hv hl
        refine ⟨a, b, c, ?_⟩
        by_cases h2 : e'.f = e.t
        · rw [h2, upd_same]; have := (h.lcl v).2; omega
        · rw [upd_ne _ _ h2]; exact d
    · (try dsimp only at *)
      by_cases h2 : e'.f = e.t
      · rw [h2, upd_same] at hc; omega
      · rw [upd_ne _ _ h2] at hc
        rw [upd_ne _ _ h2]
        by_cases h3 : m = j
        · subst h3
          rw [he] at he'; injection he' with he'; subst he'
          rw [upd_same]; omega
        · have := h.sat1 m e' oM he' hc
          have := rle e'.t
          omega
    · (try dsimp only at *)
      by_cases h2 : e'.f = e.t
      · rw [h2, upd_same] at hc; omega
      · rw [upd_ne _ _ h2] at hc
        rw [upd_ne _ _ h2]
        have := h.sat2 m e' oM he' hc
        have := rle e'.t
        omega
    · (try dsimp only at *)
      by_cases h1 : v = e.t
      · subst h1
        simp only [upd_same, Option.some.injEq] at hl ⊢
        subst hl
        rw [upd_ne _ _ hne, upd_ne _ _ hne]
        left
        have := h.clk e.f
        exact ⟨rfl, by omega⟩
      · simp only [upd_ne _ _ h1] at hl ⊢
        have := h.tim v e' hv hl
        by_cases h2 : e'.f = e.t
        · right
          rw [h2, upd_same]
          rw [h2] at this
          omega
        · rw [upd_ne _ _ h2, upd_ne _ _ h2]; exact this
    · (try dsimp only at *)
      have := h.clk v
      by_cases h1 : v = e.t
      · subst h1; simp only [upd_same]; omega
      · simp only [upd_ne _ _ h1]; omega
    · (try dsimp only at *)
      simp only [Option.some.injEq] at hv
      subst hv
      simp only [upd_same]
      exact ⟨ht, trivial⟩
  · rename_i hlt
    refine ⟨h.k0, h.le, h.sol, h.non, h.lcl, h.par, fun m e' hm' he' hc => ?_, fun m e' hm' he' hc => h.sat2 m e' oM he' hc, h.tim, h.clk, h.chg⟩
    by_cases h3 : m = j
    · subst h3
      rw [he] at he'; injection he' with he'; subst he'
      omega
    · exact h.sat1 m e' oM he' hc
theorem BInv.begin (h : BInv n E i k E.length s) : BInv n E i (k + 1) 0 s.begin :=
  ⟨by have := h.k0; omega, h.le, h.sol, h.non, fun v => by have := h.lcl v; exact ⟨this.1, by simp only [BS.begin]; omega⟩, h.par, fun m e' hm' => by omega,
   fun m e' _ he' hc => h.sat1 m e' (List.getElem?_eq_some_iff.1 he').1 he' (by simp only [BS.begin] at hc; omega), h.tim, h.clk, fun v hv => by simp [BS.begin] at hv⟩
theorem BInv.init : BInv n E i 0 0 (BS.init i).begin :=
  ⟨Int.le_refl _, fun v _ => Int.le_refl _, fun g hg v hv => hg.1 v hv, fun v _ _ => ⟨rfl, rfl⟩, fun v => ⟨Int.le_refl _, by simp [BS.init, BS.begin]⟩, fun v e _ h => by simp [BS.init, BS.begin] at h, fun m e hm => by omega,
   fun m e _ _ hc => by simp [BS.init, BS.begin] at hc, fun v e _ h => by simp [BS.init, BS.begin] at h, fun v => Nat.le_refl _, fun v hv => by simp [BS.begin] at hv⟩
theorem binv_to (hE : EOk n E) (hns : ∀ e ∈ E, e.f ≠ e.t) {j : Nat} (hj : j ≤ E.length) (h : BInv n E i k 0 s) : BInv n E i k j (s.to k E j) :=
  to_ind (fun j s => BInv n E i k j s) h (fun _ _ _ he h => h.step hE hns he) j hj
theorem binv_rounds (hE : EOk n E) (hns : ∀ e ∈ E, e.f ≠ e.t) : ∀ k : Nat, BInv n E i k 0 (BS.rounds E i k).begin
  | 0 => .init
  | k + 1 => by
    have h := binv_to hE hns (Nat.le_refl _) (binv_rounds hE hns k)
    exact h.begin
theorem binv_at (hE : EOk n E) (hns : ∀ e ∈ E, e.f ≠ e.t) (k : Nat) {j : Nat} (hj : j ≤ E.length) : BInv n E i k j ((BS.rounds E i k).begin.to k E j) := binv_to hE hns hj (binv_rounds hE hns k)
theorem to_none {j : Nat} (hj : j ≤ E.length) (h : (s.begin.to k E j).ch = none) : s.begin.to k E j = s.begin ∧ ∀ m e, m < j → E[m]? = some e → s.r e.t ≤ s.r e.f + e.w := by
  induction j with
  | zero => exact ⟨rfl, fun m e hm => by omega⟩
  | succ j ih =>
    have e : E[j]? = some E[j] := List.getElem?_eq_getElem oM
    rw [to_succ e] at h ⊢
    unfold BS.step at h ⊢
    split at h
    · cases h
    · rename_i hlt
      obtain ⟨h1, h2⟩ := ih oM h
      rw [if_neg hlt]
      refine ⟨h1, fun m e' hm he' => ?_⟩
      by_cases hmj : m = j
      · subst hmj
        rw [e] at he'; injection he' with he'; subst he'
        rw [h1] at hlt
        simp only [BS.begin] at hlt
        omega
      · exact h2 m e' oM he'
theorem pass_none (h : (s.pass k E).ch = none) : s.pass k E = s.begin ∧ ∀ e ∈ E, s.r e.t ≤ s.r e.f + e.w := by
  obtain ⟨h1, h2⟩ := to_none (Nat.le_refl _) h
  exact ⟨h1, fun e he => by
    obtain ⟨m, hm, rfl⟩ := List.getElem_of_mem he
    exact h2 m _ hm (List.getElem?_eq_getElem hm)⟩
theorem fix_sol (hE : EOk n E) (hns : ∀ e ∈ E, e.f ≠ e.t) {k : Nat} (h : ((BS.rounds E i k).pass k E).ch = none) : Sol n E i (BS.rounds E i k).r := by
  exact ⟨fun v hv => (binv_rounds (i := i) hE hns k).le v hv, (pass_none h).2⟩
def cntN (n : Nat) (p : Nat → Bool) : Nat := ((List.range n).filter p).length
theorem cntN_succ (n : Nat) (p : Nat → Bool) : cntN (n + 1) p = cntN n p + if p n then 1 else 0 := by
  unfold cntN
  rw [List.range_succ, List.filter_append, List.length_append]
  cases hp : p n <;> simp [hp]
theorem cntN_le {p q : Nat → Bool} : ∀ n, (∀ v, v < n → q v = true → p v = true) → cntN n q ≤ cntN n p
  | 0, _ => Nat.le_refl _
  | n + 1, h => by
    have ih := cntN_le n fun v hv => h v oM
    rw [cntN_succ, cntN_succ]
    have := h n oM
    cases hq : q n <;> cases hp : p n <;> simp_all <;> omega
theorem cntN_lt {p q : Nat → Bool} {v : Nat} : ∀ n, (∀ v, v < n → q v = true → p v = true) → v < n → p v = true → q v = false → cntN n q < cntN n p
  | 0, _, h, _, _ => by omega
  | n + 1, h, hv, hp, hq => by
    rw [cntN_succ, cntN_succ]
    by_cases hn : v = n
    · subst hn
      have ih := cntN_le v fun u hu => h u oM
      rw [hp, hq]; simp; omega
    · have ih := cntN_lt (p := p) (q := q) n (fun v hv => h v oM) oM hp hq
      have := h n oM
      cases hq : q n <;> cases hp : p n <;> simp_all <;> omega
theorem cntN_pos {p : Nat → Bool} : ∀ n, 0 < cntN n p → ∃ v, v < n ∧ p v = true
  | 0, h => by simp [cntN] at h
  | n + 1, h => by
    rw [cntN_succ] at h
    by_cases hp : p n = true
    · exact ⟨n, by omega, hp⟩
    · obtain ⟨v, hv, h⟩ := cntN_pos n (by simp only [hp] at h; simpa using h)
      exact ⟨v, by omega, h⟩
def sumN (g : Nat → Int) : Nat → Int
  | 0 => 0
  | n + 1 => sumN g n + g n
theorem sumN_le {g g' : Nat → Int} : ∀ n, (∀ v, v < n → g v ≤ g' v) → sumN g n ≤ sumN g' n
  | 0, _ => Int.le_refl _
  | n + 1, h => by
    have := sumN_le n fun v hv => h v oM
    have := h n oM
    simp only [sumN]; omega
theorem sumN_lt {g g' : Nat → Int} {v : Nat} : ∀ n, (∀ v, v < n → g v ≤ g' v) → v < n → g v < g' v → sumN g n < sumN g' n
  | 0, _, h, _ => by omega
  | n + 1, h, hv, hlt => by
    simp only [sumN]
    by_cases hn : v = n
    · subst hn
      have := sumN_le v fun u hu => h u oM
      omega
    · have := sumN_lt (v := v) n (fun u hu => h u oM) oM hlt
      have := h n oM
      omega
theorem sol_max (h : ∃ g, Sol n E i g) : ∃ g, Sol n E i g ∧ ∀ g', Sol n E i g' → sumN g' n ≤ sumN g n := by
  obtain ⟨m, ⟨g, hg, hm⟩, hl⟩ := least (fun m => ∃ g, Sol n E i g ∧ m = (sumN i n - sumN g n).toNat) (by obtain ⟨g, hg⟩ := h; exact ⟨_, g, hg, rfl⟩)
  refine ⟨g, hg, fun g' hg' => ?_⟩
  have h1 := hl _ ⟨g', hg', rfl⟩
  have h2 := sumN_le n hg.1
  have h3 := sumN_le n hg'.1
  omega
def nfin (g : Nat → Int) (s : BS) (v : Nat) : Bool := decide (s.r v ≠ g v)
theorem tight (hg : Sol n E i g) (hmax : ∀ g', Sol n E i g' → sumN g' n ≤ sumN g n) (hE : EOk n E) (hle : ∀ v, v < n → s.r v ≤ i v) (hge : ∀ v, v < n → g v ≤ s.r v) (hp : 0 < cntN n (nfin g s)) :
    ∃ e ∈ E, nfin g s e.f = false ∧ nfin g s e.t = true ∧ g e.t = g e.f + e.w := by
  refine Classical.byContradiction fun hno => ?_
  obtain ⟨v, hv, hv1⟩ := cntN_pos n hp
  have hs : Sol n E i fun v => if v < n ∧ nfin g s v = true then g v + 1 else g v := by
    refine ⟨fun v hv => ?_, fun e he => ?_⟩
    · dsimp only
      by_cases h1 : v < n ∧ nfin g s v = true
      · simp only [if_pos h1]
        have h2 := hge v hv
        have h3 := hle v hv
        have h4 : s.r v ≠ g v := of_decide_eq_true h1.2
        omega
      · simp only [if_neg h1]; exact hg.1 v hv
    · have h1 := hg.2 e he
      obtain ⟨hf, ht⟩ := hE e he
      cases h2 : nfin g s e.t with
      | false =>
        dsimp only
        rw [if_neg (by simp [h2])]
        split <;> omega
      | true =>
        cases h3 : nfin g s e.f with
        | true =>
          dsimp only
          rw [if_pos ⟨ht, h2⟩, if_pos ⟨hf, h3⟩]; omega
        | false =>
          dsimp only
          rw [if_pos ⟨ht, h2⟩, if_neg (by simp [h3])]
          have : g e.t ≠ g e.f + e.w := fun h4 => hno ⟨e, he, h3, h2, h4⟩
          omega
  have h1 := hmax _ hs
  have h2 : sumN g n < sumN (fun v => if v < n ∧ nfin g s v = true then g v + 1 else g v) n := sumN_lt (v := v) n (fun u hu => by split <;> omega) hv (by rw [if_pos ⟨hv, hv1⟩]; omega)
  omega
theorem to_le (v : Nat) : ∀ j, j ≤ E.length → (s.to k E j).r v ≤ s.r v := by
  intro j hj
  exact to_ind (fun _ s' => s'.r v ≤ s.r v) (Int.le_refl _) (fun _ e s' _ h => Int.le_trans (step_le e v) h) j hj
theorem pass_cnt (hg : Sol n E i g) (hmax : ∀ g', Sol n E i g' → sumN g' n ≤ sumN g n) (hE : EOk n E) (hle : ∀ v, v < n → s.r v ≤ i v) (hge : ∀ v, v < n → g v ≤ s.r v) (hp : 0 < cntN n (nfin g s)) :
    cntN n (nfin g (s.pass k E)) < cntN n (nfin g s) := by
  obtain ⟨e, he, h1, h2, h3⟩ := tight hg hmax hE hle hge hp
  obtain ⟨m, hm, rfl⟩ := List.getElem_of_mem he
  obtain ⟨hf, ht⟩ := hE _ he
  have hge' : ∀ j, j ≤ E.length → ∀ v, v < n → g v ≤ (s.begin.to k E j).r v := fun j hj =>
    to_ind (s := s.begin) (k := k) (fun _ s' => ∀ v, v < n → g v ≤ s'.r v) hge (fun _ e s' he h => step_sol hg.2 h hE (List.mem_of_getElem? he)) j hj
  have hq : ∀ v, v < n → nfin g (s.pass k E) v = true → nfin g s v = true := fun v hv h => by
    have a := to_le (s := s.begin) (k := k) (E := E) v E.length (Nat.le_refl _)
    have b := hge' E.length (Nat.le_refl _) v hv
    have c := hge v hv
    have d : (s.pass k E).r v ≠ g v := of_decide_eq_true h
    refine decide_eq_true ?_
    simp only [BS.pass, BS.begin] at a b d ⊢
    omega
  refine cntN_lt (v := (E[m]).t) n hq ht h2 (decide_eq_false ?_)
  simp only [ne_eq, Classical.not_not]
  have hfin : s.r (E[m]).f = g (E[m]).f := by simpa [nfin] using h1
  have em : E[m]? = some E[m] := List.getElem?_eq_getElem hm
  have h5 : (s.begin.to k E (m + 1)).r (E[m]).t ≤ g (E[m]).t := by
    rw [to_succ em]
    have a := to_le (s := s.begin) (k := k) (E := E) (E[m]).f m oM
    have b := hge' m oM (E[m]).f hf
    simp only [BS.begin] at a b
    unfold BS.step
    split
    · simp only [upd_same, BS.begin]; omega
    · rename_i hlt
      simp only [BS.begin] at hlt ⊢
      omega
  have h6 : ∀ d, m + 1 + d ≤ E.length → (s.begin.to k E (m + 1 + d)).r (E[m]).t ≤ g (E[m]).t := by
    intro d
    induction d with
    | zero => intro _; exact h5
    | succ d ih =>
      intro hd
      have ed : E[m + 1 + d]? = some E[m + 1 + d] := List.getElem?_eq_getElem oM
      rw [show m + 1 + (d + 1) = (m + 1 + d) + 1 by omega, to_succ ed]
      exact Int.le_trans (step_le _ _) (ih oM)
  have h7 := h6 (E.length - (m + 1)) oM
  rw [show m + 1 + (E.length - (m + 1)) = E.length by omega] at h7
  have h8 := hge' E.length (Nat.le_refl _) (E[m]).t ht
  exact Int.le_antisymm h7 h8
theorem cntN_max (p : Nat → Bool) : ∀ n, cntN n p ≤ n
  | 0 => Nat.le_refl _
  | n + 1 => by have := cntN_max p n; rw [cntN_succ]; split <;> omega
theorem rounds_end (hE : EOk n E) (hns : ∀ e ∈ E, e.f ≠ e.t) (h : ∃ g, Sol n E i g) {k : Nat} (hk : n ≤ k) : ((BS.rounds E i k).pass k E).ch = none := by
  obtain ⟨g, hg, hmax⟩ := sol_max h
  have hb := fun k => binv_rounds (i := i) hE hns k
  have cnt : ∀ k : Nat, cntN n (nfin g (BS.rounds E i k)) ≤ n - k := by
    intro k
    induction k with
    | zero => exact cntN_max _ n
    | succ k ih =>
      by_cases hp : 0 < cntN n (nfin g (BS.rounds E i k))
      · have := pass_cnt (s := BS.rounds E i k) (k := (k : Int)) hg hmax hE (hb k).le ((hb k).sol g hg) hp
        rw [BS.rounds]
        omega
      · have h0 : cntN n (nfin g (BS.rounds E i k)) = 0 := by omega
        have hle : cntN n (nfin g (BS.rounds E i (k + 1))) ≤ cntN n (nfin g (BS.rounds E i k)) := by
          refine cntN_le n fun v hv h => ?_
          have a := to_le (s := (BS.rounds E i k).begin) (k := (k : Int)) (E := E) v E.length (Nat.le_refl _)
          have b := (hb (k + 1)).sol g hg v hv
          have c := (hb k).sol g hg v hv
          have d : (BS.rounds E i (k + 1)).r v ≠ g v := of_decide_eq_true h
          refine decide_eq_true ?_
          simp only [BS.rounds, BS.pass, BS.begin] at a b c d ⊢
          omega
        omega
  have h0 : cntN n (nfin g (BS.rounds E i k)) = 0 := by have := cnt k; omega
  have hfin : ∀ v, v < n → (BS.rounds E i k).r v = g v := fun v hv => by
    refine Classical.byContradiction fun hne => ?_
    have := cntN_lt (p := nfin g (BS.rounds E i k)) (q := fun _ => false) (v := v) n (fun _ _ h => by cases h) hv (decide_eq_true hne) rfl
    omega
  have : ∀ j, j ≤ E.length → ((BS.rounds E i k).begin.to k E j) = (BS.rounds E i k).begin := fun j hj =>
    to_ind (fun _ s' => s' = (BS.rounds E i k).begin) rfl (fun j e s' he h => by
      subst h
      have hm := List.mem_of_getElem? he
      obtain ⟨hf, ht⟩ := hE e hm
      have := hg.2 e hm
      unfold BS.step
      rw [if_neg]
      simp only [BS.begin]
      rw [hfin _ hf, hfin _ ht]
      omega) j hj
  rw [BS.pass, this E.length (Nat.le_refl _)]
  rfl
def BS.up (s : BS) (v : Nat) : Nat := match s.la v with
  | some e => e.f
  | none => v
def BS.ups (s : BS) (v : Nat) : Nat → Nat
  | 0 => v
  | m + 1 => s.up (BS.ups s v m)
theorem ups_add (s : BS) (v a : Nat) : ∀ b, s.ups v (a + b) = s.ups (s.ups v a) b
  | 0 => rfl
  | b + 1 => by
    show s.up (s.ups v (a + b)) = s.up (s.ups (s.ups v a) b)
    rw [ups_add s v a b]
theorem back_ok {j : Nat} (hE : EOk n E) (h : BInv n E i k j s) {v : Nat} (hv : v < n) (hk : s.lc v = k) : ∀ m : Nat, (m : Int) ≤ k → s.ups v m < n ∧ k - m ≤ s.lc (s.ups v m)
  | 0, _ => ⟨hv, by simp only [BS.ups]; omega⟩
  | m + 1, hm => by
    obtain ⟨h1, h2⟩ := back_ok hE h hv hk m oM
    cases hl : s.la (s.ups v m) with
    | none => have := (h.non _ h1 hl).1; omega
    | some e =>
      obtain ⟨a, b, c, d⟩ := h.par _ e h1 hl
      have e1 : s.ups v (m + 1) = e.f := by
        show s.up (s.ups v m) = e.f
        rw [BS.up, hl]
      rw [e1]
      exact ⟨(hE e a).1, by omega⟩
theorem pigeon : ∀ (n : Nat) (f : Nat → Nat), (∀ m, m ≤ n → f m < n) → ∃ a b, a < b ∧ b ≤ n ∧ f a = f b
  | 0, f, h => by have := h 0 (Nat.le_refl _); omega
  | n + 1, f, h => by
    by_cases hd : ∃ a, a ≤ n ∧ f a = f (n + 1)
    · obtain ⟨a, ha, he⟩ := hd
      exact ⟨a, n + 1, by omega, Nat.le_refl _, he⟩
    · -- put the last value out
      have hne : ∀ a, a ≤ n → f a ≠ f (n + 1) := fun a ha he => hd ⟨a, ha, he⟩
      obtain ⟨a, b, hab, hb, he⟩ := pigeon n (fun m => if f m < f (n + 1) then f m else f m - 1) fun m hm => by
        have h1 := h m oM
        have h2 := h (n + 1) (Nat.le_refl _)
        have h3 := hne m hm
        split <;> omega
      refine ⟨a, b, hab, by omega, ?_⟩
      have h3 := hne a oM
      have h4 := hne b hb
      split at he <;> split at he <;> omega
theorem circle_ok {j : Nat} (hE : EOk n E) (h : BInv n E i k j s) {v : Nat} (hv : v < n) (hk : s.lc v = k) (hn : (n : Int) < k) :
    ∃ p, 0 < p ∧ s.ups (s.ups v n) p = s.ups v n ∧ ∀ m, s.ups v m < n ∧ ∃ e, s.la (s.ups v m) = some e ∧ e.f < n ∧ s.ups v (m + 1) = e.f := by
  have hb := fun (m : Nat) (hm : (m : Int) ≤ k) => back_ok hE h hv hk m hm
  obtain ⟨a, b, hab, hbn, he⟩ := pigeon n (fun m => s.ups v m) fun m hm => (hb m oM).1
  have per : ∀ d, s.ups v (a + d) = s.ups v (b + d) := fun d => by rw [ups_add, ups_add, he]
  have hlt : ∀ m, ∃ m', m' ≤ n ∧ s.ups v m = s.ups v m' := by
    intro m
    induction m using Nat.strongRecOn with
    | _ m ih =>
      by_cases hm : m ≤ n
      · exact ⟨m, hm, rfl⟩
      · obtain ⟨m', h1, h2⟩ := ih (m - (b - a)) oM
        refine ⟨m', h1, ?_⟩
        rw [← h2]
        have := per (m - b)
        rw [show b + (m - b) = m by omega, show a + (m - b) = m - (b - a) by omega] at this
        exact this.symm
  refine ⟨b - a, by omega, ?_, fun m => ?_⟩
  · rw [← ups_add]
    have := per (n - a)
    rw [show a + (n - a) = n by omega, show b + (n - a) = n + (b - a) by omega] at this
    exact this.symm
  · obtain ⟨m', h1, h2⟩ := hlt m
    obtain ⟨q1, q2⟩ := hb m' oM
    refine ⟨by rw [h2]; exact q1, ?_⟩
    cases hl : s.la (s.ups v m) with
    | none =>
      rw [h2] at hl
      have := (h.non _ q1 hl).1
      omega
    | some e =>
      have hq : s.ups v m < n := by rw [h2]; exact q1
      obtain ⟨a1, _⟩ := h.par _ e hq hl
      refine ⟨e, rfl, (hE e a1).1, ?_⟩
      show s.up (s.ups v m) = e.f
      rw [BS.up, hl]
theorem way_ok {j : Nat} (h : BInv n E i k j s) (hs : ∀ e ∈ E, s.r e.t ≤ s.r e.f + e.w) {v : Nat} {e : BE} (hv : v < n) (hl : s.la v = some e) : e ∈ E ∧ s.ti e.f < s.ti v := by
  obtain ⟨a, b, _⟩ := h.par v e hv hl
  refine ⟨a, ?_⟩
  have h1 := hs e a
  rw [b] at h1
  rcases h.tim v e hv hl with ⟨_, h2⟩ | h2
  · exact h2
  · omega
theorem low_to {M : Int} (hM : 0 ≤ M) (hE : EOk n E) (hw : ∀ e ∈ E, -M ≤ e.w) {c : Nat} (h : ∀ v, v < n → -(M * (c : Int)) ≤ s.r v) : ∀ j, j ≤ E.length → ∀ v, v < n → -(M * ((c + j : Nat) : Int)) ≤ (s.to k E j).r v := by
  intro j hj
  refine to_ind (fun j s' => ∀ v, v < n → -(M * ((c + j : Nat) : Int)) ≤ s'.r v) h (fun j e s' he h v hv => ?_) j hj
  have hm := List.mem_of_getElem? he
  have e1 : M * ((c + (j + 1) : Nat) : Int) = M * ((c + j : Nat) : Int) + M := by
    rw [show ((c + (j + 1) : Nat) : Int) = ((c + j : Nat) : Int) + 1 by omega, Int.mul_add, Int.mul_one]
  rw [e1]
  unfold BS.step
  split
  · by_cases h1 : v = e.t
    · subst h1
      simp only [upd_same]
      have := h e.f (hE e hm).1
      have := hw e hm
      omega
    · simp only [upd_ne _ _ h1]
      have := h v hv
      omega
  · have := h v hv
    omega
theorem low_rounds {M : Int} (hM : 0 ≤ M) (hE : EOk n E) (hw : ∀ e ∈ E, -M ≤ e.w) (hi : ∀ v, v < n → -M ≤ i v) : ∀ k : Nat, ∀ v, v < n → -(M * ((1 + k * E.length : Nat) : Int)) ≤ (BS.rounds E i k).r v
  | 0, v, hv => by
    have := hi v hv
    simp only [BS.rounds, BS.init, Nat.zero_mul, Nat.add_zero]
    simpa using this
  | k + 1, v, hv => by
    have := low_to (k := (k : Int)) (s := (BS.rounds E i k).begin) hM hE hw (c := 1 + k * E.length) (low_rounds hM hE hw hi k) E.length (Nat.le_refl _) v hv
    rw [show 1 + (k + 1) * E.length = 1 + k * E.length + E.length by rw [Nat.succ_mul]; omega]
    exact this
theorem low_at {M : Int} (hM : 0 ≤ M) (hE : EOk n E) (hw : ∀ e ∈ E, -M ≤ e.w) (hi : ∀ v, v < n → -M ≤ i v) (k j : Nat) (hj : j ≤ E.length) {v : Nat} (hv : v < n) : -(M * ((1 + (k + 1) * E.length : Nat) : Int)) ≤ ((BS.rounds E i k).begin.to k E j).r v := by
  have := low_to (k := (k : Int)) (s := (BS.rounds E i k).begin) hM hE hw (c := 1 + k * E.length) (low_rounds hM hE hw hi k) j hj v hv
  have h2 : (1 + k * E.length + j : Nat) ≤ 1 + (k + 1) * E.length := by rw [Nat.succ_mul]; omega
  have h3 := Int.mul_le_mul_of_nonneg_left (show ((1 + k * E.length + j : Nat) : Int) ≤ ((1 + (k + 1) * E.length : Nat) : Int) by omega) hM
  omega
end
end Go.Proofs.YtffggfnomhhckaaGreatDoor

namespace Go.Proofs.YtffggfnomhhckaaGreatDoor
open Go.Ab Go.RowKit Go.Dw Go.Shelf
structure Bl where
 per : Int
 rim : Int
 core : Int
 land : Int
 slow : Int
 fast : Int
def Bl.ok (b : Bl) : Prop := (1 ≤ b.per ∧ b.per ≤ 65536) ∧ (0 ≤ b.rim ∧ b.rim ≤ 4194304) ∧ (0 ≤ b.core ∧ b.core ≤ b.rim) ∧ (0 ≤ b.land ∧ b.land ≤ 65536) ∧ (0 ≤ b.fast ∧ b.fast ≤ 65536) ∧ 0 ≤ b.slow ∧ b.slow ≤ b.fast
def slowE (b : Bl) (i : Nat) : BE := ⟨i - 1, i, -b.slow, 3, i⟩
def landE (b : Bl) (l : List Pt) (i : Nat) : BE := ⟨i - b.per.toNat, i, (gp l (i - b.per.toNat)).1 - (gp l i).2 - b.land, 5, i⟩
def fastE (b : Bl) (i : Nat) : BE := ⟨i, i - 1, b.fast, 4, i⟩
def inE (b : Bl) (l : List Pt) (i : Nat) : List BE := (if 0 < i then [slowE b i] else []) ++ if b.per.toNat ≤ i then [landE b l i] else []
def inEs (b : Bl) (l : List Pt) (n : Nat) : List BE := (List.range n).flatMap (inE b l)
def outEs (b : Bl) (n m : Nat) : List BE := (List.range m).map fun k => fastE b (n - 1 - k)
def edgesL (b : Bl) (l : List Pt) : List BE := inEs b l l.length ++ outEs b l.length (l.length - 1)
def rimI (b : Bl) (l : List Pt) (i : Nat) : Int := b.rim - (gp l i).2
def LSol (b : Bl) (l : List Pt) (g : Nat → Int) : Prop := ∀ v, v < l.length → g v + (gp l v).2 ≤ b.rim ∧ (0 < v → b.slow ≤ g (v - 1) - g v ∧ g (v - 1) - g v ≤ b.fast) ∧ (b.per.toNat ≤ v → b.land ≤ g (v - b.per.toNat) + (gp l (v - b.per.toNat)).1 - (g v + (gp l v).2))
def LCut (b : Bl) (l : List Pt) (g : Nat → Int) : Prop := LSol b l g ∧ ∀ v, v < l.length → b.core ≤ g v + (gp l v).1
def LOut (b : Bl) (l : List Pt) (o : List Int) : Prop := o.length = l.length ∧ LCut b l (gi o) ∧ ∀ g, LSol b l g → ∀ v, v < l.length → g v ≤ gi o v
theorem inE_mem {b : Bl} {l : List Pt} {i : Nat} {e : BE} : e ∈ inE b l i ↔ (0 < i ∧ e = slowE b i) ∨ (b.per.toNat ≤ i ∧ e = landE b l i) := by
 unfold inE
 rw [List.mem_append]
 constructor
 ·
  rintro (h | h)
  ·
   split at h
   ·
    exact .inl ⟨by assumption, by simpa using h⟩
   ·
    cases h
  ·
   split at h
   ·
    exact .inr ⟨by assumption, by simpa using h⟩
   ·
    cases h
 ·
  rintro (⟨h1, rfl⟩ | ⟨h1, rfl⟩)
  ·
   left; rw [if_pos h1]; simp
  ·
   right; rw [if_pos h1]; simp
theorem edgesL_mem {b : Bl} {l : List Pt} {e : BE} : e ∈ edgesL b l ↔ (∃ i, i < l.length ∧ ((0 < i ∧ e = slowE b i) ∨ (b.per.toNat ≤ i ∧ e = landE b l i))) ∨ ∃ i, 0 < i ∧ i < l.length ∧ e = fastE b i := by
 unfold edgesL inEs outEs
 rw [List.mem_append, List.mem_flatMap, List.mem_map]
 constructor
 ·
  rintro (⟨i, hi, h⟩ | ⟨k, hk, rfl⟩)
  ·
   exact .inl ⟨i, List.mem_range.1 hi, inE_mem.1 h⟩
  ·
   have := List.mem_range.1 hk
   exact .inr ⟨l.length - 1 - k, by omega, by omega, rfl⟩
 ·
  rintro (⟨i, hi, h⟩ | ⟨i, h1, h2, rfl⟩)
  ·
   exact .inl ⟨i, List.mem_range.2 hi, inE_mem.2 h⟩
  ·
   exact .inr ⟨l.length - 1 - i, List.mem_range.2 oM, by rw [show l.length - 1 - (l.length - 1 - i) = i by omega]⟩
section
variable {b : Bl} {l : List Pt}
theorem edges_ok (hb : 1 ≤ b.per) : EOk l.length (edgesL b l) ∧ ∀ e ∈ edgesL b l, e.f ≠ e.t := by
 constructor <;> intro e he <;> rcases edgesL_mem.1 he with ⟨i, hi, ⟨h1, rfl⟩ | ⟨h1, rfl⟩⟩ | ⟨i, h1, h2, rfl⟩ <;> simp only [slowE, landE, fastE] <;> omega
theorem sol_iff {g : Nat → Int} : Sol l.length (edgesL b l) (rimI b l) g ↔ LSol b l g := by
 constructor
 ·
  rintro ⟨h1, h2⟩ v hv
  refine ⟨by have := h1 v hv; unfold rimI at this; omega, fun h0 => ?_, fun hp => ?_⟩
  ·
   have a := h2 (slowE b v) (edgesL_mem.2 (.inl ⟨v, hv, .inl ⟨h0, rfl⟩⟩))
   have c := h2 (fastE b v) (edgesL_mem.2 (.inr ⟨v, h0, hv, rfl⟩))
   simp only [slowE, fastE] at a c
   omega
  ·
   have a := h2 (landE b l v) (edgesL_mem.2 (.inl ⟨v, hv, .inr ⟨hp, rfl⟩⟩))
   simp only [landE] at a
   omega
 ·
  intro h
  refine ⟨fun v hv => by have := (h v hv).1; unfold rimI; omega, fun e he => ?_⟩
  rcases edgesL_mem.1 he with ⟨i, hi, ⟨h1, rfl⟩ | ⟨h1, rfl⟩⟩ | ⟨i, h1, h2, rfl⟩
  ·
   have := ((h i hi).2.1 h1).1
   simp only [slowE]; omega
  ·
   have := (h i hi).2.2 h1
   simp only [landE]; omega
  ·
   have := ((h i h2).2.1 h1).2
   simp only [fastE]; omega
theorem edgesL_len : (edgesL b l).length ≤ 3 * l.length := by
 unfold edgesL inEs outEs
 have h : ∀ n, ((List.range n).flatMap (inE b l)).length ≤ 2 * n := by
  intro n
  induction n with
  | zero => simp
  | succ n ih =>
   rw [List.range_succ, List.flatMap_append, List.length_append]
   have : ([n].flatMap (inE b l)).length ≤ 2 := by
    simp only [List.flatMap_cons, List.flatMap_nil, List.append_nil, inE, List.length_append]
    split <;> split <;> simp
   omega
 have := h l.length
 rw [List.length_append, List.length_map, List.length_range]
 omega
theorem lout_of {g : Nat → Int} (hb : 1 ≤ b.per) (h : LCut b l g) : ∃ o, LOut b l o := by
 obtain ⟨hE, hns⟩ := edges_ok (l := l) hb
 have hs : ∃ g, Sol l.length (edgesL b l) (rimI b l) g := ⟨g, sol_iff.2 h.1⟩
 have he := rounds_end hE hns hs (Nat.le_refl _)
 have hf := fix_sol hE hns he
 have hge := (binv_rounds (i := rimI b l) hE hns l.length).sol
 obtain ⟨o, ho⟩ : ∃ o, o = (List.range l.length).map (BS.rounds (edgesL b l) (rimI b l) l.length).r := ⟨_, rfl⟩
 have hlen : o.length = l.length := by rw [ho]; simp
 have hgi : ∀ v, v < l.length → gi o v = (BS.rounds (edgesL b l) (rimI b l) l.length).r v := fun v hv => by rw [ho]; simp [gi, hv]
 have key : LSol b l (gi o) := by
  have h1 := sol_iff.1 hf
  intro v hv
  obtain ⟨a, c, d⟩ := h1 v hv
  rw [hgi v hv]
  refine ⟨a, fun h0 => ?_, fun hp => ?_⟩
  ·
   rw [hgi (v - 1) oM]; exact c h0
  ·
   rw [hgi (v - b.per.toNat) oM]; exact d hp
 have hmax : ∀ g, LSol b l g → ∀ v, v < l.length → g v ≤ gi o v := fun g hg v hv => by
  rw [hgi v hv]
  exact hge g (sol_iff.2 hg) v hv
 exact ⟨o, hlen, ⟨key, fun v hv => by have := h.2 v hv; have := hmax g h.1 v hv; omega⟩, hmax⟩
end
end Go.Proofs.YtffggfnomhhckaaGreatDoor

namespace Go.Ab
open Go.RowKit Go.Dw
section
variable {P : Program} {N : Nat} {C : Cx P N} {ops : Array Oper} {nx : Nat} {o : Oper} {os : List Oper} {tm : Nat → V} {σ : Nat → Option Ob} {ks : List (List Nat × List Nat)} {K : (Nat → V) → (Nat → Option Ob) → List (List Nat × List Nat) → Prop}
theorem aops_gfb {t : Nat} (hg : guardV (ops.toList.map (·.dst)) tm o = some (some false)) (ht : o.dst = some t) (hk : AOps C ops nx os (upd tm t (.gd false (.b false))) σ (ks ++ [([], [])]) K) : AOps C ops nx (o :: os) tm σ ks K := by
 have hw := guardV_spec hg
 have e : updO tm o.dst (.gd false (.b false)) = upd tm t (.gd false (.b false)) := by rw [ht]; rfl
 refine ⟨⟨false, .gd false (.b false), [], [], []⟩, ⟨hw, by simp, fun _ => ⟨fun _ _ _ => .gd _ _ _ _ (fun e => by cases e) fun _ => rfl, rfl, rfl⟩⟩, ?_⟩
 rw [e]; exact hk
end
end Go.Ab

namespace Go.Ab
open Go.RowKit Go.Dw
def AWR {P : Program} {N : Nat} (C : Cx P N) (c : Code) (Q : Exit → S → Prop) : Nat → S → Prop
 | 0, _ => False
 | m + 1, s => AW C c (XThen (AWR C c Q m) Q) s
section
variable {P : Program} {N : Nat} {C : Cx P N} {Q : Exit → S → Prop} {s : S} {c : Code}
theorem awr_succ {m : Nat} (h : ∀ K : S → Prop, (∀ s', AWR C c Q m s' → K s') → AW C c (XThen K Q) s) : AWR C c Q (m + 1) s := h _ fun _ h => h
theorem aw_rounds (m : Nat) (h : AWR C c Q m s) : AW C (.loop c) Q s := by
 intro a w g
 refine wpIn_loop_rounds m ?_
 have key : ∀ m s a w0 w, Tch C.W w0 w → AWR C c Q m s → Gm C s a w → Code.roundsIn C.F 0 P c (fun e a' w' => ∃ s', Q e s' ∧ Gm C s' a' w' ∧ Tch C.W w0 w') m a w := by
  intro m
  induction m with
  | zero => intro s a w0 w _ h; exact h.elim
  | succ m ih =>
   intro s a w0 w t0 h g
   refine wpIn_mono (h a w g) ?_
   rintro e a' w' ⟨s', q, g', t⟩
   cases e with
   | normal => exact ih s' a' w0 w' (t0.trans t) q g'
   | _ => exact ⟨s', q, g', t0.trans t⟩
 exact key m s a w w (Tch.refl _ _) h g
end
end Go.Ab

namespace Go.Ab
open Go.RowKit Go.Dw
section
variable {next : S → Prop} {Q : Exit → S → Prop} {s : S} {ch : List PanicEntry} {id : Nat}
end
section
variable {T : List TI} {P : Program}
end
end Go.Ab

namespace Go.Ab
open Go.RowKit Go.Dw
theorem le_openIn {tm : Nat → V} {σ : Nat → Option Ob} {nx : Nat} (id j : Nat) {t : TypeId} {cs : List V} (e sz : Nat) (row : Nat → List V) (h : σ id = some (.box t cs)) (hj : cs[j]? = some .nil) (hid : decide (id < nx * 100000) = true) (hjl : decide (j < 100000) = true) :
  Le ⟨tm, σ, nx⟩ ⟨tm, upd (upd σ (nx * 100000 + j) (some (.row e sz 0 row))) id (some (.box t (cs.set j (.own (nx * 100000 + j))))), nx + 1⟩ := by
 intro P N C a w ⟨L, ρ, g⟩
 have hjl := of_decide_eq_true hjl
 have hid := of_decide_eq_true hid
 have hn : ρ (nx * 100000 + j) = none := g.fr _ (Nat.le_add_right _ _)
 obtain ⟨hG, ex⟩ := g.g.put (w' := w) (σ1 := σ) (ρ' := upd ρ (nx * 100000 + j) (some (.slice none 0 0))) (World.grownBy.refl w none) (by simp) (nx * 100000 + j) _ (.row e sz 0 row) (fun i o hi ho => ⟨ho, by simp⟩) (fun i hi => upd_ne _ _ hi) (upd_same _ _ _) (.inl hn) (fun k hk => by simp [blk] at hk)
  (fun ex => ⟨_, [], upd_same _ _ _, World.ownsRow_nil _ _ _ _, fun i hi => by omega, by simp [slRows]; exact .nil, fun k hk => by simp [blk] at hk⟩)
 obtain ⟨ρ1, hρ1⟩ : ∃ ρ1, ρ1 = upd ρ (nx * 100000 + j) (some (.slice none 0 0)) := ⟨_, rfl⟩
 rw [← hρ1] at hG ex
 have hne : id ≠ nx * 100000 + j := by omega
 have h1 : upd σ (nx * 100000 + j) (some (.row e sz 0 row)) id = some (.box t cs) := by rw [upd_ne _ _ hne]; exact h
 obtain ⟨b, xs, q1, q2, q3, q4, q5⟩ := hG.ob id _ h1
 have hch : ∀ k, some b = some k → C.W k ∧ ¬ L k := by rintro k hk; injection hk with hk; subst hk; exact ⟨q2, q3⟩
 have hjx : j < xs.toList.length := by rw [← q5.1]; exact (List.getElem?_eq_some_iff.1 hj).1
 have hxj : xs.toList[j]? = some (.slice none 0 0) := by
  have e1 : xs.toList[j]? = some xs.toList[j] := List.getElem?_eq_getElem hjx
  have := (q5.2 j _ _ hj e1).1
  rw [e1]
  generalize xs.toList[j] = q at this
  cases this; rfl
 have hset : xs.toList.set j (.slice none 0 0) = xs.toList := by
  apply List.ext_getElem?
  intro i
  rw [List.getElem?_set]
  by_cases hij : j = i
  ·
   subst hij; rw [if_pos rfl, if_pos hjx, hxj]
  ·
   rw [if_neg hij]
 obtain ⟨hG2, ex2⟩ := hG.put (w' := w) (σ1 := upd σ (nx * 100000 + j) (some (.row e sz 0 row))) (ρ' := ρ1) (World.grownBy.refl w (some b)) hch id _ (.box t (cs.set j (.own (nx * 100000 + j))))
  (fun i o hi ho => ⟨ho, fun z hz k hk hkz => by
   injection hk with hk; subst hk
   exact hG.sep i id z _ b hi (by rw [ho]; simp) (by rw [h1]; simp) hz q1 hkz rfl⟩) (fun _ _ => rfl) q1 (.inr q1) (fun k hk => .inl (by simpa [blk] using hk)) (fun ex3 =>
   ⟨b, xs, q1, q2, q3, q4, by
    have := (q5.ext ex3).set j (u := .own (nx * 100000 + j)) (x := .slice none 0 0) (.own _ _ _ (by rw [hρ1, upd_same]) rfl) rfl
    rwa [hset] at this⟩)
 refine ⟨L, ρ1, ⟨hG2, fun i hi => ?_, fun t' => (g.tm t').ext ex, g.size, g.defers, fun i x hp => ex.r i x (g.pin i x hp)⟩⟩
 have hi' : (nx + 1) * 100000 ≤ i := hi
 rw [hρ1, upd_ne _ _ oM]
 exact g.fr i (Nat.le_trans (Nat.mul_le_mul_right _ (Nat.le_succ nx)) hi')
end Go.Ab

namespace Go.Ab
open Go.RowKit Go.Dw Go.Shelf
def ugT : V → Bool
 | .gd g _ => g
 | _ => true
theorem ugT_ok {v : V} (h : ugT v = true) : ugOk true v := by
 cases v <;> first | exact fun _ => h | trivial
structure YSG {P : Program} {N : Nat} {es : List (List V)} (C : Cx P N) (Y : YE P es) (ops : Array Oper) (nx : Nat) (os : List Oper) (fo : Operand) (ar : Array Operand) (d : Nat) (y : Oper) (Q : Exit → S → Nat → Bool → Prop) (k : Nat) (tm : Nat → V) (σ : Nat → Option Ob) : Prop where
 hg : wantedV ops tm y = some true
 hu : ((fo :: ar.toList).all fun x => ugT (ev tm x)) = true
 hf : ug (ev tm fo) = .c (.func (.yield Y.l) #[] #[])
 hv : ∃ v, es[k]? = some v ∧ A2 (ar.toList.map fun x => ug (ev tm x)) v
 idf : V.idfL (ar.toList.map fun x => ug (ev tm x)) = true
 t : AOps C ops nx os (upd tm d (.b true)) σ [] fun tm' σ' _ => Q .normal ⟨tm', σ', nx + 1⟩ (k + 1) true
 f : AOps C ops nx os (upd tm d (.b false)) σ [] fun tm' σ' _ => Q .normal ⟨tm', σ', nx + 1⟩ k false
theorem awj_yieldG {P : Program} {N : Nat} {es : List (List V)} {C : Cx P N} {Y : YE P es} {Q : Exit → S → Nat → Bool → Prop} (hC : YC C Y) {id nx k : Nat} {ol : List Oper} {tm : Nat → V} {σ : Nat → Option Ob} (n : Nat) {fo : Operand} {ar : Array Operand} {ats : Array TypeId} {d : Nat} {ty : TypeId} {pos : String} {af : Array Edge} {gd' : Nat × Bool}
  (hok : okReg N ol = true) (hy : ol[n]? = some ⟨some d, .call { callee := .value fo, args := ar, argTypes := ats }, ty, pos, af, some gd'⟩)
  (h : AOps C ol.toArray nx (ol.take n) tm σ [] fun tm1 σ1 _ => YSG C Y ol.toArray nx (ol.drop (n + 1)) fo ar d ⟨some d, .call { callee := .value fo, args := ar, argTypes := ats }, ty, pos, af, some gd'⟩ Q k tm1 σ1) : AWJ C Y (.region id ol.toArray false) Q ⟨tm, σ, nx⟩ k true := by
 intro a w ⟨L, ρ, g⟩ hj hb
 obtain ⟨h1, h2⟩ := okReg_spec hok
 obtain ⟨tr, tm1, σ1, h3, ys⟩ := h.run
 have hn : n < ol.length := (List.getElem?_eq_some_iff.1 hy).1
 obtain ⟨y, hyd⟩ : ∃ y : Oper, y = ⟨some d, .call { callee := .value fo, args := ar, argTypes := ats }, ty, pos, af, some gd'⟩ := ⟨_, rfl⟩
 have hsp : ol = ol.take n ++ y :: ol.drop (n + 1) := by
  rw [hyd]
  have e1 : ol.drop n = ol[n] :: ol.drop (n + 1) := List.drop_eq_getElem_cons hn
  have e2 : ol[n] = _ := (List.getElem?_eq_some_iff.1 hy).2
  rw [← e2, ← e1, List.take_append_drop]
 refine wpIn_region ?_
 have hsz : ol.toArray.size = (ol.take n).length + (y :: ol.drop (n + 1)).length := by
  simp; omega
 rw [List.range_eq_range', hsz]
 have hmem : ∀ o ∈ ol.take n ++ y :: ol.drop (n + 1), o ∈ ol := fun o ho => by rwa [← hsp] at ho
 refine run_pre (P := P) (W := C.W) (LB := C.LB) (ops := ol.toArray) (nx := nx) (N := N) (dfs := C.dfs) (.inl rfl) (by simpa using h1) (y :: ol.drop (n + 1)) (ol.take n) 0 tr tm tm1 σ σ1 a w w L ρ (freshA nx) (fun j => by rw [← hsp]; simp) h3 g (fun o ho t ht id h5 h6 h7 => h5) (fun id hid => freshA_succ hid) (by rw [← hsp]; exact h2) (Tch.refl _ _) ?_
 intro a1 W1 L1 ρ1 fr1 g1 q1 q2 t1
 rw [Nat.zero_add, List.length_take, Nat.min_eq_left (Nat.le_of_lt hn), List.length_cons, List.range'_succ, wpOpsIn_cons]
 have hj1 : Y.J k true W1 := Y.hJ _ _ _ _ hj (t1.belU hb fun j hj hW => (hC.W j hW).resolve_left oM)
 have hb1 : Y.B ≤ W1.heap.size := Nat.le_trans hb t1.size
 obtain ⟨v, hv, ha⟩ := ys.hv
 have hk : k < es.length := (List.getElem?_eq_some_iff.1 hv).1
 have hargs : RV W1 L1 ρ0 v (ar.map a1.eval).toList := by
  refine ha.rv (RV.free (ρ := ρ1) ⟨by simp, fun i u x hu hx => ?_⟩ ys.idf)
  simp only [List.getElem?_map, Option.map_eq_some_iff, Array.toList_map] at hu hx
  obtain ⟨p, hp, rfl⟩ := hu
  obtain ⟨q, hq, rfl⟩ := hx
  rw [hp] at hq
  injection hq with hq
  subst hq
  exact (g1.tm.eval g1.g.gl p).ug (ugT_ok (List.all_eq_true.1 ys.hu p (List.mem_cons_of_mem _ (List.mem_of_getElem? hp))))
 have hLl : ∀ b, L1 b → (Y.L0 b ∨ Y.U b) ∨ Y.B ≤ b := fun b hb => hC.LB b (g1.g.ll b hb).2
 obtain ⟨fn, tmps, assign, body, hyr, hR⟩ := Y.hY k (ar.map a1.eval) W1 hk ⟨v, hv, L1, fun b hbl => by
  rcases hLl b hbl with h | h
  ·
   exact .inl h
  ·
   exact .inr ⟨Nat.le_trans Y.hB h, (g1.g.ll b hbl).1, by have := Y.hl.2; omega⟩, hargs⟩ hb1 hj1
 have hfe : a1.eval fo = .func (.yield Y.l) #[] #[] := by
  have := (g1.tm.eval g1.g.gl fo).ug (ugT_ok (List.all_eq_true.1 ys.hu fo (List.mem_cons_self ..)))
  rw [ys.hf] at this
  exact this.c_inv
 have ho : ol.toArray[n]? = some y := by simp [hy, hyd]
 unfold wpOpIn
 rw [ho]
 simp only
 have hwt : Region.wanted y (yielded ol.toArray a1.tmps) = true := by rw [hyd]; exact wantedV_spec g1.tm ys.hg
 rw [if_pos hwt]
 refine ⟨fun f _ => trivial, ?_⟩
 have hrun : (y.semAt Fence.wide.round a1.eval).run P W1 = .ok (.round Y.l fn tmps assign body) W1 := by
  rw [Oper.semAt_eq _ _ _ (fun c e => by rw [hyd] at e; cases e), hyd]
  simp [execOp, resolve, Deferred.ofValue, invoke, hfe, hyr]
 rw [hrun, Oper.uponIn_round]
 refine ⟨fun e => by simp [Fence.wide] at e, hR.mono ?_⟩
 rintro e W2 ⟨b, rfl, ht2, j1, j2⟩
 have hyd2 : y.dst = some d := by rw [hyd]
 have hdN : d < N := h1 y (hmem y (by simp)) d hyd2
 have nL : ∀ j, L1 j → ¬ (Y.R0 j ∨ j = Y.l) := by
  rintro j hjl (h | rfl)
  ·
   have q := Y.hR j h
   rcases hLl j hjl with (h' | h') | h'
   ·
    exact q.2 h'
   ·
    exact (Y.hU j h').2.2 h
   ·
    have := Y.hB; omega
  ·
   rcases hLl _ hjl with (h' | h') | h'
   ·
    have := Y.hL _ h'; have := Y.hl.1; omega
   ·
    have := (Y.hU _ h').1; have := Y.hl.1; omega
   ·
    have := Y.hl.2; omega
 have nW : ∀ j, C.W j → ¬ (Y.R0 j ∨ j = Y.l) := by
  rintro j hjw (h | rfl)
  ·
   rcases hC.W j hjw with hw | hw
   ·
    have q := Y.hR j h; have := Y.hB; omega
   ·
    exact (Y.hU j hw).2.2 h
  ·
   rcases hC.W _ hjw with hw | hw
   ·
    have := Y.hl.2; omega
   ·
    have := (Y.hU _ hw).1; have := Y.hl.1; omega
 have ex : Ext W1 L1 ρ1 W2 L1 ρ1 := ⟨fun b hb => ⟨hb, ht2.block b (g1.g.ll b hb).1 (nL b hb)⟩, fun _ _ h => h⟩
 have gb : ∀ z : Bool, z = b → Gam C.W C.LB N C.dfs fr1 (upd tm1 d (.b z)) σ1 (a1.put y.dst (.bool b)) W2 L1 ρ1 := by
  rintro z rfl
  rw [hyd2]
  refine ⟨⟨fun b hb => ⟨Nat.lt_of_lt_of_le (g1.g.ll b hb).1 ht2.size, (g1.g.ll b hb).2⟩, fun b hb => g1.g.new b (Nat.le_trans ht2.size hb), fun id o ho => ?_, g1.g.sep, g1.g.glE ex⟩, g1.fr, (show TM (updO tm1 (some d) (V.b z)) _ _ _ _ from (g1.tm.ext ex).put (fun t ht => by injection ht with ht; rw [← ht, g1.size]; exact hdN) (.c _ _)), by simp [Act.put, g1.size], ?_, g1.pin⟩
  ·
   have hr1 := g1.g.ob id o ho
   obtain ⟨u, hu, hu2⟩ := hr1.lt
   refine hr1.keep ex fun x j hx hj => ?_
   rw [hx] at hu; injection hu with hu; subst hu
   exact ⟨ht2.block j (hu2 j hj).1 (nW j (hu2 j hj).2.1), (hu2 j hj).2.2⟩
  ·
   obtain ⟨Es, p1, p2, p3⟩ := g1.defers
   exact ⟨Es, p1, p2, fun D hD => ⟨(ht2.block D (Array.getElem?_eq_some_iff.1 (p3 D hD).1).1 (nW D (p3 D hD).2.1)).trans (p3 D hD).1, (p3 D hD).2⟩⟩
 have hb2 : Y.B ≤ W2.heap.size := Nat.le_trans hb1 ht2.size
 have hnd : ((ol.drop (n + 1)).filterMap (·.dst)).Nodup := by
  rw [hsp, List.filterMap_append, List.filterMap_cons, hyd2] at h2
  exact (List.nodup_cons.1 (List.nodup_append.1 h2).2.1).2
 have tail : ∀ (z : Bool) (k' : Nat), z = b → Y.J k' z W2 → AOps C ol.toArray nx (ol.drop (n + 1)) (upd tm1 d (.b z)) σ1 [] (fun tm' σ' _ => Q .normal ⟨tm', σ', nx + 1⟩ k' z) →
   wpOpsIn Fence.wide 0 P ol.toArray (fun e a' w' => ∃ s' k' g', Q e s' k' g' ∧ Gm C s' a' w' ∧ Y.J k' g' w' ∧ Y.B ≤ w'.heap.size) (List.range' (n + 1) (ol.drop (n + 1)).length) (a1.put y.dst (.bool b)) W2 := by
  intro z k' hz hj' hA
  obtain ⟨tr2, tm2, σ2, h4, hq⟩ := hA.run
  exact run_text (P := P) (W := C.W) (LB := C.LB) (ops := ol.toArray) (nx := nx) (N := N) (dfs := C.dfs) (.inl rfl) (by simpa using h1) (ol.drop (n + 1)) (n + 1) tr2 _ tm2 _ σ2 _ W2 W2 L1 ρ1 fr1 (fun j => by simp) h4 (gb z hz) (fun o ho => q1 o (by simp [ho])) q2 hnd (Tch.refl _ _) fun a' w' L' ρ' g' t' =>
   ⟨⟨tm2, σ2, nx + 1⟩, k', z, hq, ⟨L', ρ', g'⟩, Y.hJ _ _ _ _ hj' (t'.belU hb2 fun j hj hW => (hC.W j hW).resolve_left oM), Nat.le_trans hb2 t'.size⟩
 cases b with
 | true => exact tail true (k + 1) rfl (j1 rfl) ys.t
 | false => exact tail false k rfl (j2 rfl) ys.f
end Go.Ab

namespace Go.Ab
open Go.RowKit Go.Dw
theorem Real.ptr {W : Nat → Prop} {w : World} {L : Nat → Prop} {ρ : Nat → Option Value} {id t : Nat} {cs : List V} (h : Real W w L ρ id (.box t cs)) (hi : V.idfL cs = true) :
  ∃ v, ρ id = some v ∧ (∀ k, blk v = some k → k < w.heap.size ∧ W k ∧ ¬ L k) ∧ R w (fun b => L b ∨ blk v = some b) ρ (.ptr cs) v := by
 obtain ⟨v', hv', hlt⟩ := h.lt
 obtain ⟨b, xs, h1, h2, h3, h4, h5⟩ := h
 rw [h1] at hv'; injection hv' with hv'; subst hv'
 refine ⟨_, h1, hlt, ?_⟩
 refine .ptr _ _ _ _ (fun j => xs.toList.getD j undef) (.inr rfl) (fun j u hu => ?_) fun j u hu => ?_
 ·
  obtain ⟨y, hy, hr, hone⟩ := h5.get hu
  have hg : xs.toList.getD j undef = y := by simp [List.getD_eq_getElem?_getD, hy]
  rw [hg]
  refine ⟨?_, hone⟩
  rw [Nat.zero_add]
  rw [cell_of_row w b j xs t (0, 0) h4]
  simpa using hy
 ·
  obtain ⟨y, hy, hr, hone⟩ := h5.get hu
  have hg : xs.toList.getD j undef = y := by simp [List.getD_eq_getElem?_getD, hy]
  rw [hg]
  exact (hr.free (V.idfL_get hi hu) ρ0).ext ⟨fun b hb => ⟨.inl hb, rfl⟩, fun _ _ h => h⟩
def V.flatT : V → Bool
 | .tup cs => V.flatL cs
 | v => v.flat
theorem R.flatT {w w' : World} {L L' : Nat → Prop} {ρ ρ' : Nat → Option Value} {u : V} {x : Value} (h : R w L ρ u x) (hf : u.flatT = true) : R w' L' ρ' u x := by
 cases u with
 | tup cs =>
  obtain ⟨xs, rfl, hx⟩ := h.tup_inv
  exact .tup' ⟨hx.1, fun i v y hv hy => (hx.2 i v y hv hy).flat (V.flatL_get hf hv)⟩
 | _ => exact h.flat hf
theorem AC.box {P : Program} {f : FuncId} {args args' : List V} {v : V} (h : AC P f args' v []) (t : TypeId) {cs : List V} (ha : V.fzL 500 (.ptr cs) args = args') (hi : V.idfL args' = true) (hi2 : V.idfL cs = true) (hv : v.flatT = true) :
  AM P f args [.box t cs] v [some (.box t cs)] [] := by
 refine ⟨h.1, fun W LB L w ρ vs hwl hWL hG hρ hvs => ?_⟩
 have hσ : insF [.box t cs] 500 = some (.box t cs) := rfl
 obtain ⟨v0, hv0, hlt, hs⟩ := (hG.ob 500 _ hσ).ptr hi2
 have ex : Ext w L ρ w (fun b => L b ∨ blk v0 = some b) ρ := ⟨fun b hb => ⟨.inl hb, rfl⟩, fun _ _ h => h⟩
 have hrv : RV w (fun b => L b ∨ blk v0 = some b) ρ0 args' vs.toList := by
  refine RV.free (ρ := ρ) ?_ hi
  rw [← ha]
  refine ⟨by rw [V.fzL_len]; exact hvs.1, fun i u x hu hx => ?_⟩
  rw [V.fzL_get] at hu
  cases hc : args[i]? with
  | none => rw [hc] at hu; cases hu
  | some a =>
   rw [hc] at hu
   simp only [Option.map_some, Option.some.injEq] at hu
   subst hu
   refine R_fz (fun y hy => ?_) _ _ ((hvs.2 i a x hc hx).ext ex)
   rw [hv0] at hy; injection hy with hy; subst hy; exact hs
 refine (h.2 (fun b => L b ∨ blk v0 = some b) w vs (fun b hb => ?_) (hG.glE ex) hrv).mono ?_
 ·
  rcases hb with hb | hb
  ·
   exact (hG.ll b hb).1
  ·
   exact (hlt b hb).1
 rintro ee w' ⟨x, rfl, hbel, L', ρ', hG', hL', hx, hnn⟩
 obtain ⟨hG2, ex2⟩ := hG.quiet hbel (L' := L) (fun _ h => h) (fun _ h => .inl h)
 have e : outF [some (.box t cs)] [] = insF [.box t cs] := by
  funext id
  unfold outF insF
  by_cases h5 : 500 ≤ id
  ·
   rw [if_pos h5, if_pos h5]
   cases hk : id - 500 with
   | zero => rfl
   | succ n => simp
  ·
   rw [if_neg h5, if_neg h5]; simp
 refine ⟨x, rfl, Tch.of_below hbel fun k _ hk => (hG.new k hk).1, L, ρ, ?_, ex2, hx.flatT hv, fun j _ hj => hρ j hj⟩
 rw [e]; exact hG2
end Go.Ab
