/-
  Several texts in one: The samples of extents: the walks of both copies. Conditions: told in each theorem. .. Points with their neighbours, and the fault of a groove: the walks of the program. Conditions: told in each theorem.
-/
import Derived.Test.YtepkjobndmmejaaGreatDoorAbs42
import Derived.Test.YtepkjobndmmejaaGreatDoorX05
import Derived.Test.YtepkjobndmmejaaGreatDoorX01
import Derived.Test.YtepkjobndmmejaaGreatDoorX02
namespace Go.Proofs.YtepkjobndmmejaaGreatDoor
open Go.Ab Go.RowKit Go.Dw Go.Shelf
def IsFirst (p : Int → Bool) (F : Int) : Prop := -32767 ≤ F ∧ F ≤ 32768 ∧ (∀ n, -32767 ≤ n → n < F → p n = false) ∧ ∀ n, F ≤ n → n ≤ 32767 → p n = true
theorem first_exists {p : Int → Bool} (hm : ∀ m n, m ≤ n → p m = true → p n = true) : ∃ F, IsFirst p F := by
  have key : ∀ k : Nat, k ≤ 65535 → (∃ F, IsFirst p F) ∨ ∀ n, -32767 ≤ n → n < -32767 + (k : Int) → p n = false := by
    intro k
    induction k with
    | zero => intro _; right; intro n h1 h2; omega
    | succ k ih =>
      intro hk
      rcases ih oM with h | h
      · exact .inl h
      · cases hp : p (-32767 + (k : Int)) with
        | true => exact .inl ⟨-32767 + (k : Int), by omega, by omega, h, fun n h1 _ => hm _ _ h1 hp⟩
        | false =>
          right
          intro n h1 h2
          by_cases he : n = -32767 + (k : Int)
          · rw [he]; exact hp
          · exact h n h1 oM
  rcases key 65535 (Nat.le_refl _) with h | h
  · exact h
  · exact ⟨32768, by omega, by omega, fun n h1 h2 => h n h1 oM, fun n h1 h2 => by omega⟩
set_option maxRecDepth 100000 in
theorem first_ac (g : FuncId) (u v : List V) (p : Int → Bool) (F : Int) (hF' : IsFirst p F) (hp : ∀ n, -32767 ≤ n → n ≤ 32767 → AC Tryz.prog g [.i n, .ptr u, .ptr v] (.b (p n)) []) : AC Tryz.prog 74 [.fn (.func g) [] [.ptr u, .ptr v]] (.i F) [] := by
  obtain ⟨f1, f2, f3, f4⟩ := hF'
  refine ac_intro hTT hMX (fn := Tryz.f74) (N := _) ⟨Tryz.func74, rfl, Tryz.ntmps74, kR⟩ (by simp) fun C hC hF => ?_
  refine sK fun K hK => ?_; refine wR 2 ?_
  refine aops_n hTT (M := []) (n := 1) [pv 2 (V.i 0)] kR kR tI ?_
  refine aops_nil ?_; refine xt_n ?_; refine hK _ ?_; clear hK K; refine sK fun K hK => ?_; refine wR 3 ?_
  refine aops_n hTT (M := []) (n := 2) [pv 3 (V.i (-32767)), pv 4 (V.i 32768)] kR kR tI ?_
  refine aops_nil ?_; refine xt_n ?_; refine hK _ ?_; clear hK K; refine sK fun K hK => ?_
  refine aw_block ?_
  refine w_loop (fun x : Int × Int => [(0, .fn (.func g) [] [.ptr u, .ptr v]), (3, .i x.1), (4, .i x.2)]) (fun _ => []) (fun x => -32767 ≤ x.1 ∧ x.1 ≤ F ∧ F ≤ x.2 ∧ x.2 ≤ 32768) (fun x => (x.2 - x.1).toNat) (-32767, 32768) ⟨by omega, by omega, by omega, by omega⟩ ?_ ?_
  · refine le_ren [] (.cons kR (.cons kR (.cons kR .nil))) .nil kR kR
  rintro ⟨a, b⟩ ⟨h1, h2, h3, h4⟩
  dsimp only at h1 h2 h3 h4
  refine sK fun K hK => ?_; refine sK fun K hK => ?_; refine wR 2 ?_
  refine aops_n hTT (M := []) (n := 3) [pv 6 (V.i a), pv 7 (V.i b), pv 8 (V.b (decide (a < b)))] kR kR tI ?_
  refine aops_nil ?_; refine xt_n ?_; refine hK _ ?_; clear hK K
  refine w_cond (t := decide (a < b)) kR (fun h => ?_) (fun h => ?_)
  · simp at h
    obtain ⟨d, hd⟩ : ∃ d, d = (b - a - 1).tdiv 2 := ⟨_, rfl⟩
    have hd1 : 0 ≤ d ∧ 2 * d ≤ b - a - 1 := by rw [hd, Int.tdiv_eq_ediv_of_nonneg oM]; omega
    refine aw_skip ?_
    refine xt_n ?_; refine hK _ ?_; clear hK K
    refine aw_block ?_
    refine sK fun K hK => ?_; refine wR 3 ?_
    refine aops_n hTT (M := []) (n := 8) [pv 9 (V.i a), pv 10 (V.i b), pv 11 (V.i a), pc 12 ((-9223372036854775808 : Int) ≤ b - a ∧ b - a ≤ 9223372036854775807) (V.i (b - a)), pc 13 ((-9223372036854775808 : Int) ≤ b - a - 1 ∧ b - a - 1 ≤ (9223372036854775807 : Int)) (V.i (b - a - 1)), pc 14 ((0 : Int) < (2 : Int) ∧ (-9223372036854775808 : Int) ≤ b - a - 1 ∧ b - a - 1 ≤ (9223372036854775807 : Int)) (V.i (Int.tdiv (b - a - 1) (2 : Int))), pc 15 ((-9223372036854775808 : Int) ≤ a + Int.tdiv (b - a - 1) (2 : Int) ∧ a + Int.tdiv (b - a - 1) (2 : Int) ≤ (9223372036854775807 : Int)) (V.i (a + Int.tdiv (b - a - 1) (2 : Int))), pv 5 (V.i (a + Int.tdiv (b - a - 1) (2 : Int)))] kR kR ⟨oM, oM, ⟨oM, oM⟩, oM, tI⟩ ?_
    refine aops_nil ?_; refine xt_n ?_; refine hK _ ?_; clear hK K; refine sK fun K hK => ?_; refine wR 4 ?_
    refine aops_n hTT (M := []) (n := 2) [pv 16 (V.fn (Fn.func g) [] [V.ptr u, V.ptr v]), pv 17 (V.i (a + Int.tdiv (b - a - 1) (2 : Int)))] kR kR tI ?_
    rw [← hd]
    refine e_call (first := []) (caps := [V.ptr u, V.ptr v]) (hp (a + d) oM oM) kR kR kR kR kR ?_
    refine aops_nil ?_; refine xt_n ?_; refine hK _ ?_; clear hK K
    refine w_cond (t := p (a + d)) kR (fun h5 => ?_) (fun h5 => ?_)
    · refine wR 5 ?_
      refine aops_n hTT (M := []) (n := 2) [pv 19 (V.i (a + d)), pv 4 (V.i (a + d))] kR kR tI ?_
      refine aops_nil ?_; refine xb_n ?_; refine xt_n ?_
      refine ⟨(a, a + d), ⟨by omega, by omega, ?_, by omega⟩, ?_, by omega⟩
      · dsimp only
        by_cases hlt : a + d < F
        · rw [f3 (a + d) oM hlt] at h5; cases h5
        · omega
      · refine le_ren [] (.cons kR (.cons kR (.cons kR .nil))) .nil kR kR
    · refine wR 5 ?_
      refine aops_n hTT (M := []) (n := 3) [pv 20 (V.i (a + d)), pc 21 ((-9223372036854775808 : Int) ≤ a + d + 1 ∧ a + d + 1 ≤ (9223372036854775807 : Int)) (V.i (a + d + 1)), pv 3 (V.i (a + d + 1))] kR kR ⟨oM, tI⟩ ?_
      refine aops_nil ?_; refine xb_n ?_; refine xt_n ?_
      refine ⟨(a + d + 1, b), ⟨by omega, ?_, by omega, by omega⟩, ?_, by omega⟩
      · dsimp only
        by_cases hlt : a + d < F
        · omega
        · rw [f4 (a + d) oM oM] at h5; cases h5
      · refine le_ren [] (.cons kR (.cons kR (.cons kR .nil))) .nil kR kR
  simp at h
  obtain rfl : F = a := by omega
  refine aw_exit ?_
  refine xt_x ?_; refine xt_x ?_
  refine xb_same ?_
  refine xt_n ?_; clear hK K; refine hK _ ?_; clear hK K; refine sK fun K hK => ?_; refine wR 3 ?_
  refine aops_n hTT (M := []) (n := 2) [pv 22 (V.i F), pv 2 (V.i F)] kR kR tI ?_
  refine aops_nil ?_; refine xt_n ?_; refine hK _ ?_; clear hK K
  refine aw_ret ?_
  refine rP (V.i F)
theorem tdiv_bd (x : Int) {m : Int} (hm : 0 < m) : (0 ≤ x → 0 ≤ x.tdiv m ∧ x.tdiv m ≤ x) ∧ (x < 0 → x ≤ x.tdiv m ∧ x.tdiv m ≤ 0) := by
  refine ⟨fun h => ?_, fun h => ?_⟩
  · rw [Int.tdiv_eq_ediv_of_nonneg h]
    exact ⟨Int.ediv_nonneg h oM, Int.ediv_le_self _ h⟩
  · have e : x.tdiv m = -((-x) / m) := by
      have := Int.neg_tdiv (a := -x) (b := m)
      rw [Int.neg_neg] at this
      rw [this, Int.tdiv_eq_ediv_of_nonneg oM]
    have h3 := Int.ediv_nonneg (a := -x) (b := m) oM oM
    have h4 := Int.ediv_le_self (a := -x) m oM
    omega
def edgeI (half gain n : Int) : Int := half + (n * gain).tdiv 1000
set_option maxRecDepth 100000 in
theorem edge_ac (c : Cut) (half n : Int) (hc : cutE c = 0) (hh : -4096 ≤ half ∧ half ≤ 4096) (hn : -32767 ≤ n ∧ n ≤ 32768) : AC Tryz.prog 73 [.i n, .ptr [.i half], .ptr [.i c.half, .i c.gain, .i c.thin, .i c.wide, .i c.slope, .i c.jerk, .i c.sty]] (.i (edgeI half c.gain n)) [] := by
  refine ac_intro hTT hMX (fn := Tryz.f73) (N := _) ⟨Tryz.func73, rfl, Tryz.ntmps73, kR⟩ (by simp) fun C hC hF => ?_
  obtain ⟨_, ⟨g1, g2⟩, _⟩ := cutE_ok.1 hc
  have h1 : n * c.gain ≤ 32768 * 100000 := Int.le_trans (Int.mul_le_mul_of_nonneg_right hn.2 g1) (Int.mul_le_mul_of_nonneg_left g2 (by decide))
  have h2 : (-32767) * 100000 ≤ n * c.gain := Int.le_trans (Int.mul_le_mul_of_nonpos_left (by decide) g2) (Int.mul_le_mul_of_nonneg_right hn.1 g1)
  have h3 := tdiv_bd (n * c.gain) (m := 1000) (by decide)
  refine sK fun K hK => ?_; refine wR 2 ?_; refine aX hTT 1 [] tI ?_; refine aops_nil ?_; refine xt_n ?_; refine hK _ ?_; clear hK K; refine sK fun K hK => ?_; refine wR 3 ?_; refine aX hTT 8 [(4, .i (n * Cut.gain c)), (5, .c ((0 : Int) < (1000 : Int) ∧ (-9223372036854775808 : Int) ≤ n * Cut.gain c ∧ n * Cut.gain c ≤ 9223372036854775807)), (6, .i (half + Int.tdiv (n * Cut.gain c) (1000 : Int)))] ⟨oM, ⟨oM, oM⟩, oM, tI⟩ ?_; refine aops_nil ?_; refine xt_n ?_; refine hK _ ?_; clear hK K
  refine aw_ret ?_
  refine rP (V.i (half + Int.tdiv (n * Cut.gain c) (1000 : Int)))
abbrev edgeV (c : Cut) (half : Int) : V := .fn (.func 73) [] [.ptr [.i half], .ptr [.i c.half, .i c.gain, .i c.thin, .i c.wide, .i c.slope, .i c.jerk, .i c.sty]]
set_option maxRecDepth 100000 in
theorem lo_ac (c : Cut) (half lo hi n : Int) (hc : cutE c = 0) (hh : -4096 ≤ half ∧ half ≤ 4096) (hn : -32767 ≤ n ∧ n ≤ 32768) : AC Tryz.prog 75 [.i n, .ptr [edgeV c half], .ptr [.i lo, .i hi]] (.b (decide (lo ≤ edgeI half c.gain n))) [] := by
  refine ac_intro hTT hMX (fn := Tryz.f75) (N := _) ⟨Tryz.func75, rfl, Tryz.ntmps75, kR⟩ (by simp) fun C hC hF => ?_
  refine sK fun K hK => ?_; refine wR 2 ?_; refine aX hTT 1 [] tI ?_; refine aops_nil ?_; refine xt_n ?_; refine hK _ ?_; clear hK K; refine sK fun K hK => ?_; refine wD 3 ?_; refine aX hTT 2 [] tI ?_
  refine e_call (first := []) (caps := [V.ptr [V.i half], V.ptr [V.i (Cut.half c), V.i (Cut.gain c), V.i (Cut.thin c), V.i (Cut.wide c), V.i (Cut.slope c), V.i (Cut.jerk c), V.i (Cut.sty c)]]) (edge_ac c half n hc hh hn) kR kR kR kR kR ?_
  refine aX hTT 4 [] tI ?_; refine aops_nil ⟨kR, ?_⟩; refine xt_n ?_; refine hK _ ?_; clear hK K
  refine aw_ret ?_
  refine rP (V.b (decide (lo ≤ edgeI half (Cut.gain c) n)))
set_option maxRecDepth 100000 in
theorem hi_ac (c : Cut) (half lo hi n : Int) (hc : cutE c = 0) (hh : -4096 ≤ half ∧ half ≤ 4096) (hn : -32767 ≤ n ∧ n ≤ 32768) : AC Tryz.prog 76 [.i n, .ptr [edgeV c half], .ptr [.i lo, .i hi]] (.b (decide (hi < edgeI half c.gain n))) [] := by
  refine ac_intro hTT hMX (fn := Tryz.f76) (N := _) ⟨Tryz.func76, rfl, Tryz.ntmps76, kR⟩ (by simp) fun C hC hF => ?_
  refine sK fun K hK => ?_; refine wR 2 ?_; refine aX hTT 1 [] tI ?_; refine aops_nil ?_; refine xt_n ?_; refine hK _ ?_; clear hK K; refine sK fun K hK => ?_; refine wD 3 ?_; refine aX hTT 2 [] tI ?_
  refine e_call (first := []) (caps := [V.ptr [V.i half], V.ptr [V.i (Cut.half c), V.i (Cut.gain c), V.i (Cut.thin c), V.i (Cut.wide c), V.i (Cut.slope c), V.i (Cut.jerk c), V.i (Cut.sty c)]]) (edge_ac c half n hc hh hn) kR kR kR kR kR ?_
  refine aX hTT 4 [] tI ?_; refine aops_nil ⟨kR, ?_⟩; refine xt_n ?_; refine hK _ ?_; clear hK K
  refine aw_ret ?_
  refine rP (V.b (decide (hi < edgeI half (Cut.gain c) n)))
abbrev yyPAb180 (c : Cut) (half : Int) : List V := [V.fn (Fn.func (73 : Nat)) [] [V.ptr [V.i half], V.ptr [V.i (Cut.half c), V.i (Cut.gain c), V.i (Cut.thin c), V.i (Cut.wide c), V.i (Cut.slope c), V.i (Cut.jerk c), V.i (Cut.sty c)]]]
set_option maxRecDepth 100000 in
theorem samples_ac (c : Cut) (half lo hi F G : Int) (hc : cutE c = 0) (hh : -4096 ≤ half ∧ half ≤ 4096) (hF' : IsFirst (fun n => decide (lo ≤ edgeI half c.gain n)) F) (hG' : IsFirst (fun n => decide (hi < edgeI half c.gain n)) G) :
    AC Tryz.prog 41 [c.v, .i half, .agg [.i lo, .i hi]] (.tup [.agg [.i F, .i (G - 1)], .b (decide (F ≤ G - 1))]) [] := by
  have b1 := hF'.1
  have b2 := hF'.2.1
  have b3 := hG'.1
  have b4 := hG'.2.1
  refine ac_intro hTT hMX (fn := Tryz.f41) (N := _) ⟨Tryz.func41, rfl, Tryz.ntmps41, kR⟩ (by simp) fun C hC hF => ?_
  refine sK fun K hK => ?_; refine wR 2 ?_; refine aX hTT 5 [(3, .r (pn 6 (V.ref 100006 0) (100006 : Nat) (Ob.box 40 [V.i 0, V.i 0])))] tI ?_; refine aops_nil ?_; refine xt_n ?_; refine hK _ ?_; clear hK K; refine sK fun K hK => ?_; refine wR 3 ?_; refine aX hTT 3 [(1, .r (pn 8 (V.ref 200008 0) (200008 : Nat) (Ob.box 53 [V.c Value.nilFunc]))), (2, .r (pw ((0 : Nat) + (1 : Nat) ≤ (1 : Nat)) (200008 : Nat) (Ob.box 53 (yyPAb180 c half))))] ⟨oM, tI⟩ ?_; refine aops_nil ?_; refine xt_n ?_; refine hK _ ?_; clear hK K; refine sK fun K hK => ?_
  refine w_le (le_freezeBox (t := (53 : Nat)) (cs := (yyPAb180 c half)) 200008 kR kR) ?_
  refine wR 4 ?_; refine aX hTT 1 [] tI ?_
  refine eC (first_ac _ _ _ _ F hF' (fun n h1 h2 => lo_ac c half lo hi n hc hh ⟨h1, by omega⟩)) ?_
  refine aX hTT 1 [] tI ?_
  refine eC (first_ac _ _ _ _ G hG' (fun n h1 h2 => hi_ac c half lo hi n hc hh ⟨h1, by omega⟩)) ?_
  refine aX hTT 4 [(0, .i (G - 1)), (2, .r (pn 9 (V.ref 300009 0) (300009 : Nat) (Ob.box 40 [V.i 0, V.i 0]))), (3, .r (pw ((0 : Nat) + (2 : Nat) ≤ (2 : Nat)) (300009 : Nat) (Ob.box 40 [V.i F, V.i (G - 1)])))] ⟨oM, oM, tI⟩ ?_; refine aops_nil ?_; refine xt_n ?_; refine hK _ ?_; clear hK K; refine sK fun K hK => ?_; refine wD 5 ?_; refine aX hTT 8 [(0, .c ((0 : Nat) ≤ (2 : Nat))), (2, .c ((0 : Nat) ≤ (2 : Nat))), (4, .c ((1 : Nat) ≤ (2 : Nat))), (6, .r (pw ((0 : Nat) + (2 : Nat) ≤ (2 : Nat)) (100006 : Nat) (Ob.box 40 [V.i F, V.i (G - 1)])))] ⟨oM, oM, oM, oM, tI⟩ ?_; refine aops_nil ⟨kR, ?_⟩; refine xt_n ?_; refine hK _ ?_; clear hK K
  refine aw_ret ?_
  refine rP (V.tup [V.agg [V.i F, V.i (G - 1)], V.b (decide (F ≤ G - 1))])
end Go.Proofs.YtepkjobndmmejaaGreatDoor

namespace Go.Proofs.YtepkjobndmmejaaGreatDoor
open Go.Ab Go.RowKit Go.Dw Go.Shelf
theorem tdiv_mono {a b m : Int} (hm : 0 < m) (h : a ≤ b) : a.tdiv m ≤ b.tdiv m := by
  by_cases ha : 0 ≤ a
  · rw [Int.tdiv_eq_ediv_of_nonneg ha, Int.tdiv_eq_ediv_of_nonneg oM]
    exact Int.ediv_le_ediv hm h
  · by_cases hb : 0 ≤ b
    · have := (tdiv_bd a hm).2 oM
      have := (tdiv_bd b hm).1 hb
      omega
    · have e1 : a.tdiv m = -((-a) / m) := by
        have := Int.neg_tdiv (a := -a) (b := m)
        rw [Int.neg_neg] at this
        rw [this, Int.tdiv_eq_ediv_of_nonneg oM]
      have e2 : b.tdiv m = -((-b) / m) := by
        have := Int.neg_tdiv (a := -b) (b := m)
        rw [Int.neg_neg] at this
        rw [this, Int.tdiv_eq_ediv_of_nonneg oM]
      have := Int.ediv_le_ediv hm (show -b ≤ -a by omega)
      omega
theorem edge_mono {half gain m n : Int} (hg : 0 ≤ gain) (h : m ≤ n) : edgeI half gain m ≤ edgeI half gain n := by
  have := tdiv_mono (m := 1000) (by decide) (Int.mul_le_mul_of_nonneg_right h hg)
  unfold edgeI
  omega
theorem lo_first {half gain lo : Int} (hg : 0 ≤ gain) : ∃ F, IsFirst (fun n => decide (lo ≤ edgeI half gain n)) F := first_exists fun m n h hp => by
  have := edge_mono (half := half) hg h
  simp at hp ⊢
  omega
theorem hi_first {half gain hi : Int} (hg : 0 ≤ gain) : ∃ F, IsFirst (fun n => decide (hi < edgeI half gain n)) F := first_exists fun m n h hp => by
  have := edge_mono (half := half) hg h
  simp at hp ⊢
  omega
structure Fs where
  F : Int
  G : Int
def Fs.ok (s : Fs) (c : Cut) (half lo hi : Int) : Prop := IsFirst (fun n => decide (lo ≤ edgeI half c.gain n)) s.F ∧ IsFirst (fun n => decide (hi < edgeI half c.gain n)) s.G
theorem fs_exists (c : Cut) (hc : cutE c = 0) (half lo hi : Int) : ∃ s : Fs, s.ok c half lo hi := by
  have hg : 0 ≤ c.gain := (cutE_ok.1 hc).2.1.1
  obtain ⟨F, hF⟩ := lo_first (half := half) (lo := lo) hg
  obtain ⟨G, hG⟩ := hi_first (half := half) (hi := hi) hg
  exact ⟨⟨F, G⟩, hF, hG⟩
def isB (s : Fs) : Bool := decide (s.F ≤ s.G - 1)
def chanV (c : Cut) (a b x y : Int) (s t : Fs) : V :=
  if cutE c = 0 then (if b < a ∨ y < x then .tup [.agg [.i 0, .i 0], .agg [.i 0, .i 0], .i 2] else if isB s = true ∧ isB t = true then .tup [.agg [.i s.F, .i (s.G - 1)], .agg [.i t.F, .i (t.G - 1)], .i 0] else .tup [.agg [.i 0, .i 0], .agg [.i 0, .i 0], .i 5])
  else .tup [.agg [.i 0, .i 0], .agg [.i 0, .i 0], .i (cutE c)]
theorem chanV_1 {c : Cut} {a b x y : Int} {s t : Fs} (h : ¬ cutE c = 0) : chanV c a b x y s t = .tup [.agg [.i 0, .i 0], .agg [.i 0, .i 0], .i (cutE c)] := by rw [chanV, if_neg h]
theorem chanV_2 {c : Cut} {a b x y : Int} {s t : Fs} (h : cutE c = 0) (h2 : b < a ∨ y < x) : chanV c a b x y s t = .tup [.agg [.i 0, .i 0], .agg [.i 0, .i 0], .i 2] := by rw [chanV, if_pos h, if_pos h2]
theorem chanV_3 {c : Cut} {a b x y : Int} {s t : Fs} (h : cutE c = 0) (h2 : ¬ (b < a ∨ y < x)) (h3 : ¬ (isB s = true ∧ isB t = true)) : chanV c a b x y s t = .tup [.agg [.i 0, .i 0], .agg [.i 0, .i 0], .i 5] := by rw [chanV, if_pos h, if_neg h2, if_neg h3]
theorem chanV_4 {c : Cut} {a b x y : Int} {s t : Fs} (h : cutE c = 0) (h2 : ¬ (b < a ∨ y < x)) (h3 : isB s = true ∧ isB t = true) : chanV c a b x y s t = .tup [.agg [.i s.F, .i (s.G - 1)], .agg [.i t.F, .i (t.G - 1)], .i 0] := by rw [chanV, if_pos h, if_neg h2, if_pos h3]
abbrev yyPAb192 (c : Cut) : List V := [V.i (Cut.half c), V.i (Cut.gain c), V.i (Cut.thin c), V.i (Cut.wide c), V.i (Cut.slope c), V.i (Cut.jerk c), V.i (Cut.sty c)]
abbrev yyPAb190 (c : Cut) : V := V.ptr (yyPAb192 c)
abbrev yyPAb191 (c : Cut) : V := V.agg (yyPAb192 c)
set_option maxRecDepth 100000 in
theorem Channels_ac (c : Cut) (a b x y : Int) (s t : Fs) (hst : cutE c = 0 → s.ok c c.half x y ∧ t.ok c (-c.half) a b) : AC Tryz.prog 13 [c.v, .agg [.i a, .i b, .i x, .i y]] (chanV c a b x y s t) [] := by
  refine ac_intro hTT hMX (fn := Tryz.f13) (N := _) ⟨Tryz.func13, rfl, Tryz.ntmps13, kR⟩ (by simp) fun C hC hF => ?_
  refine sK fun K hK => ?_; refine wR 2 ?_
  refine aops_n hTT (M := []) (n := 5) [pv 2 ((yyPAb190 c)), pv 3 (V.ptr [V.i a, V.i b, V.i x, V.i y]), pn 4 (V.ref 100004 0) (100004 : Nat) (Ob.box 40 [V.i 0, V.i 0]), pn 5 (V.ref 100005 0) (100005 : Nat) (Ob.box 40 [V.i 0, V.i 0]), pv 6 (V.i 0)] kR kR tI ?_
  refine aops_nil ?_; refine xt_n ?_; refine hK _ ?_; clear hK K; refine sK fun K hK => ?_; refine wR 3 ?_
  refine aops_n hTT (M := []) (n := 1) [pn 7 (V.ref 200007 0) (200007 : Nat) (Ob.box 40 [V.i 0, V.i 0])] kR kR tI ?_
  refine aops_nil ?_; refine xt_n ?_; refine hK _ ?_; clear hK K; refine sK fun K hK => ?_; refine sK fun K hK => ?_; refine wR 4 ?_
  refine aops_n hTT (M := []) (n := 1) [pv 13 ((yyPAb191 c))] kR kR tI ?_
  refine eC (cutCheck_ac c) ?_
  refine aops_n hTT (M := []) (n := 1) [pv 8 (V.i (cutE c))] kR kR tI ?_
  refine aops_nil ?_; refine xt_n ?_; refine hK _ ?_; clear hK K; refine sK fun K hK => ?_; refine wR 5 ?_
  refine aops_n hTT (M := []) (n := 2) [pv 15 (V.i (cutE c)), pv 16 (V.b !decide (cutE c = 0))] kR kR tI ?_
  refine aops_nil ?_; refine xt_n ?_; refine hK _ ?_; clear hK K
  refine w_cond (t := !decide (cutE c = 0)) kR (fun h1 => ?_) (fun h1 => ?_)
  · simp at h1
    refine sK fun K hK => ?_; refine wD 6 ?_
    refine aops_n hTT (M := []) (n := 6) [pc 17 ((0 : Nat) ≤ (2 : Nat)) (V.agg [V.i 0, V.i 0]), pc 18 ((0 : Nat) ≤ (2 : Nat)) (V.agg [V.i 0, V.i 0]), pv 19 (V.i (cutE c)), pw ((0 : Nat) + (2 : Nat) ≤ (2 : Nat)) (100004 : Nat) (Ob.box 40 [V.i 0, V.i 0]), pw ((0 : Nat) + (2 : Nat) ≤ (2 : Nat)) (100005 : Nat) (Ob.box 40 [V.i 0, V.i 0]), pv 6 (V.i (cutE c))] kR kR ⟨oM, oM, oM, oM, tI⟩ ?_
    refine aops_nil ⟨kR, ?_⟩; refine xt_n ?_; refine hK _ ?_; clear hK K
    refine aw_ret ?_
    refine xt_r ?_
    rw [chanV_1 h1]
    refine rP (V.tup [V.agg [V.i 0, V.i 0], V.agg [V.i 0, V.i 0], V.i (cutE c)])
  simp at h1
  obtain ⟨hs, ht⟩ := hst h1
  have hh := (cutE_ok.1 h1).1
  refine aw_skip ?_
  refine xt_n ?_; refine hK _ ?_; clear hK K; refine sK fun K hK => ?_; refine sK fun K hK => ?_; refine wR 6 ?_
  refine aops_n hTT (M := []) (n := 16) [pv 20 (V.ptr [V.i a, V.i b, V.i x, V.i y]), pv 21 (V.ptr [V.i a, V.i b, V.i x, V.i y]), pv 22 (V.i a), pv 23 (V.ptr [V.i a, V.i b, V.i x, V.i y]), pv 24 (V.ptr [V.i b, V.i x, V.i y]), pv 25 (V.i b), pv 26 (V.b (decide (b < a))), pv 27 (V.b (decide (b < a))), pc 28 ((True ∧ True) ∧ ((decide (b < a) == false) = true → True)) (V.gd (decide (b < a) == false) (V.ptr [V.i x, V.i y])), pc 29 ((((decide (b < a) == false) = true → (decide (b < a) == false) = true) ∧ True) ∧ ((decide (b < a) == false) = true → True)) (V.gd (decide (b < a) == false) (V.ptr [V.i x, V.i y])), pc 30 ((((decide (b < a) == false) = true → (decide (b < a) == false) = true) ∧ True) ∧ ((decide (b < a) == false) = true → True)) (V.gd (decide (b < a) == false) (V.i x)), pc 31 ((True ∧ True) ∧ ((decide (b < a) == false) = true → True)) (V.gd (decide (b < a) == false) (V.ptr [V.i x, V.i y])), pc 32 ((((decide (b < a) == false) = true → (decide (b < a) == false) = true) ∧ True) ∧ ((decide (b < a) == false) = true → True)) (V.gd (decide (b < a) == false) (V.ptr [V.i y])), pc 33 ((((decide (b < a) == false) = true → (decide (b < a) == false) = true) ∧ True) ∧ ((decide (b < a) == false) = true → True)) (V.gd (decide (b < a) == false) (V.i y)), pc 34 ((((decide (b < a) == false) = true → (decide (b < a) == false) = true) ∧ ((decide (b < a) == false) = true → (decide (b < a) == false) = true) ∧ True) ∧ ((decide (b < a) == false) = true → True)) (V.gd (decide (b < a) == false) (V.b (decide (y < x)))), pc 35 (True ∧ (decide (b < a) = false → (decide (b < a) == false) = true)) (V.b (decide (b < a) || decide (y < x)))] kR kR ⟨⟨⟨tI, tI⟩, (fun _ => tI)⟩, ⟨⟨(by (exact fun h => h)), tI⟩, (fun _ => tI)⟩, ⟨⟨(by (exact fun h => h)), tI⟩, (fun _ => tI)⟩, ⟨⟨tI, tI⟩, (fun _ => tI)⟩, ⟨⟨(by (exact fun h => h)), tI⟩, (fun _ => tI)⟩, ⟨⟨(by (exact fun h => h)), tI⟩, (fun _ => tI)⟩, ⟨⟨(by (exact fun h => h)), ⟨(by (exact fun h => h)), tI⟩⟩, (fun _ => tI)⟩, ⟨tI, (by (intro h; rw [h]; rfl))⟩, tI⟩ ?_
  refine aops_nil ?_; refine xt_n ?_; refine hK _ ?_; clear hK K
  refine w_cond (t := decide (b < a) || decide (y < x)) kR (fun h2 => ?_) (fun h2 => ?_)
  · simp at h2
    refine sK fun K hK => ?_; refine wD 7 ?_
    refine aops_n hTT (M := []) (n := 5) [pc 36 ((0 : Nat) ≤ (2 : Nat)) (V.agg [V.i 0, V.i 0]), pc 37 ((0 : Nat) ≤ (2 : Nat)) (V.agg [V.i 0, V.i 0]), pw ((0 : Nat) + (2 : Nat) ≤ (2 : Nat)) (100004 : Nat) (Ob.box 40 [V.i 0, V.i 0]), pw ((0 : Nat) + (2 : Nat) ≤ (2 : Nat)) (100005 : Nat) (Ob.box 40 [V.i 0, V.i 0]), pv 6 (V.i 2)] kR kR ⟨oM, oM, oM, oM, tI⟩ ?_
    refine aops_nil ⟨kR, ?_⟩; refine xt_n ?_; refine hK _ ?_; clear hK K
    refine aw_ret ?_
    refine xt_r ?_
    rw [chanV_2 h1 oM]
    refine rP (V.tup [V.agg [V.i 0, V.i 0], V.agg [V.i 0, V.i 0], V.i 2])
  simp at h2
  refine aw_skip ?_
  refine xt_n ?_; refine hK _ ?_; clear hK K; refine sK fun K hK => ?_; refine wR 7 ?_
  refine aops_n hTT (M := []) (n := 5) [pv 39 ((yyPAb191 c)), pv 40 ((yyPAb190 c)), pv 41 (V.i (Cut.half c)), pv 42 (V.ptr [V.i x, V.i y]), pv 43 (V.agg [V.i x, V.i y])] kR kR tI ?_
  refine eC (samples_ac c c.half x y s.F s.G h1 oM hs.1 hs.2) ?_
  refine aops_n hTT (M := []) (n := 6) [pv 38 (V.tup [V.agg [V.i (Fs.F s), V.i (Fs.G s - 1)], V.b (decide (Fs.F s ≤ Fs.G s - 1))]), pv 45 (V.agg [V.i (Fs.F s), V.i (Fs.G s - 1)]), pv 46 (V.b (decide (Fs.F s ≤ Fs.G s - 1))), pn 9 (V.ref 600009 0) (600009 : Nat) (Ob.box 40 [V.i 0, V.i 0]), pw ((0 : Nat) + (2 : Nat) ≤ (2 : Nat)) (600009 : Nat) (Ob.box 40 [V.i (Fs.F s), V.i (Fs.G s - 1)]), pv 10 (V.b (decide (Fs.F s ≤ Fs.G s - 1)))] kR kR ⟨oM, tI⟩ ?_
  refine aops_nil ?_; refine xt_n ?_; refine hK _ ?_; clear hK K; refine sK fun K hK => ?_; refine wR 8 ?_
  refine aops_n hTT (M := []) (n := 6) [pv 48 ((yyPAb191 c)), pv 49 ((yyPAb190 c)), pv 50 (V.i (Cut.half c)), pc 51 ((-9223372036854775808 : Int) ≤ -Cut.half c ∧ -Cut.half c ≤ 9223372036854775807) (V.i (-Cut.half c)), pv 52 (V.ptr [V.i a, V.i b, V.i x, V.i y]), pv 53 (V.agg [V.i a, V.i b])] kR kR ⟨oM, tI⟩ ?_
  refine eC (samples_ac c (-c.half) a b t.F t.G h1 oM ht.1 ht.2) ?_
  refine aops_n hTT (M := []) (n := 6) [pv 47 (V.tup [V.agg [V.i (Fs.F t), V.i (Fs.G t - 1)], V.b (decide (Fs.F t ≤ Fs.G t - 1))]), pv 55 (V.agg [V.i (Fs.F t), V.i (Fs.G t - 1)]), pv 56 (V.b (decide (Fs.F t ≤ Fs.G t - 1))), pn 11 (V.ref 700011 0) (700011 : Nat) (Ob.box 40 [V.i 0, V.i 0]), pw ((0 : Nat) + (2 : Nat) ≤ (2 : Nat)) (700011 : Nat) (Ob.box 40 [V.i (Fs.F t), V.i (Fs.G t - 1)]), pv 12 (V.b (decide (Fs.F t ≤ Fs.G t - 1)))] kR kR ⟨oM, tI⟩ ?_
  refine aops_nil ?_; refine xt_n ?_; refine hK _ ?_; clear hK K; refine sK fun K hK => ?_; refine sK fun K hK => ?_; refine wR 9 ?_
  refine aops_n hTT (M := []) (n := 6) [pv 57 (V.b (decide (Fs.F s ≤ Fs.G s - 1))), pv 58 (V.b !decide (Fs.F s ≤ Fs.G s - 1)), pv 59 (V.b !decide (Fs.F s ≤ Fs.G s - 1)), pc 60 ((True ∧ True) ∧ (((!decide (Fs.F s ≤ Fs.G s - 1)) == false) = true → True)) (V.gd ((!decide (Fs.F s ≤ Fs.G s - 1)) == false) (V.b (decide (Fs.F t ≤ Fs.G t - 1)))), pc 61 (((((!decide (Fs.F s ≤ Fs.G s - 1)) == false) = true → ((!decide (Fs.F s ≤ Fs.G s - 1)) == false) = true) ∧ True) ∧ (((!decide (Fs.F s ≤ Fs.G s - 1)) == false) = true → True)) (V.gd ((!decide (Fs.F s ≤ Fs.G s - 1)) == false) (V.b !decide (Fs.F t ≤ Fs.G t - 1))), pc 62 (True ∧ ((!decide (Fs.F s ≤ Fs.G s - 1)) = false → ((!decide (Fs.F s ≤ Fs.G s - 1)) == false) = true)) (V.b (!decide (Fs.F s ≤ Fs.G s - 1) || !decide (Fs.F t ≤ Fs.G t - 1)))] kR kR ⟨⟨⟨tI, tI⟩, (fun _ => tI)⟩, ⟨⟨(by (exact fun h => h)), tI⟩, (fun _ => tI)⟩, ⟨tI, (by (intro h; rw [h]; rfl))⟩, tI⟩ ?_
  refine aops_nil ?_; refine xt_n ?_; refine hK _ ?_; clear hK K
  refine w_cond (t := !decide (Fs.F s ≤ Fs.G s - 1) || !decide (Fs.F t ≤ Fs.G t - 1)) kR (fun h3 => ?_) (fun h3 => ?_)
  · refine sK fun K hK => ?_
    refine wD 10 ?_
    refine aops_n hTT (M := []) (n := 5) [pc 63 ((0 : Nat) ≤ (2 : Nat)) (V.agg [V.i 0, V.i 0]), pc 64 ((0 : Nat) ≤ (2 : Nat)) (V.agg [V.i 0, V.i 0]), pw ((0 : Nat) + (2 : Nat) ≤ (2 : Nat)) (100004 : Nat) (Ob.box 40 [V.i 0, V.i 0]), pw ((0 : Nat) + (2 : Nat) ≤ (2 : Nat)) (100005 : Nat) (Ob.box 40 [V.i 0, V.i 0]), pv 6 (V.i 5)] kR kR ⟨oM, oM, oM, oM, tI⟩ ?_
    refine aops_nil ⟨kR, ?_⟩; refine xt_n ?_; refine hK _ ?_; clear hK K
    refine aw_ret ?_
    refine xt_r ?_
    rw [chanV_3 h1 oM (by simp [isB] at h3 ⊢; omega)]
    refine rP (V.tup [V.agg [V.i 0, V.i 0], V.agg [V.i 0, V.i 0], V.i 5])
  simp at h3
  refine aw_skip ?_
  refine xt_n ?_; refine hK _ ?_; clear hK K; refine sK fun K hK => ?_; refine wD 10 ?_
  refine aops_n hTT (M := []) (n := 5) [pc 65 ((0 : Nat) ≤ (2 : Nat)) (V.agg [V.i (Fs.F s), V.i (Fs.G s - 1)]), pc 66 ((0 : Nat) ≤ (2 : Nat)) (V.agg [V.i (Fs.F t), V.i (Fs.G t - 1)]), pw ((0 : Nat) + (2 : Nat) ≤ (2 : Nat)) (100004 : Nat) (Ob.box 40 [V.i (Fs.F s), V.i (Fs.G s - 1)]), pw ((0 : Nat) + (2 : Nat) ≤ (2 : Nat)) (100005 : Nat) (Ob.box 40 [V.i (Fs.F t), V.i (Fs.G t - 1)]), pv 6 (V.i 0)] kR kR ⟨oM, oM, oM, oM, tI⟩ ?_
  refine aops_nil ⟨kR, ?_⟩; refine xt_n ?_; refine hK _ ?_; clear hK K
  refine aw_ret ?_
  rw [chanV_4 h1 oM (by simp [isB]; omega)]
  refine rP (V.tup [V.agg [V.i (Fs.F s), V.i (Fs.G s - 1)], V.agg [V.i (Fs.F t), V.i (Fs.G t - 1)], V.i 0])
def fo (s : Fs) (x : Int) : Bool := decide (s.F < x) && isB s
end Go.Proofs.YtepkjobndmmejaaGreatDoor

namespace Go.Proofs.YtepkjobndmmejaaGreatDoor
open Go.Ab Go.RowKit Go.Dw Go.Shelf
def gE (p : Pt) : Bool := betB p.1 (-4194304) 4194304 && betB p.2 (-4194304) 4194304
def sE (p : Pt) : Bool := betB p.1 (-32767) 32767 && betB p.2 (-32767) 32767
def gChk (l : List Pt) : Int := if 4096 < l.length then 6 else if l.all gE then 0 else 2
def sChk (l : List Pt) : Int := if 4096 < l.length then 6 else if l.all sE then 0 else 2
theorem gE_iff {p : Pt} : gE p = true ↔ (-4194304 ≤ p.1 ∧ p.1 ≤ 4194304) ∧ -4194304 ≤ p.2 ∧ p.2 ≤ 4194304 := by simp [gE, betB]
theorem sE_iff {p : Pt} : sE p = true ↔ (-32767 ≤ p.1 ∧ p.1 ≤ 32767) ∧ -32767 ≤ p.2 ∧ p.2 ≤ 32767 := by simp [sE, betB]
theorem all_gp {l : List Pt} {f : Pt → Bool} : l.all f = true ↔ ∀ k, k < l.length → f (gp l k) = true := by
 rw [List.all_eq_true]
 constructor
 ·
  intro h k hk
  have : gp l k = l[k] := by simp [gp, List.getD_eq_getElem?_getD, List.getElem?_eq_getElem hk]
  rw [this]; exact h _ (List.getElem_mem hk)
 ·
  intro h x hx
  obtain ⟨k, hk, rfl⟩ := List.getElem_of_mem hx
  have : gp l k = l[k] := by simp [gp, List.getD_eq_getElem?_getD, List.getElem?_eq_getElem hk]
  rw [← this]; exact h k hk
theorem gChk_many {l : List Pt} (h : 4096 < l.length) : gChk l = 6 := by rw [gChk, if_pos h]
theorem gChk_bad {l : List Pt} {k : Nat} (h : ¬ 4096 < l.length) (hk : k < l.length) (hb : gE (gp l k) = false) : gChk l = 2 := by
 rw [gChk, if_neg h, if_neg]
 intro ha
 rw [all_gp.1 ha k hk] at hb
 cases hb
theorem gChk_good {l : List Pt} (h : ¬ 4096 < l.length) (hb : ∀ k, k < l.length → gE (gp l k) = true) : gChk l = 0 := by rw [gChk, if_neg h, if_pos (all_gp.2 hb)]
theorem gChk_ok {l : List Pt} : gChk l = 0 ↔ l.length ≤ 4096 ∧ ∀ k, k < l.length → gE (gp l k) = true := by
 constructor
 ·
  intro h
  unfold gChk at h
  split at h
  ·
   cases h
  ·
   split at h
   ·
    rename_i h1 h2; exact ⟨by omega, all_gp.1 h2⟩
   ·
    cases h
 ·
  rintro ⟨h1, h2⟩; exact gChk_good oM h2
theorem sChk_many {l : List Pt} (h : 4096 < l.length) : sChk l = 6 := by rw [sChk, if_pos h]
theorem sChk_bad {l : List Pt} {k : Nat} (h : ¬ 4096 < l.length) (hk : k < l.length) (hb : sE (gp l k) = false) : sChk l = 2 := by
 rw [sChk, if_neg h, if_neg]
 intro ha
 rw [all_gp.1 ha k hk] at hb
 cases hb
theorem sChk_good {l : List Pt} (h : ¬ 4096 < l.length) (hb : ∀ k, k < l.length → sE (gp l k) = true) : sChk l = 0 := by rw [sChk, if_neg h, if_pos (all_gp.2 hb)]
theorem sChk_ok {l : List Pt} : sChk l = 0 ↔ l.length ≤ 4096 ∧ ∀ k, k < l.length → sE (gp l k) = true := by
 constructor
 ·
  intro h
  unfold sChk at h
  split at h
  ·
   cases h
  ·
   split at h
   ·
    rename_i h1 h2; exact ⟨by omega, all_gp.1 h2⟩
   ·
    cases h
 ·
  rintro ⟨h1, h2⟩; exact sChk_good oM h2
set_option maxRecDepth 100000 in
theorem gEdged_ac (p : Pt) : AC Tryz.prog 58 [.agg [.i p.1, .i p.2]] (.b (gE p)) [] := by
 refine acI hTT hMX Tryz.func58 Tryz.ntmps58 fun C hC hF => ?_
 refine sK fun K hK => wR 2 ?_
 refine aops_n hTT (M := []) (n := 2) [pv (1 : Nat) (V.ptr [V.i (Prod.fst p), V.i (Prod.snd p)]), pv (2 : Nat) (V.b false)] kR kR tI ?_
 refine nK hK ?_; clear hK K; refine sK fun K hK => wR 3 ?_
 refine aops_n hTT (M := []) (n := 2) [pv (3 : Nat) (V.ptr [V.i (Prod.fst p), V.i (Prod.snd p)]), pv (4 : Nat) (V.i (Prod.fst p))] kR kR tI ?_
 refine eC (between_ac p.1 (-4194304) 4194304) ?_
 refine aops_n hTT (M := []) (n := 3) [pv (6 : Nat) (V.b (betB (Prod.fst p) (-4194304 : Int) (4194304 : Int))), pc (7 : Nat) ((True ∧ True) ∧ ((betB (Prod.fst p) (-4194304 : Int) (4194304 : Int) == true) = true → True)) (V.gd (betB (Prod.fst p) (-4194304 : Int) (4194304 : Int) == true) (V.ptr [V.i (Prod.snd p)])), pc (8 : Nat) ((((betB (Prod.fst p) (-4194304 : Int) (4194304 : Int) == true) = true → (betB (Prod.fst p) (-4194304 : Int) (4194304 : Int) == true) = true) ∧ True) ∧ ((betB (Prod.fst p) (-4194304 : Int) (4194304 : Int) == true) = true → True)) (V.gd (betB (Prod.fst p) (-4194304 : Int) (4194304 : Int) == true) (V.i (Prod.snd p)))] kR kR ⟨⟨⟨tI, tI⟩, (fun _ => tI)⟩, ⟨⟨(by (exact fun h => h)), tI⟩, (fun _ => tI)⟩, tI⟩ ?_
 refine eG 1 (g := betB (Prod.fst p) (-4194304 : Int) (4194304 : Int) == true) (fun h => between_ac p.2 (-4194304) 4194304) ?_
 refine aops_n hTT (M := []) (n := 2) [pc (10 : Nat) ((betB (Prod.fst p) (-4194304 : Int) (4194304 : Int) = true → (betB (Prod.fst p) (-4194304 : Int) (4194304 : Int) == true) = true) ∧ True) (V.b (betB (Prod.fst p) (-4194304 : Int) (4194304 : Int) && betB (Prod.snd p) (-4194304 : Int) (4194304 : Int))), pv (2 : Nat) (V.b (betB (Prod.fst p) (-4194304 : Int) (4194304 : Int) && betB (Prod.snd p) (-4194304 : Int) (4194304 : Int)))] kR kR ⟨⟨(by (intro h; rw [h]; rfl)), tI⟩, tI⟩ ?_
 refine nK hK ?_; clear hK K
 refine aw_ret ?_
 refine rP (V.b (betB (Prod.fst p) (-4194304 : Int) (4194304 : Int) && betB (Prod.snd p) (-4194304 : Int) (4194304 : Int)))
set_option maxRecDepth 100000 in
theorem tBetween_ac (x lo hi : Int) : AC Tryz.prog 97 [.i x, .i lo, .i hi] (.b (betB x lo hi)) [] := by
 refine acI hTT hMX Tryz.func97 Tryz.ntmps97 fun C hC hF => ?_
 refine sK fun K hK => wR 2 ?_; refine aX hTT 1 [] tI ?_; refine nK hK ?_; clear hK K; refine sK fun K hK => wR 3 ?_; refine aX hTT 9 [(4, .c (gA (decide (lo ≤ x) == true) True)), (5, .c (gA (decide (lo ≤ x) == true) True)), (6, .c (gC (decide (lo ≤ x) == true) True)), (7, .c ((decide (lo ≤ x) = true → (decide (lo ≤ x) == true) = true) ∧ True))] ⟨⟨⟨tI, tI⟩, (fun _ => tI)⟩, ⟨⟨tI, tI⟩, (fun _ => tI)⟩, ⟨⟨(by (exact fun h => h)), ⟨(by (exact fun h => h)), tI⟩⟩, (fun _ => tI)⟩, ⟨(by (intro h; rw [h]; rfl)), tI⟩, tI⟩ ?_; refine nK hK ?_; clear hK K
 refine aw_ret ?_
 refine rP (V.b (decide (lo ≤ x) && decide (x ≤ hi)))
set_option maxRecDepth 100000 in
theorem tValid_ac (p : Pt) : AC Tryz.prog 68 [.agg [.i p.1, .i p.2]] (.b (sE p)) [] := by
 refine acI hTT hMX Tryz.func68 Tryz.ntmps68 fun C hC hF => ?_
 refine sK fun K hK => wR 2 ?_
 refine aops_n hTT (M := []) (n := 2) [pv (1 : Nat) (V.ptr [V.i (Prod.fst p), V.i (Prod.snd p)]), pv (2 : Nat) (V.b false)] kR kR tI ?_
 refine nK hK ?_; clear hK K; refine sK fun K hK => wR 3 ?_
 refine aops_n hTT (M := []) (n := 2) [pv (3 : Nat) (V.ptr [V.i (Prod.fst p), V.i (Prod.snd p)]), pv (4 : Nat) (V.i (Prod.fst p))] kR kR tI ?_
 refine eC (tBetween_ac p.1 (-32767) 32767) ?_
 refine aops_n hTT (M := []) (n := 3) [pv (6 : Nat) (V.b (betB (Prod.fst p) (-32767 : Int) (32767 : Int))), pc (7 : Nat) ((True ∧ True) ∧ ((betB (Prod.fst p) (-32767 : Int) (32767 : Int) == true) = true → True)) (V.gd (betB (Prod.fst p) (-32767 : Int) (32767 : Int) == true) (V.ptr [V.i (Prod.snd p)])), pc (8 : Nat) ((((betB (Prod.fst p) (-32767 : Int) (32767 : Int) == true) = true → (betB (Prod.fst p) (-32767 : Int) (32767 : Int) == true) = true) ∧ True) ∧ ((betB (Prod.fst p) (-32767 : Int) (32767 : Int) == true) = true → True)) (V.gd (betB (Prod.fst p) (-32767 : Int) (32767 : Int) == true) (V.i (Prod.snd p)))] kR kR ⟨⟨⟨tI, tI⟩, (fun _ => tI)⟩, ⟨⟨(by (exact fun h => h)), tI⟩, (fun _ => tI)⟩, tI⟩ ?_
 refine eG 1 (g := betB (Prod.fst p) (-32767 : Int) (32767 : Int) == true) (fun h => tBetween_ac p.2 (-32767) 32767) ?_
 refine aops_n hTT (M := []) (n := 2) [pc (10 : Nat) ((betB (Prod.fst p) (-32767 : Int) (32767 : Int) = true → (betB (Prod.fst p) (-32767 : Int) (32767 : Int) == true) = true) ∧ True) (V.b (betB (Prod.fst p) (-32767 : Int) (32767 : Int) && betB (Prod.snd p) (-32767 : Int) (32767 : Int))), pv (2 : Nat) (V.b (betB (Prod.fst p) (-32767 : Int) (32767 : Int) && betB (Prod.snd p) (-32767 : Int) (32767 : Int)))] kR kR ⟨⟨(by (intro h; rw [h]; rfl)), tI⟩, tI⟩ ?_
 refine nK hK ?_; clear hK K
 refine aw_ret ?_
 refine rP (V.b (betB (Prod.fst p) (-32767 : Int) (32767 : Int) && betB (Prod.snd p) (-32767 : Int) (32767 : Int)))
set_option maxRecDepth 100000 in
theorem gCheckPoints_ac (l : List Pt) (hl : l.length ≤ 4611686018427387904) : AC Tryz.prog 47 [V.pts l] (.i (gChk l)) [] := by
 refine acI hTT hMX Tryz.func47 Tryz.ntmps47 fun C hC hF => ?_
 refine sK fun K hK => wR 2 ?_; refine aX hTT 1 [] tI ?_; refine nK hK ?_; clear hK K; refine sK fun K hK => ?_; refine sK fun K hK => wR 3 ?_; refine aX hTT 3 [] tI ?_; refine nK hK ?_; clear hK K
 refine w_cond (t := decide ((4096 : Int) < (↑(List.length l) : Int))) kR (fun c1 => ?_) (fun c1 => ?_)
 ·
  simp at c1
  refine sK fun K hK => wR 4 ?_; refine aX hTT 1 [] tI ?_; refine nK hK ?_; clear hK K
  refine aw_ret ?_
  refine xt_r ?_
  rw [gChk_many oM]
  refine rP (V.i 6)
 simp at c1
 refine aw_skip ?_
 refine xt_n (hK _ ?_); clear hK K; refine sK fun K hK => ?_; refine sK fun K hK => wR 4 ?_; refine aX hTT 3 [] tI ?_; refine nK hK ?_; clear hK K
 refine aw_block ?_
 refine w_loop (ι := Nat) (fun k => [(8, V.pts l), (9, .i l.length), (10, .i k)]) (fun _ => []) (fun k => k ≤ l.length ∧ ∀ j, j < k → gE (gp l j) = true) (fun k => l.length - k) 0 ⟨Nat.zero_le _, fun j hj => by omega⟩ ?_ ?_
 ·
  refine le_ren [] (.cons kR (.cons kR (.cons kR .nil))) .nil kR kR
 rintro k ⟨hk, hj⟩
 refine sK fun K hK => wR 2 ?_; refine aX hTT 1 [] tI ?_; refine nK hK ?_; clear hK K; refine sK fun K hK => ?_
 refine w_cond (t := decide ((↑k : Int) < (↑(List.length l) : Int))) kR (fun c2 => ?_) (fun c2 => ?_)
 ·
  simp at c2
  refine aw_skip ?_
  refine xt_n (hK _ ?_); clear hK K; refine sK fun K hK => ?_
  refine aw_block ?_
  refine sK fun K hK => wR 3 ?_; refine aX hTT 4 [(0, .c ((0 : Int) ≤ (↑k : Int) ∧ (↑k : Int) < (↑(List.length l) : Int))), (2, .r (pn 4 (V.ref 200004 0) (200004 : Nat) (Ob.box 81 [V.i 0, V.i 0]))), (3, .r (pw ((0 : Nat) + (2 : Nat) ≤ (2 : Nat)) (200004 : Nat) (Ob.box 81 [V.i (Prod.fst (gp l k)), V.i (Prod.snd (gp l k))])))] ⟨oM, oM, tI⟩ ?_; refine nK hK ?_; clear hK K; refine sK fun K hK => wR 4 ?_; refine aX hTT 1 [(0, .c ((0 : Nat) ≤ (2 : Nat)))] ⟨oM, tI⟩ ?_
  refine eC (gEdged_ac (gp l k)) ?_
  refine aX hTT 1 [] tI ?_; refine nK hK ?_; clear hK K
  refine w_cond (t := !gE (gp l k)) kR (fun c3 => ?_) (fun c3 => ?_)
  ·
   refine sK fun K hK => ?_
   refine wR 5 ?_; refine aX hTT 1 [] tI ?_; refine nK hK ?_; clear hK K
   refine aw_ret ?_
   refine xb_r ?_
   refine xt_r ?_; refine xt_r ?_
   refine xb_r ?_
   refine xt_r ?_
   rw [gChk_bad oM oM (by simpa using c3)]
   refine rP (V.i 2)
  refine aw_skip ?_
  refine xb_n ?_; refine xt_n (hK _ ?_); clear hK K; refine wR 5 ?_; refine aX hTT 2 [(0, .i ((↑k : Int) + 1))] ⟨oM, tI⟩ ?_; refine aops_nil ?_; refine xt_n ?_
  refine ⟨k + 1, ⟨by omega, fun i hi => ?_⟩, by refine le_ren [] (.cons kR (.cons kR (.cons kR .nil))) .nil kR kR, by omega⟩
  by_cases he : i = k
  ·
   subst he; simpa using c3
  ·
   exact hj i oM
 ·
  simp at c2
  refine aw_exit ?_
  refine xt_x ?_; refine xt_x ?_
  refine xb_same ?_
  refine xt_n ?_; clear hK K; refine hK _ ?_; clear hK K; refine sK fun K hK => wR 3 ?_; refine aX hTT 1 [] tI ?_; refine nK hK ?_; clear hK K
  refine aw_ret ?_
  rw [gChk_good oM fun i hi => hj i oM]
  refine rP (V.i 0)
set_option maxRecDepth 100000 in
theorem tCheckSamples_ac (l : List Pt) (hl : l.length ≤ 4611686018427387904) : AC Tryz.prog 34 [V.pts l] (.i (sChk l)) [] := by
 refine acI hTT hMX Tryz.func34 Tryz.ntmps34 fun C hC hF => ?_
 refine sK fun K hK => wR 2 ?_; refine aX hTT 1 [] tI ?_; refine nK hK ?_; clear hK K; refine sK fun K hK => ?_; refine sK fun K hK => wR 3 ?_; refine aX hTT 3 [] tI ?_; refine nK hK ?_; clear hK K
 refine w_cond (t := decide ((4096 : Int) < (↑(List.length l) : Int))) kR (fun c1 => ?_) (fun c1 => ?_)
 ·
  simp at c1
  refine sK fun K hK => wR 4 ?_; refine aX hTT 1 [] tI ?_; refine nK hK ?_; clear hK K
  refine aw_ret ?_
  refine xt_r ?_
  rw [sChk_many oM]
  refine rP (V.i 6)
 simp at c1
 refine aw_skip ?_
 refine xt_n (hK _ ?_); clear hK K; refine sK fun K hK => ?_; refine sK fun K hK => wR 4 ?_; refine aX hTT 3 [] tI ?_; refine nK hK ?_; clear hK K
 refine aw_block ?_
 refine w_loop (ι := Nat) (fun k => [(8, V.pts l), (9, .i l.length), (10, .i k)]) (fun _ => []) (fun k => k ≤ l.length ∧ ∀ j, j < k → sE (gp l j) = true) (fun k => l.length - k) 0 ⟨Nat.zero_le _, fun j hj => by omega⟩ ?_ ?_
 ·
  refine le_ren [] (.cons kR (.cons kR (.cons kR .nil))) .nil kR kR
 rintro k ⟨hk, hj⟩
 refine sK fun K hK => wR 2 ?_; refine aX hTT 1 [] tI ?_; refine nK hK ?_; clear hK K; refine sK fun K hK => ?_
 refine w_cond (t := decide ((↑k : Int) < (↑(List.length l) : Int))) kR (fun c2 => ?_) (fun c2 => ?_)
 ·
  simp at c2
  refine aw_skip ?_
  refine xt_n (hK _ ?_); clear hK K; refine sK fun K hK => ?_
  refine aw_block ?_
  refine sK fun K hK => wR 3 ?_; refine aX hTT 4 [(0, .c ((0 : Int) ≤ (↑k : Int) ∧ (↑k : Int) < (↑(List.length l) : Int))), (2, .r (pn 4 (V.ref 200004 0) (200004 : Nat) (Ob.box 46 [V.i 0, V.i 0]))), (3, .r (pw ((0 : Nat) + (2 : Nat) ≤ (2 : Nat)) (200004 : Nat) (Ob.box 46 [V.i (Prod.fst (gp l k)), V.i (Prod.snd (gp l k))])))] ⟨oM, oM, tI⟩ ?_; refine nK hK ?_; clear hK K; refine sK fun K hK => wR 4 ?_; refine aX hTT 1 [(0, .c ((0 : Nat) ≤ (2 : Nat)))] ⟨oM, tI⟩ ?_
  refine eC (tValid_ac (gp l k)) ?_
  refine aX hTT 1 [] tI ?_; refine nK hK ?_; clear hK K
  refine w_cond (t := !sE (gp l k)) kR (fun c3 => ?_) (fun c3 => ?_)
  ·
   refine sK fun K hK => ?_
   refine wR 5 ?_; refine aX hTT 1 [] tI ?_; refine nK hK ?_; clear hK K
   refine aw_ret ?_
   refine xb_r ?_
   refine xt_r ?_; refine xt_r ?_
   refine xb_r ?_
   refine xt_r ?_
   rw [sChk_bad oM oM (by simpa using c3)]
   refine rP (V.i 2)
  refine aw_skip ?_
  refine xb_n ?_; refine xt_n (hK _ ?_); clear hK K; refine wR 5 ?_; refine aX hTT 2 [(0, .i ((↑k : Int) + 1))] ⟨oM, tI⟩ ?_; refine aops_nil ?_; refine xt_n ?_
  refine ⟨k + 1, ⟨by omega, fun i hi => ?_⟩, by refine le_ren [] (.cons kR (.cons kR (.cons kR .nil))) .nil kR kR, by omega⟩
  by_cases he : i = k
  ·
   subst he; simpa using c3
  ·
   exact hj i oM
 ·
  simp at c2
  refine aw_exit ?_
  refine xt_x ?_; refine xt_x ?_
  refine xb_same ?_
  refine xt_n ?_; clear hK K; refine hK _ ?_; clear hK K; refine sK fun K hK => wR 3 ?_; refine aX hTT 1 [] tI ?_; refine nK hK ?_; clear hK K
  refine aw_ret ?_
  rw [sChk_good oM fun i hi => hj i oM]
  refine rP (V.i 0)
def wrapAmt (n : Int) : Int := max n (IntKind.i64.wrap (0 - n))
set_option maxRecDepth 100000 in
theorem rAmountW_ac (n : Int) : AC Tryz.prog 63 [.i n] (.i (wrapAmt n)) [] := by
 refine acI hTT hMX Tryz.func63 Tryz.ntmps63 fun C hC hF => ?_
 refine sK fun K hK => wR 2 ?_; refine aX hTT 1 [] tI ?_; refine nK hK ?_; clear hK K; refine sK fun K hK => wR 3 ?_; refine aX hTT 5 [(2, .r (pvw 5 (V.i (IntKind.wrap IntKind.i64 ((0 : Int) - n)))))] tI ?_; refine nK hK ?_; clear hK K
 refine aw_ret ?_
 refine rP (V.i (max n (IntKind.wrap IntKind.i64 ((0 : Int) - n))))
theorem wrapAmt_le {n m : Int} (h : inR .i64 n) (hm : 0 ≤ m ∧ m ≤ 4611686018427387904) (h2 : -1099511627776 < n) : wrapAmt n ≤ m ↔ -m ≤ n ∧ n ≤ m := by
 simp only [inR] at h
 have : IntKind.i64.wrap (0 - n) = -n := by
  rw [inR_wrap (k := .i64) (by simp only [inR]; omega)]; omega
 rw [wrapAmt, this]
 omega
def gAmt (n : Int) : Int := max n (-n)
set_option maxRecDepth 100000 in
theorem gAmount_ac (n : Int) (h : -4611686018427387904 ≤ n ∧ n ≤ 4611686018427387904) : AC Tryz.prog 62 [.i n] (.i (gAmt n)) [] := by
 refine acI hTT hMX Tryz.func62 Tryz.ntmps62 fun C hC hF => ?_
 refine sK fun K hK => wR 2 ?_; refine aX hTT 1 [] tI ?_; refine nK hK ?_; clear hK K; refine sK fun K hK => wR 3 ?_; refine aX hTT 5 [(2, .i (-n))] ⟨oM, tI⟩ ?_; refine nK hK ?_; clear hK K
 refine aw_ret ?_
 refine rP (V.i (max n (-n)))
set_option maxRecDepth 100000 in
theorem rValid_ac (p : Pt) (h1 : inR .i64 p.1) (h2 : inR .i64 p.2) : AC Tryz.prog 31 [.agg [.i p.1, .i p.2]] (.b (sE p)) [] := by
 refine acI hTT hMX Tryz.func31 Tryz.ntmps31 fun C hC hF => ?_
 refine sK fun K hK => wR 2 ?_; refine aX hTT 2 [] tI ?_; refine nK hK ?_; clear hK K; refine sK fun K hK => wR 3 ?_; refine aX hTT 2 [] tI ?_
 refine eC (rAmountW_ac p.1) ?_
 refine aX hTT 4 [(2, .c (gA (decide (wrapAmt (Prod.fst p) ≤ 32767) == true) True)), (3, .c (gB (decide (wrapAmt (Prod.fst p) ≤ 32767) == true) True))] ⟨⟨⟨tI, tI⟩, (fun _ => tI)⟩, ⟨⟨(by (exact fun h => h)), tI⟩, (fun _ => tI)⟩, tI⟩ ?_
 refine eG 1 (g := decide (wrapAmt (Prod.fst p) ≤ 32767) == true) (fun h => rAmountW_ac p.2) ?_
 refine aX hTT 13 [(0, .c (gD (decide (wrapAmt (Prod.fst p) ≤ 32767) == true) True)), (1, .c ((decide (wrapAmt (Prod.fst p) ≤ 32767) = true → (decide (wrapAmt (Prod.fst p) ≤ 32767) == true) = true) ∧ True)), (3, .c (gA ((decide (wrapAmt (Prod.fst p) ≤ 32767) && decide (wrapAmt (Prod.snd p) ≤ 32767)) == true) True)), (4, .c (gB ((decide (wrapAmt (Prod.fst p) ≤ 32767) && decide (wrapAmt (Prod.snd p) ≤ 32767)) == true) True)), (5, .c (gD ((decide (wrapAmt (Prod.fst p) ≤ 32767) && decide (wrapAmt (Prod.snd p) ≤ 32767)) == true) True)), (6, .c (((decide (wrapAmt (Prod.fst p) ≤ 32767) && decide (wrapAmt (Prod.snd p) ≤ 32767)) = true → ((decide (wrapAmt (Prod.fst p) ≤ 32767) && decide (wrapAmt (Prod.snd p) ≤ 32767)) == true) = true) ∧ True)), (8, .c (gA ((decide (wrapAmt (Prod.fst p) ≤ 32767) && decide (wrapAmt (Prod.snd p) ≤ 32767) && decide ((-1099511627776 : Int) < Prod.fst p)) == true) True)), (9, .c (gB ((decide (wrapAmt (Prod.fst p) ≤ 32767) && decide (wrapAmt (Prod.snd p) ≤ 32767) && decide ((-1099511627776 : Int) < Prod.fst p)) == true) True)), (10, .c (gD ((decide (wrapAmt (Prod.fst p) ≤ 32767) && decide (wrapAmt (Prod.snd p) ≤ 32767) && decide ((-1099511627776 : Int) < Prod.fst p)) == true) True)), (11, .c (((decide (wrapAmt (Prod.fst p) ≤ 32767) && decide (wrapAmt (Prod.snd p) ≤ 32767) && decide ((-1099511627776 : Int) < Prod.fst p)) = true → ((decide (wrapAmt (Prod.fst p) ≤ 32767) && decide (wrapAmt (Prod.snd p) ≤ 32767) && decide ((-1099511627776 : Int) < Prod.fst p)) == true) = true) ∧ True))] ⟨⟨⟨(by (exact fun h => h)), ⟨tI, tI⟩⟩, (fun _ => tI)⟩, ⟨(by (intro h; rw [h]; rfl)), tI⟩, ⟨⟨tI, tI⟩, (fun _ => tI)⟩, ⟨⟨(by (exact fun h => h)), tI⟩, (fun _ => tI)⟩, ⟨⟨(by (exact fun h => h)), ⟨tI, tI⟩⟩, (fun _ => tI)⟩, ⟨(by (intro h; rw [h]; rfl)), tI⟩, ⟨⟨tI, tI⟩, (fun _ => tI)⟩, ⟨⟨(by (exact fun h => h)), tI⟩, (fun _ => tI)⟩, ⟨⟨(by (exact fun h => h)), ⟨tI, tI⟩⟩, (fun _ => tI)⟩, ⟨(by (intro h; rw [h]; rfl)), tI⟩, tI⟩ ?_; refine nK hK ?_; clear hK K
 refine aw_ret ?_
 refine ret_pure (v' := V.b (decide (wrapAmt (Prod.fst p) ≤ 32767) && decide (wrapAmt (Prod.snd p) ≤ 32767) && decide ((-1099511627776 : Int) < Prod.fst p) && decide ((-1099511627776 : Int) < Prod.snd p))) (.inr rfl) kR ?_ kR
 refine vb ?_
 have a1 := wrapAmt_le (n := p.1) (m := 32767) h1 (by decide)
 have a2 := wrapAmt_le (n := p.2) (m := 32767) h2 (by decide)
 have key : ∀ n : Int, (-1099511627776 < n → (wrapAmt n ≤ 32767 ↔ -32767 ≤ n ∧ n ≤ 32767)) → (decide (wrapAmt n ≤ 32767) && decide (-1099511627776 < n)) = (decide (-32767 ≤ n) && decide (n ≤ 32767)) := by
  intro n h
  by_cases hn : -1099511627776 < n
  ·
   simp [h hn, hn]
  ·
   have : ¬ (-32767 ≤ n) := by omega
   simp [hn, this]
 have k1 := key p.1 a1
 have k2 := key p.2 a2
 rw [sE, betB, betB, ← k1, ← k2]
 simp only [Bool.and_assoc, Bool.and_left_comm]
end Go.Proofs.YtepkjobndmmejaaGreatDoor

namespace Go.Proofs.YtepkjobndmmejaaGreatDoor
open Go.Ab Go.RowKit Go.Dw Go.Shelf
theorem gMul {a b m n : Int} (ha : -m ≤ a ∧ a ≤ m) (hb : -n ≤ b ∧ b ≤ n) : -(m * n) ≤ a * b ∧ a * b ≤ m * n := by
 have h1 : 0 ≤ (m - a) * (n + b) := Int.mul_nonneg oM oM
 have h2 : 0 ≤ (m + a) * (n - b) := Int.mul_nonneg oM oM
 have h3 : 0 ≤ (m - a) * (n - b) := Int.mul_nonneg oM oM
 have h4 : 0 ≤ (m + a) * (n + b) := Int.mul_nonneg oM oM
 simp only [Int.sub_mul, Int.add_mul, Int.mul_add, Int.mul_sub] at h1 h2 h3 h4
 omega
theorem gTd {x m M : Int} (hm : 0 < m) (h : -(M * m) ≤ x ∧ x ≤ M * m) : -M ≤ x.tdiv m ∧ x.tdiv m ≤ M := by
 by_cases hx : 0 ≤ x
 ·
  rw [Int.tdiv_eq_ediv_of_nonneg hx]
  have h1 := Int.ediv_nonneg hx (Int.le_of_lt hm)
  have h2 : x / m ≤ M := by
   have := Int.ediv_le_ediv hm h.2
   rwa [Int.mul_ediv_cancel _ oM] at this
  omega
 ·
  have e : x.tdiv m = -((-x) / m) := by
   have := Int.neg_tdiv (a := -x) (b := m)
   rw [Int.neg_neg] at this
   rw [this, Int.tdiv_eq_ediv_of_nonneg oM]
  have h1 := Int.ediv_nonneg (a := -x) (b := m) oM oM
  have h2 : (-x) / m ≤ M := by
   have := Int.ediv_le_ediv hm (show -x ≤ M * m by omega)
   rwa [Int.mul_ediv_cancel _ oM] at this
  omega
def chE (g n : Int) : Int := (n * g).tdiv 1000
def wallP (c : Cut) (s : Pt) : Pt := (chE c.gain s.2 - c.half, chE c.gain s.1 + c.half)
theorem chE_bd {g n : Int} (hg : 0 ≤ g ∧ g ≤ 100000) (hn : -32768 ≤ n ∧ n ≤ 32768) : -3276800 ≤ chE g n ∧ chE g n ≤ 3276800 := by
 have := gMul (m := 32768) (n := 100000) hn ⟨by omega, hg.2⟩
 exact gTd (by decide) oM
def cutR (c : Cut) (s : List Pt) : List Pt × Int := if cutE c = 0 then (if sChk s = 0 then (s.map (wallP c), 0) else ([], sChk s)) else ([], cutE c)
theorem cutR_1 {c : Cut} {s : List Pt} (h : ¬ cutE c = 0) : cutR c s = ([], cutE c) := by rw [cutR, if_neg h]
theorem cutR_2 {c : Cut} {s : List Pt} (h : cutE c = 0) (h2 : ¬ sChk s = 0) : cutR c s = ([], sChk s) := by rw [cutR, if_pos h, if_neg h2]
theorem cutR_3 {c : Cut} {s : List Pt} (h : cutE c = 0) (h2 : sChk s = 0) : cutR c s = (s.map (wallP c), 0) := by rw [cutR, if_pos h, if_pos h2]
theorem gp_map {f : Pt → Pt} {l : List Pt} {k : Nat} (h : k < l.length) : gp (l.map f) k = f (gp l k) := by
 simp [gp, List.getD_eq_getElem?_getD, List.getElem?_eq_getElem h]
theorem gp_out {l : List Pt} {k : Nat} (h : l.length ≤ k) : gp l k = (0, 0) := by
 simp [gp, List.getD_eq_getElem?_getD, List.getElem?_eq_none h]
theorem wallP_gE {c : Cut} {s : Pt} (hc : cutE c = 0) (hs : sE s = true) : gE (wallP c s) = true := by
 obtain ⟨⟨a1, a2⟩, ⟨b1, b2⟩, _⟩ := cutE_ok.1 hc
 obtain ⟨h1, h2⟩ := sE_iff.1 hs
 have e1 := chE_bd (n := s.1) ⟨b1, b2⟩ oM
 have e2 := chE_bd (n := s.2) ⟨b1, b2⟩ oM
 rw [gE_iff]
 show (-4194304 ≤ chE c.gain s.2 - c.half ∧ _) ∧ -4194304 ≤ chE c.gain s.1 + c.half ∧ _
 simp only [wallP]
 omega
end Go.Proofs.YtepkjobndmmejaaGreatDoor

namespace Go.Proofs.YtepkjobndmmejaaGreatDoor
open Go.Ab Go.RowKit Go.Dw Go.Shelf
def inR2 (p : Pt) : Prop := inR .i64 p.1 ∧ inR .i64 p.2
set_option maxRecDepth 100000 in
theorem rCheckSamples_ac (l : List Pt) (hl : l.length ≤ 4611686018427387904) (hr : ∀ k, k < l.length → inR2 (gp l k)) : AC Tryz.prog 8 [V.pts l] (.i (sChk l)) [] := by
 refine acI hTT hMX Tryz.func8 Tryz.ntmps8 fun C hC hF => ?_
 refine sK fun K hK => wR 2 ?_; refine aX hTT 1 [] tI ?_; refine nK hK ?_; clear hK K; refine sK fun K hK => ?_; refine sK fun K hK => wR 3 ?_; refine aX hTT 3 [] tI ?_; refine nK hK ?_; clear hK K
 refine w_cond (t := decide ((4096 : Int) < (↑(List.length l) : Int))) kR (fun c1 => ?_) (fun c1 => ?_)
 ·
  simp at c1
  refine sK fun K hK => wR 4 ?_; refine aX hTT 1 [] tI ?_; refine nK hK ?_; clear hK K
  refine aw_ret ?_
  refine xt_r ?_
  rw [sChk_many oM]
  refine rP (V.i 6)
 simp at c1
 refine aw_skip ?_
 refine xt_n (hK _ ?_); clear hK K; refine sK fun K hK => ?_; refine sK fun K hK => wR 4 ?_; refine aX hTT 1 [] tI ?_; refine nK hK ?_; clear hK K
 refine aw_block ?_
 refine w_loop (ι := Nat) (fun k => [(0, V.pts l), (3, .i k)]) (fun _ => []) (fun k => k ≤ l.length ∧ ∀ j, j < k → sE (gp l j) = true) (fun k => l.length - k) 0 ⟨Nat.zero_le _, fun j hj => by omega⟩ ?_ ?_
 ·
  refine le_ren [] (.cons kR (.cons kR .nil)) .nil kR kR
 rintro k ⟨hk, hj⟩
 refine sK fun K hK => ?_; refine sK fun K hK => wR 2 ?_; refine aX hTT 4 [] tI ?_; refine nK hK ?_; clear hK K
 refine w_cond (t := decide ((↑k : Int) < (↑(List.length l) : Int))) kR (fun c2 => ?_) (fun c2 => ?_)
 ·
  simp at c2
  obtain ⟨r1, r2⟩ := hr k oM
  refine aw_skip ?_
  refine xt_n (hK _ ?_); clear hK K; refine sK fun K hK => ?_
  refine aw_block ?_
  refine sK fun K hK => wR 3 ?_; refine aX hTT 4 [(2, .c ((0 : Int) ≤ (↑k : Int) ∧ (↑k : Int) < (↑(List.length l) : Int)))] ⟨oM, tI⟩ ?_
  refine eC (rValid_ac (gp l k) r1 r2) ?_
  refine aX hTT 1 [] tI ?_; refine nK hK ?_; clear hK K
  refine w_cond (t := !sE (gp l k)) kR (fun c3 => ?_) (fun c3 => ?_)
  ·
   refine sK fun K hK => ?_
   refine wR 4 ?_; refine aX hTT 1 [] tI ?_; refine nK hK ?_; clear hK K
   refine aw_ret ?_
   refine xb_r ?_
   refine xt_r ?_; refine xt_r ?_
   refine xb_r ?_
   refine xt_r ?_
   rw [sChk_bad oM oM (by simpa using c3)]
   refine rP (V.i 2)
  refine aw_skip ?_
  refine xb_n ?_; refine xt_n (hK _ ?_); clear hK K; refine wR 4 ?_; refine aX hTT 3 [(1, .i ((↑k : Int) + 1))] ⟨oM, tI⟩ ?_; refine aops_nil ?_; refine xt_n ?_
  refine ⟨k + 1, ⟨by omega, fun i hi => ?_⟩, by refine le_ren [] (.cons kR (.cons kR .nil)) .nil kR kR, by omega⟩
  by_cases he : i = k
  ·
   subst he; simpa using c3
  ·
   exact hj i oM
 ·
  simp at c2
  refine aw_exit ?_
  refine xt_x ?_; refine xt_x ?_
  refine xb_same ?_
  refine xt_n ?_; clear hK K; refine hK _ ?_; clear hK K; refine sK fun K hK => wR 3 ?_; refine aX hTT 1 [] tI ?_; refine nK hK ?_; clear hK K
  refine aw_ret ?_
  rw [sChk_good oM fun i hi => hj i oM]
  refine rP (V.i 0)
abbrev yyGA20 (c : Cut) (s : Pt) : List V := [V.i (Int.tdiv (Prod.snd s * Cut.gain c) (1000 : Int) - Cut.half c), V.i (Int.tdiv (Prod.fst s * Cut.gain c) (1000 : Int) + Cut.half c)]
set_option maxRecDepth 100000 in
theorem point_ac (c : Cut) (s : Pt) (hc : cutE c = 0) (hs : (-32768 ≤ s.1 ∧ s.1 ≤ 32768) ∧ -32768 ≤ s.2 ∧ s.2 ≤ 32768) : AC Tryz.prog 35 [c.v, .agg [.i s.1, .i s.2]] (.agg [.i (wallP c s).1, .i (wallP c s).2]) [] := by
 obtain ⟨⟨a1, a2⟩, ⟨b1, b2⟩, _⟩ := cutE_ok.1 hc
 obtain ⟨h1, h2⟩ := hs
 have e1 := chE_bd (n := s.1) ⟨b1, b2⟩ oM
 have e2 := chE_bd (n := s.2) ⟨b1, b2⟩ oM
 have m1 := gMul (m := 32768) (n := 100000) (a := s.1) (b := c.gain) oM ⟨by omega, b2⟩
 have m2 := gMul (m := 32768) (n := 100000) (a := s.2) (b := c.gain) oM ⟨by omega, b2⟩
 unfold chE at e1 e2
 refine acI hTT hMX Tryz.func35 Tryz.ntmps35 fun C hC hF => ?_
 refine sK fun K hK => wR 2 ?_; refine aX hTT 3 [(2, .r (pn 4 (V.ref 100004 0) (100004 : Nat) (Ob.box 81 [V.i 0, V.i 0])))] tI ?_; refine nK hK ?_; clear hK K; refine sK fun K hK => wR 3 ?_; refine aX hTT 20 [(4, .i (Prod.snd s * Cut.gain c)), (5, .c ((0 : Int) < (1000 : Int) ∧ (-9223372036854775808 : Int) ≤ Prod.snd s * Cut.gain c ∧ Prod.snd s * Cut.gain c ≤ 9223372036854775807)), (8, .i (Int.tdiv (Prod.snd s * Cut.gain c) (1000 : Int) - Cut.half c)), (13, .i (Prod.fst s * Cut.gain c)), (14, .c ((0 : Int) < (1000 : Int) ∧ (-9223372036854775808 : Int) ≤ Prod.fst s * Cut.gain c ∧ Prod.fst s * Cut.gain c ≤ 9223372036854775807)), (17, .i (Int.tdiv (Prod.fst s * Cut.gain c) (1000 : Int) + Cut.half c)), (19, .r (pw ((0 : Nat) + (2 : Nat) ≤ (2 : Nat)) (100004 : Nat) (Ob.box 81 (yyGA20 c s))))] ⟨oM, ⟨oM, oM⟩, oM, oM, ⟨oM, oM⟩, oM, oM, tI⟩ ?_; refine nK hK ?_; clear hK K
 refine aw_ret ?_
 refine ret_of_le (le_freezeBox (t := (81 : Nat)) (cs := (yyGA20 c s)) 100004 kR kR) ?_
 refine rP (V.agg (yyGA20 c s))
def cutA (c : Cut) (s : List Pt) (k j : Nat) : Int := if j < k then (wallP c (gp s j)).1 else 0
def cutB (c : Cut) (s : List Pt) (k j : Nat) : Int := if j < k then (wallP c (gp s j)).2 else 0
theorem cutAB_set {c : Cut} {s : List Pt} {k : Nat} (i : Nat) : (if i = k then [V.i (wallP c (gp s k)).1, V.i (wallP c (gp s k)).2] else [V.i (cutA c s k i), V.i (cutB c s k i)]) = [V.i (cutA c s (k + 1) i), V.i (cutB c s (k + 1) i)] := by
 unfold cutA cutB
 by_cases h : i = k
 ·
  subst h; rw [if_pos rfl, if_pos oM, if_pos oM]
 ·
  rw [if_neg h]
  by_cases h2 : i < k
  ·
   rw [if_pos h2, if_pos h2, if_pos oM, if_pos oM]
  ·
   rw [if_neg h2, if_neg h2, if_neg oM, if_neg oM]
abbrev zzGA20 : V := V.sl 2 0 fun (k : Nat) => [V.i (Prod.fst (gp [] k)), V.i (Prod.snd (gp [] k))]
abbrev yyGA21 (s : List Pt) : Ob := Ob.row 81 2 (List.length s) fun (x : Nat) => [V.c (Value.int IntKind.i64 0), V.c (Value.int IntKind.i64 0)]
set_option maxRecDepth 100000 in
theorem Cut_ac (c : Cut) (s : List Pt) (hs : s.length ≤ 4611686018427387904) : AC Tryz.prog 11 [c.v, V.pts s] (.tup [V.pts (cutR c s).1, .i (cutR c s).2]) [] := by
 refine acI hTT hMX Tryz.func11 Tryz.ntmps11 fun C hC hF => ?_
 refine sK fun K hK => wR 2 ?_; refine aX hTT 3 [] tI ?_; refine nK hK ?_; clear hK K; refine sK fun K hK => ?_; refine sK fun K hK => wR 3 ?_; refine aX hTT 1 [] tI ?_
 refine eC (cutCheck_ac c) ?_
 refine aX hTT 1 [] tI ?_; refine nK hK ?_; clear hK K; refine sK fun K hK => wR 4 ?_; refine aX hTT 2 [] tI ?_; refine nK hK ?_; clear hK K
 refine w_cond (t := !decide (cutE c = 0)) kR (fun c1 => ?_) (fun c1 => ?_)
 ·
  simp at c1
  refine sK fun K hK => wR 5 ?_; refine aX hTT 3 [] tI ?_; refine nK hK ?_; clear hK K
  refine aw_ret ?_
  refine xt_r ?_
  rw [cutR_1 c1]
  refine ret_of_le (le_nil 4 (sz := 2) 0 (fun k => [.i (gp [] k).1, .i (gp [] k).2]) kR ?_) ?_
  ·
   rfl
  refine rP (V.tup [zzGA20, V.i (cutE c)])
 simp at c1
 refine aw_skip ?_
 refine xt_n (hK _ ?_); clear hK K; refine sK fun K hK => ?_; refine sK fun K hK => wR 5 ?_; refine aX hTT 1 [] tI ?_
 refine eC (tCheckSamples_ac s hs) ?_
 refine aX hTT 1 [] tI ?_; refine nK hK ?_; clear hK K; refine sK fun K hK => wR 6 ?_; refine aX hTT 2 [] tI ?_; refine nK hK ?_; clear hK K
 refine w_cond (t := !decide (sChk s = 0)) kR (fun c2 => ?_) (fun c2 => ?_)
 ·
  simp at c2
  refine sK fun K hK => wR 7 ?_; refine aX hTT 3 [] tI ?_; refine nK hK ?_; clear hK K
  refine aw_ret ?_
  refine xt_r ?_
  rw [cutR_2 c1 c2]
  refine ret_of_le (le_nil 4 (sz := 2) 0 (fun k => [.i (gp [] k).1, .i (gp [] k).2]) kR ?_) ?_
  ·
   rfl
  refine rP (V.tup [zzGA20, V.i (sChk s)])
 simp at c2
 obtain ⟨l1, l2⟩ := sChk_ok.1 c2
 refine aw_skip ?_
 refine xt_n (hK _ ?_); clear hK K; refine sK fun K hK => wR 7 ?_; refine aX hTT 4 [(2, .r (PR.mk (some (23 : Nat)) (some ((0 : Int) ≤ (↑(List.length s) : Int) ∧ (↑(List.length s) : Int) ≤ (↑(List.length s) : Int) ∧ (↑(List.length s) : Int) ≤ 1099511627776)) (V.own 600023) [((600023 : Nat), some ((yyGA21 s)))] false))] ⟨⟨oM, oM⟩, tI⟩ ?_; refine nK hK ?_; clear hK K; refine sK fun K hK => ?_; refine sK fun K hK => wR 8 ?_; refine aX hTT 3 [] tI ?_; refine nK hK ?_; clear hK K
 refine aw_block ?_
 refine w_loop (ι := Nat) (fun k => [(2, .ptr [.i c.half, .i c.gain, .i c.thin, .i c.wide, .i c.slope, .i c.jerk, .i c.sty]), (8, .own 8), (24, V.pts s), (25, .i s.length), (26, .i k)]) (fun k => [(8, .row 81 2 s.length fun j => [.i (cutA c s k j), .i (cutB c s k j)])]) (fun k => k ≤ s.length) (fun k => s.length - k) 0 (Nat.zero_le _) ?_ ?_
 ·
  refine le_ren (sl := [(8, Ob.row 81 2 (List.length s) fun (j : Nat) => [V.i (cutA c s (0 : Nat) j), V.i (cutB c s (0 : Nat) j)])]) [(8, 600023)] (.cons kR (.cons kR (.cons kR (.cons kR (.cons kR .nil))))) (.cons ⟨(yyGA21 s), kR, .row kR (fun _ _ => rfl)⟩ .nil) kR kR
 intro k hk
 refine sK fun K hK => wR 2 ?_; refine aX hTT 1 [] tI ?_; refine nK hK ?_; clear hK K; refine sK fun K hK => ?_
 refine w_cond (t := decide ((↑k : Int) < (↑(List.length s) : Int))) kR (fun c3 => ?_) (fun c3 => ?_)
 ·
  simp at c3
  have hsk := sE_iff.1 (l2 k c3)
  refine aw_skip ?_
  refine xt_n (hK _ ?_); clear hK K; refine sK fun K hK => ?_
  refine aw_block ?_
  refine sK fun K hK => wR 3 ?_; refine aX hTT 6 [(1, .c ((0 : Int) ≤ (↑k : Int) ∧ (↑k : Int) < (↑(List.length s) : Int))), (3, .r (pn 10 (V.ref 200010 0) (200010 : Nat) (Ob.box 46 [V.i 0, V.i 0]))), (5, .r (pw ((0 : Nat) + (2 : Nat) ≤ (2 : Nat)) (200010 : Nat) (Ob.box 46 [V.i (Prod.fst (gp s k)), V.i (Prod.snd (gp s k))])))] ⟨oM, oM, tI⟩ ?_; refine nK hK ?_; clear hK K; refine wR 4 ?_; refine aX hTT 4 [(3, .c ((0 : Nat) ≤ (2 : Nat)))] ⟨oM, tI⟩ ?_
  refine eC (point_ac c (gp s k) c1 oM) ?_
  refine aX hTT 2 [(0, .c ((0 : Int) ≤ (↑k : Int) ∧ (↑k : Int) < (↑(List.length s) : Int))), (1, .r (pw (k < List.length s ∧ (0 : Nat) + (2 : Nat) ≤ (2 : Nat)) (8 : Nat) (Ob.row 81 2 (List.length s) fun (j : Nat) => if j = k then [V.i (Prod.fst (wallP c (gp s k))), V.i (Prod.snd (wallP c (gp s k)))] else [V.i (cutA c s k j), V.i (cutB c s k j)])))] ⟨oM, oM, tI⟩ ?_; refine aops_nil ?_; refine xb_n ?_; refine xt_n (hK _ ?_); clear hK K; refine wR 5 ?_; refine aX hTT 2 [(0, .i ((↑k : Int) + 1))] ⟨oM, tI⟩ ?_; refine aops_nil ?_; refine xt_n ?_
  refine ⟨k + 1, by omega, ?_, by omega⟩
  refine le_ren (tl := [(2, V.ptr [V.i (Cut.half c), V.i (Cut.gain c), V.i (Cut.thin c), V.i (Cut.wide c), V.i (Cut.slope c), V.i (Cut.jerk c), V.i (Cut.sty c)]), (8, V.own 8), (24, V.sl 2 (List.length s) fun (k : Nat) => [V.i (Prod.fst (gp s k)), V.i (Prod.snd (gp s k))]), (25, V.i (↑(List.length s) : Int)), (26, V.i (↑(k + 1) : Int))]) (sl := [(8, Ob.row 81 2 (List.length s) fun (j : Nat) => [V.i (cutA c s (k + 1) j), V.i (cutB c s (k + 1) j)])]) [(8, 8)] (.cons kR (.cons kR (.cons kR (.cons kR (.cons kR .nil))))) (.cons ⟨Ob.row 81 2 (List.length s) fun (j : Nat) => if j = k then [V.i (Prod.fst (wallP c (gp s k))), V.i (Prod.snd (wallP c (gp s k)))] else [V.i (cutA c s k j), V.i (cutB c s k j)], kR, .row kR ?_⟩ .nil) kR kR
  intro i hi
  exact cutAB_set i
 ·
  simp at c3
  obtain rfl : k = s.length := by omega
  refine aw_exit ?_
  refine xt_x ?_; refine xt_x ?_
  refine xb_same ?_
  refine xt_n ?_; clear hK K; refine hK _ ?_; clear hK K; refine sK fun K hK => wR 3 ?_; refine aX hTT 3 [] tI ?_; refine nK hK ?_; clear hK K
  refine aw_ret ?_
  rw [cutR_3 c1 c2]
  refine ret_of_le (le_shut 4 8 (e := (81 : Nat)) (sz := (2 : Nat)) (n := List.length s) (n' := (s.map (wallP c)).length) (row := fun (j : Nat) => [V.i (cutA c s (List.length s) j), V.i (cutB c s (List.length s) j)]) (row' := (fun j => [.i (gp (s.map (wallP c)) j).1, .i (gp (s.map (wallP c)) j).2])) kR kR (fun _ _ => rfl) ?_ ?_) ?_
  ·
   simp
  ·
   intro i hi
   rw [gp_map hi, cutA, cutB, if_pos hi, if_pos hi]
  refine rP (V.tup [V.sl 2 (List.length (List.map (wallP c) s)) fun (j : Nat) => [V.i (Prod.fst (gp (List.map (wallP c) s) j)), V.i (Prod.snd (gp (List.map (wallP c) s) j))], V.i 0])
end Go.Proofs.YtepkjobndmmejaaGreatDoor

namespace Go.Proofs.YtepkjobndmmejaaGreatDoor
open Go.Ab Go.RowKit Go.Dw Go.Shelf
def optP : Option Pt → V
 | none => .c (.pointer none)
 | some p => .ptr [.i p.1, .i p.2]
def stepP (b : Option Pt) (h : Pt) : Int := match b with
 | none => 0
 | some b => max (gAmt (h.1 - b.1)) (gAmt (h.2 - b.2))
def bendP (b : Option Pt) (h : Pt) (a : Option Pt) : Int := match b, a with
 | some b, some a => max (gAmt (b.1 + a.1 - 2 * h.1)) (gAmt (b.2 + a.2 - 2 * h.2))
 | _, _ => 0
def gArc (r per : Int) : Int := (710 * r * (710 * r)).tdiv (113 * per * (113 * per))
def thinB (c : Cut) (h : Pt) : Bool := decide (h.2 - h.1 < c.thin)
def wideB (c : Cut) (h : Pt) : Bool := decide (c.wide < h.2 - h.1)
def steepB (c : Cut) (r per : Int) (b : Option Pt) (h : Pt) : Bool := decide (710 * r * c.slope < 113000 * per * stepP b h)
def suddenB (c : Cut) (b : Option Pt) (h : Pt) (a : Option Pt) : Bool := decide (c.jerk < bendP b h a)
def sharpB (c : Cut) (r per : Int) (b : Option Pt) (h : Pt) (a : Option Pt) : Bool := decide (gArc r per < bendP b h a * c.sty)
def ruleB (c : Cut) (r per : Int) (b : Option Pt) (h : Pt) (a : Option Pt) : Nat → Bool
 | 1 => thinB c h
 | 2 => wideB c h
 | 3 => steepB c r per b h
 | 4 => suddenB c b h a
 | _ => sharpB c r per b h a
def ruleP (c : Cut) (r per : Int) (b : Option Pt) (h : Pt) (a : Option Pt) : Int :=
 if thinB c h then 1 else if wideB c h then 2 else if steepB c r per b h then 3 else if suddenB c b h a then 4 else if sharpB c r per b h a then 5 else 0
def Ed (p : Pt) : Prop := (-4194304 ≤ p.1 ∧ p.1 ≤ 4194304) ∧ -4194304 ≤ p.2 ∧ p.2 ≤ 4194304
def EdO : Option Pt → Prop
 | none => True
 | some p => Ed p
theorem stepP_bd {b : Option Pt} {h : Pt} (hb : EdO b) (hh : Ed h) : 0 ≤ stepP b h ∧ stepP b h ≤ 8388608 := by
 cases b with
 | none => simp [stepP]
 | some b =>
  unfold EdO Ed at hb
  unfold Ed at hh
  simp only [stepP, gAmt]
  omega
theorem bendP_bd {b a : Option Pt} {h : Pt} (hb : EdO b) (hh : Ed h) (ha : EdO a) : 0 ≤ bendP b h a ∧ bendP b h a ≤ 16777216 := by
 cases b with
 | none => simp [bendP]
 | some b =>
  cases a with
  | none => simp [bendP]
  | some a =>
   unfold EdO Ed at hb ha
   unfold Ed at hh
   simp only [bendP, gAmt]
   omega
structure Plc (r per : Int) : Prop where
 r : 0 ≤ r ∧ r ≤ 4194304
 p : 1 ≤ per ∧ per ≤ 65536
theorem way_bd {r per : Int} (h : Plc r per) : (0 ≤ 710 * r ∧ 710 * r ≤ 2977955840) ∧ (0 ≤ 710 * r * (710 * r) ∧ 710 * r * (710 * r) ≤ 8868220984990105600) ∧ (113 ≤ 113 * per ∧ 113 * per ≤ 7405568) ∧ 12769 ≤ 113 * per * (113 * per) ∧ 113 * per * (113 * per) ≤ 54842437402624 := by
 obtain ⟨⟨a, b⟩, c, d⟩ := h
 have h1 : 0 ≤ (710 * r) * (710 * r) := Int.mul_nonneg oM oM
 have h2 : (710 * r) * (710 * r) ≤ 2977955840 * 2977955840 := Int.mul_le_mul oM oM oM oM
 have h3 : 113 * 113 ≤ (113 * per) * (113 * per) := Int.mul_le_mul oM oM oM oM
 have h4 : (113 * per) * (113 * per) ≤ 7405568 * 7405568 := Int.mul_le_mul oM oM oM oM
 have e1 : (2977955840 : Int) * 2977955840 = 8868220984990105600 := by decide
 have e2 : (7405568 : Int) * 7405568 = 54842437402624 := by decide
 exact ⟨by omega, ⟨h1, by omega⟩, by omega, by omega, by omega⟩
end Go.Proofs.YtepkjobndmmejaaGreatDoor

namespace Go.Proofs.YtepkjobndmmejaaGreatDoor
open Go.Ab Go.RowKit Go.Dw Go.Shelf
theorem gLit2 {row : Nat → List V} {x y : Int} (h0 : row 0 = [.i x]) (h1 : row 1 = [.i y]) : RImp (.sl 1 2 row) (V.ints [x, y]) := by
 refine RImp.rows rfl fun i hi => ?_
 rcases (by omega : i = 0 ∨ i = 1) with rfl | rfl
 ·
  exact h0
 ·
  exact h1
set_option maxRecDepth 100000 in
theorem gMost_ac (x y : Int) : AC Tryz.prog 197 [V.ints [x, y]] (.i (max x y)) [] := by
 refine acI hTT hMX Tryz.func197 Tryz.ntmps197 fun C hC hF => ?_
 refine sK fun K hK => wR 2 ?_; refine aX hTT 1 [] tI ?_; refine nK hK ?_; clear hK K; refine sK fun K hK => wR 3 ?_; refine aX hTT 4 [(1, .c ((0 : Int) ≤ (0 : Int) ∧ (0 : Int) < (↑(2 : Nat) : Int)))] ⟨oM, tI⟩ ?_; refine nK hK ?_; clear hK K; refine sK fun K hK => ?_; refine sK fun K hK => wR 4 ?_; refine aX hTT 4 [(1, .c ((0 : Int) ≤ (1 : Int) ∧ (1 : Int) ≤ (↑(2 : Nat) : Int) ∧ (↑(2 : Nat) : Int) ≤ (↑(2 : Nat) : Int)))] ⟨⟨oM, oM⟩, tI⟩ ?_; refine nK hK ?_; clear hK K
 refine aw_block ?_
 refine w_loop (ι := Nat) (fun k => [(3, .i (if k = 0 then x else max x y)), (10, .sl 1 1 fun i => [.i (gi [x, y] (i + 1))]), (11, .i 1), (12, .i k)]) (fun _ => []) (fun k => k ≤ 1) (fun k => 1 - k) 0 (Nat.zero_le _) ?_ ?_
 ·
  refine le_ren [] (.cons kR (.cons kR (.cons kR (.cons kR .nil)))) .nil kR kR
 intro k hk
 rcases (by omega : k = 0 ∨ k = 1) with rfl | rfl
 ·
  refine sK fun K hK => ?_
  refine wR 2 ?_; refine aX hTT 1 [] tI ?_; refine nK hK ?_; clear hK K; refine sK fun K hK => ?_; refine w_true (t := true) kR rfl ?_
  refine aw_skip ?_
  refine xt_n (hK _ ?_); clear hK K; refine sK fun K hK => ?_
  refine aw_block ?_
  refine sK fun K hK => wR 3 ?_; refine aX hTT 3 [(0, .c ((0 : Int) ≤ (↑(0 : Nat) : Int) ∧ (↑(0 : Nat) : Int) < (↑(1 : Nat) : Int)))] ⟨oM, tI⟩ ?_; refine nK hK ?_; clear hK K; refine wR 4 ?_; refine aX hTT 4 [] tI ?_; refine aops_nil ?_; refine xb_n ?_; refine xt_n (hK _ ?_); clear hK K; refine wR 5 ?_; refine aX hTT 2 [(0, .i ((↑(0 : Nat) : Int) + 1))] ⟨oM, tI⟩ ?_; refine aops_nil ?_; refine xt_n ?_
  refine ⟨1, by omega, ?_, by omega⟩
  refine le_ren [] (.cons kR (.cons kR (.cons kR (.cons kR .nil)))) .nil kR kR
 ·
  refine sK fun K hK => ?_
  refine wR 2 ?_; refine aX hTT 1 [] tI ?_; refine nK hK ?_; clear hK K; refine sK fun K hK => ?_; refine w_false (t := false) kR rfl ?_
  refine aw_exit ?_
  refine xt_x ?_; refine xt_x ?_
  refine xb_same ?_
  refine xt_n ?_; clear hK K; refine hK _ ?_; clear hK K; refine sK fun K hK => wR 3 ?_; refine aX hTT 2 [] tI ?_; refine nK hK ?_; clear hK K
  refine aw_ret ?_
  refine rP (V.i (if (1 : Nat) = (0 : Nat) then x else max x y))
def trC (c : Cut) (l : List Pt) (r per : Int) : List V := [.i c.half, .i c.gain, .i c.thin, .i c.wide, .i c.slope, .i c.jerk, .i c.sty, V.pts l, .i r, .i per]
def gNearV (b : Option Pt) (h : Pt) (a : Option Pt) : V := .agg [optP b, .ptr [.i h.1, .i h.2], optP a]
theorem EdO.some {p : Pt} (h : EdO (some p)) : Ed p := h
set_option maxRecDepth 100000 in
theorem width_nn (h : Pt) (hh : Ed h) : AC Tryz.prog 181 [gNearV none h none] (.i (h.2 - h.1)) [] := by
 unfold Ed at hh
 refine acI hTT hMX Tryz.func181 Tryz.ntmps181 fun C hC hF => ?_
 refine sK fun K hK => wR 2 ?_; refine aX hTT 2 [] tI ?_; refine nK hK ?_; clear hK K; refine sK fun K hK => wD 3 ?_; refine aX hTT 12 [(10, .i (Prod.snd h - Prod.fst h))] ⟨oM, tI⟩ ?_; refine aops_nil ⟨kR, ?_⟩; refine xt_n (hK _ ?_); clear hK K
 refine aw_ret ?_
 refine rP (V.i (Prod.snd h - Prod.fst h))
set_option maxRecDepth 100000 in
theorem width_ns (h a : Pt) (hh : Ed h) : AC Tryz.prog 181 [gNearV none h (some a)] (.i (h.2 - h.1)) [] := by
 unfold Ed at hh
 refine acI hTT hMX Tryz.func181 Tryz.ntmps181 fun C hC hF => ?_
 refine sK fun K hK => wR 2 ?_; refine aX hTT 2 [] tI ?_; refine nK hK ?_; clear hK K; refine sK fun K hK => wD 3 ?_; refine aX hTT 12 [(10, .i (Prod.snd h - Prod.fst h))] ⟨oM, tI⟩ ?_; refine aops_nil ⟨kR, ?_⟩; refine xt_n (hK _ ?_); clear hK K
 refine aw_ret ?_
 refine rP (V.i (Prod.snd h - Prod.fst h))
set_option maxRecDepth 100000 in
theorem width_sn (b h : Pt) (hh : Ed h) : AC Tryz.prog 181 [gNearV (some b) h none] (.i (h.2 - h.1)) [] := by
 unfold Ed at hh
 refine acI hTT hMX Tryz.func181 Tryz.ntmps181 fun C hC hF => ?_
 refine sK fun K hK => wR 2 ?_; refine aX hTT 2 [] tI ?_; refine nK hK ?_; clear hK K; refine sK fun K hK => wD 3 ?_; refine aX hTT 12 [(10, .i (Prod.snd h - Prod.fst h))] ⟨oM, tI⟩ ?_; refine aops_nil ⟨kR, ?_⟩; refine xt_n (hK _ ?_); clear hK K
 refine aw_ret ?_
 refine rP (V.i (Prod.snd h - Prod.fst h))
set_option maxRecDepth 100000 in
theorem width_ss (b h a : Pt) (hh : Ed h) : AC Tryz.prog 181 [gNearV (some b) h (some a)] (.i (h.2 - h.1)) [] := by
 unfold Ed at hh
 refine acI hTT hMX Tryz.func181 Tryz.ntmps181 fun C hC hF => ?_
 refine sK fun K hK => wR 2 ?_; refine aX hTT 2 [] tI ?_; refine nK hK ?_; clear hK K; refine sK fun K hK => wD 3 ?_; refine aX hTT 12 [(10, .i (Prod.snd h - Prod.fst h))] ⟨oM, tI⟩ ?_; refine aops_nil ⟨kR, ?_⟩; refine xt_n (hK _ ?_); clear hK K
 refine aw_ret ?_
 refine rP (V.i (Prod.snd h - Prod.fst h))
theorem width_ac (b : Option Pt) (h : Pt) (a : Option Pt) (hh : Ed h) : AC Tryz.prog 181 [gNearV b h a] (.i (h.2 - h.1)) [] := by
 cases b with
 | none => cases a with
  | none => exact width_nn  h hh
  | some a => exact width_ns  h a hh
 | some b => cases a with
  | none => exact width_sn  b h hh
  | some a => exact width_ss  b h a hh
set_option maxRecDepth 100000 in
theorem step_nn (h : Pt) (hb : EdO none) (hh : Ed h) : AC Tryz.prog 182 [gNearV none h none] (.i (stepP none h)) [] := by
 unfold Ed at hh
 refine acI hTT hMX Tryz.func182 Tryz.ntmps182 fun C hC hF => ?_
 refine sK fun K hK => wR 2 ?_; refine aX hTT 2 [] tI ?_; refine nK hK ?_; clear hK K; refine sK fun K hK => ?_; refine sK fun K hK => wR 3 ?_; refine aX hTT 3 [] tI ?_; refine nK hK ?_; clear hK K; refine w_true (t := true) kR rfl ?_; refine sK fun K hK => wR 4 ?_; refine aX hTT 1 [] tI ?_; refine nK hK ?_; clear hK K
 refine aw_ret ?_
 refine xt_r ?_
 refine rP (V.i 0)
set_option maxRecDepth 100000 in
theorem step_ns (h a : Pt) (hb : EdO none) (hh : Ed h) : AC Tryz.prog 182 [gNearV none h (some a)] (.i (stepP none h)) [] := by
 unfold Ed at hh
 refine acI hTT hMX Tryz.func182 Tryz.ntmps182 fun C hC hF => ?_
 refine sK fun K hK => wR 2 ?_; refine aX hTT 2 [] tI ?_; refine nK hK ?_; clear hK K; refine sK fun K hK => ?_; refine sK fun K hK => wR 3 ?_; refine aX hTT 3 [] tI ?_; refine nK hK ?_; clear hK K; refine w_true (t := true) kR rfl ?_; refine sK fun K hK => wR 4 ?_; refine aX hTT 1 [] tI ?_; refine nK hK ?_; clear hK K
 refine aw_ret ?_
 refine xt_r ?_
 refine rP (V.i 0)
set_option maxRecDepth 100000 in
theorem step_sn (b h : Pt) (hb : EdO (some b)) (hh : Ed h) : AC Tryz.prog 182 [gNearV (some b) h none] (.i (stepP (some b) h)) [] := by
 unfold Ed at hh
 have hb2 := hb.some
 unfold Ed at hb2
 refine acI hTT hMX Tryz.func182 Tryz.ntmps182 fun C hC hF => ?_
 refine sK fun K hK => wR 2 ?_; refine aX hTT 2 [] tI ?_; refine nK hK ?_; clear hK K; refine sK fun K hK => ?_; refine sK fun K hK => wR 3 ?_; refine aX hTT 3 [] tI ?_; refine nK hK ?_; clear hK K; refine w_false (t := false) kR rfl ?_
 refine aw_skip ?_
 refine xt_n (hK _ ?_); clear hK K; refine sK fun K hK => wD 4 ?_; refine aX hTT 11 [(10, .i (Prod.fst h - Prod.fst b))] ⟨oM, tI⟩ ?_
 refine eC (gAmount_ac (h.1 - b.1) oM) ?_
 refine aX hTT 11 [(10, .i (Prod.snd h - Prod.snd b))] ⟨oM, tI⟩ ?_
 refine eC (gAmount_ac (h.2 - b.2) oM) ?_
 refine aX hTT 1 [] tI ?_
 refine eC (AC.conv (gMost_ac (gAmt (h.1 - b.1)) (gAmt (h.2 - b.2))) (args' := [V.sl 1 2 fun (i : Nat) => List.take (1 : Nat) (List.drop (i * 1) [V.i (gAmt (Prod.fst h - Prod.fst b)), V.i (gAmt (Prod.snd h - Prod.snd b))])]) ⟨?_, trivial⟩) ?_
 ·
  exact gLit2 rfl rfl
 refine aX hTT 1 [] tI ?_; refine aops_nil ⟨kR, ?_⟩; refine xt_n (hK _ ?_); clear hK K
 refine aw_ret ?_
 refine rP (V.i (max (gAmt (Prod.fst h - Prod.fst b)) (gAmt (Prod.snd h - Prod.snd b))))
set_option maxRecDepth 100000 in
theorem step_ss (b h a : Pt) (hb : EdO (some b)) (hh : Ed h) : AC Tryz.prog 182 [gNearV (some b) h (some a)] (.i (stepP (some b) h)) [] := by
 unfold Ed at hh
 have hb2 := hb.some
 unfold Ed at hb2
 refine acI hTT hMX Tryz.func182 Tryz.ntmps182 fun C hC hF => ?_
 refine sK fun K hK => wR 2 ?_; refine aX hTT 2 [] tI ?_; refine nK hK ?_; clear hK K; refine sK fun K hK => ?_; refine sK fun K hK => wR 3 ?_; refine aX hTT 3 [] tI ?_; refine nK hK ?_; clear hK K; refine w_false (t := false) kR rfl ?_
 refine aw_skip ?_
 refine xt_n (hK _ ?_); clear hK K; refine sK fun K hK => wD 4 ?_; refine aX hTT 11 [(10, .i (Prod.fst h - Prod.fst b))] ⟨oM, tI⟩ ?_
 refine eC (gAmount_ac (h.1 - b.1) oM) ?_
 refine aX hTT 11 [(10, .i (Prod.snd h - Prod.snd b))] ⟨oM, tI⟩ ?_
 refine eC (gAmount_ac (h.2 - b.2) oM) ?_
 refine aX hTT 1 [] tI ?_
 refine eC (AC.conv (gMost_ac (gAmt (h.1 - b.1)) (gAmt (h.2 - b.2))) (args' := [V.sl 1 2 fun (i : Nat) => List.take (1 : Nat) (List.drop (i * 1) [V.i (gAmt (Prod.fst h - Prod.fst b)), V.i (gAmt (Prod.snd h - Prod.snd b))])]) ⟨?_, trivial⟩) ?_
 ·
  exact gLit2 rfl rfl
 refine aX hTT 1 [] tI ?_; refine aops_nil ⟨kR, ?_⟩; refine xt_n (hK _ ?_); clear hK K
 refine aw_ret ?_
 refine rP (V.i (max (gAmt (Prod.fst h - Prod.fst b)) (gAmt (Prod.snd h - Prod.snd b))))
theorem step_ac (b : Option Pt) (h : Pt) (a : Option Pt) (hb : EdO b) (hh : Ed h) : AC Tryz.prog 182 [gNearV b h a] (.i (stepP b h)) [] := by
 cases b with
 | none => cases a with
  | none => exact step_nn  h hb hh
  | some a => exact step_ns  h a hb hh
 | some b => cases a with
  | none => exact step_sn  b h hb hh
  | some a => exact step_ss  b h a hb hh
set_option maxRecDepth 100000 in
theorem bend_nn (h : Pt) (hb : EdO none) (hh : Ed h) (ha : EdO none) : AC Tryz.prog 183 [gNearV none h none] (.i (bendP none h none)) [] := by
 unfold Ed at hh
 refine acI hTT hMX Tryz.func183 Tryz.ntmps183 fun C hC hF => ?_
 refine sK fun K hK => wR 2 ?_; refine aX hTT 2 [] tI ?_; refine nK hK ?_; clear hK K; refine sK fun K hK => ?_; refine sK fun K hK => wR 3 ?_; refine aX hTT 8 [(4, .c (gA (true == false) True)), (5, .c (gB (true == false) True)), (6, .c (gD (true == false) True)), (7, .c (True ∧ (true = false → (true == false) = true)))] ⟨⟨⟨tI, tI⟩, (fun _ => tI)⟩, ⟨⟨(by (exact fun h => h)), tI⟩, (fun _ => tI)⟩, ⟨⟨(by (exact fun h => h)), ⟨tI, tI⟩⟩, (fun _ => tI)⟩, ⟨tI, (by (intro h; simp at h; done))⟩, tI⟩ ?_; refine nK hK ?_; clear hK K; refine w_true (t := true) kR rfl ?_; refine sK fun K hK => wR 4 ?_; refine aX hTT 1 [] tI ?_; refine nK hK ?_; clear hK K
 refine aw_ret ?_
 refine xt_r ?_
 refine rP (V.i 0)
set_option maxRecDepth 100000 in
theorem bend_ns (h a : Pt) (hb : EdO none) (hh : Ed h) (ha : EdO (some a)) : AC Tryz.prog 183 [gNearV none h (some a)] (.i (bendP none h (some a))) [] := by
 unfold Ed at hh
 have ha2 := ha.some
 unfold Ed at ha2
 refine acI hTT hMX Tryz.func183 Tryz.ntmps183 fun C hC hF => ?_
 refine sK fun K hK => wR 2 ?_; refine aX hTT 2 [] tI ?_; refine nK hK ?_; clear hK K; refine sK fun K hK => ?_; refine sK fun K hK => wR 3 ?_; refine aX hTT 8 [(4, .c (gA (true == false) True)), (5, .c (gB (true == false) True)), (6, .c (gD (true == false) True)), (7, .c (True ∧ (true = false → (true == false) = true)))] ⟨⟨⟨tI, tI⟩, (fun _ => tI)⟩, ⟨⟨(by (exact fun h => h)), tI⟩, (fun _ => tI)⟩, ⟨⟨(by (exact fun h => h)), ⟨tI, tI⟩⟩, (fun _ => tI)⟩, ⟨tI, (by (intro h; simp at h; done))⟩, tI⟩ ?_; refine nK hK ?_; clear hK K; refine w_true (t := true) kR rfl ?_; refine sK fun K hK => wR 4 ?_; refine aX hTT 1 [] tI ?_; refine nK hK ?_; clear hK K
 refine aw_ret ?_
 refine xt_r ?_
 refine rP (V.i 0)
set_option maxRecDepth 100000 in
theorem bend_sn (b h : Pt) (hb : EdO (some b)) (hh : Ed h) (ha : EdO none) : AC Tryz.prog 183 [gNearV (some b) h none] (.i (bendP (some b) h none)) [] := by
 unfold Ed at hh
 have hb2 := hb.some
 unfold Ed at hb2
 refine acI hTT hMX Tryz.func183 Tryz.ntmps183 fun C hC hF => ?_
 refine sK fun K hK => wR 2 ?_; refine aX hTT 2 [] tI ?_; refine nK hK ?_; clear hK K; refine sK fun K hK => ?_; refine sK fun K hK => wR 3 ?_; refine aX hTT 8 [(4, .c (gA (false == false) True)), (5, .c (gB (false == false) True)), (6, .c (gD (false == false) True)), (7, .c (True ∧ (false = false → (false == false) = true)))] ⟨⟨⟨tI, tI⟩, (fun _ => tI)⟩, ⟨⟨(by (exact fun h => h)), tI⟩, (fun _ => tI)⟩, ⟨⟨(by (exact fun h => h)), ⟨tI, tI⟩⟩, (fun _ => tI)⟩, ⟨tI, (by (intro h; rw [h]; rfl))⟩, tI⟩ ?_; refine nK hK ?_; clear hK K; refine w_true (t := true) kR rfl ?_; refine sK fun K hK => wR 4 ?_; refine aX hTT 1 [] tI ?_; refine nK hK ?_; clear hK K
 refine aw_ret ?_
 refine xt_r ?_
 refine rP (V.i 0)
set_option maxRecDepth 100000 in
theorem bend_ss (b h a : Pt) (hb : EdO (some b)) (hh : Ed h) (ha : EdO (some a)) : AC Tryz.prog 183 [gNearV (some b) h (some a)] (.i (bendP (some b) h (some a))) [] := by
 unfold Ed at hh
 have hb2 := hb.some
 unfold Ed at hb2
 have ha2 := ha.some
 unfold Ed at ha2
 refine acI hTT hMX Tryz.func183 Tryz.ntmps183 fun C hC hF => ?_
 refine sK fun K hK => wR 2 ?_; refine aX hTT 2 [] tI ?_; refine nK hK ?_; clear hK K; refine sK fun K hK => ?_; refine sK fun K hK => wR 3 ?_; refine aX hTT 8 [(4, .c (gA (false == false) True)), (5, .c (gB (false == false) True)), (6, .c (gD (false == false) True)), (7, .c (True ∧ (false = false → (false == false) = true)))] ⟨⟨⟨tI, tI⟩, (fun _ => tI)⟩, ⟨⟨(by (exact fun h => h)), tI⟩, (fun _ => tI)⟩, ⟨⟨(by (exact fun h => h)), ⟨tI, tI⟩⟩, (fun _ => tI)⟩, ⟨tI, (by (intro h; rw [h]; rfl))⟩, tI⟩ ?_; refine nK hK ?_; clear hK K; refine w_false (t := false) kR rfl ?_
 refine aw_skip ?_
 refine xt_n (hK _ ?_); clear hK K; refine sK fun K hK => wD 4 ?_; refine aX hTT 18 [(10, .i (Prod.fst b + Prod.fst a)), (16, .i ((2 : Int) * Prod.fst h)), (17, .i (Prod.fst b + Prod.fst a - 2 * Prod.fst h))] ⟨oM, oM, oM, tI⟩ ?_
 refine eC (gAmount_ac (b.1 + a.1 - 2 * h.1) oM) ?_
 refine aX hTT 18 [(10, .i (Prod.snd b + Prod.snd a)), (16, .i ((2 : Int) * Prod.snd h)), (17, .i (Prod.snd b + Prod.snd a - 2 * Prod.snd h))] ⟨oM, oM, oM, tI⟩ ?_
 refine eC (gAmount_ac (b.2 + a.2 - 2 * h.2) oM) ?_
 refine aX hTT 1 [] tI ?_
 refine eC (AC.conv (gMost_ac (gAmt (b.1 + a.1 - 2 * h.1)) (gAmt (b.2 + a.2 - 2 * h.2))) (args' := [V.sl 1 2 fun (i : Nat) => List.take (1 : Nat) (List.drop (i * 1) [V.i (gAmt (Prod.fst b + Prod.fst a - 2 * Prod.fst h)), V.i (gAmt (Prod.snd b + Prod.snd a - 2 * Prod.snd h))])]) ⟨?_, trivial⟩) ?_
 ·
  exact gLit2 rfl rfl
 refine aX hTT 1 [] tI ?_; refine aops_nil ⟨kR, ?_⟩; refine xt_n (hK _ ?_); clear hK K
 refine aw_ret ?_
 refine rP (V.i (max (gAmt (Prod.fst b + Prod.fst a - 2 * Prod.fst h)) (gAmt (Prod.snd b + Prod.snd a - 2 * Prod.snd h))))
theorem bend_ac (b : Option Pt) (h : Pt) (a : Option Pt) (hb : EdO b) (hh : Ed h) (ha : EdO a) : AC Tryz.prog 183 [gNearV b h a] (.i (bendP b h a)) [] := by
 cases b with
 | none => cases a with
  | none => exact bend_nn  h hb hh ha
  | some a => exact bend_ns  h a hb hh ha
 | some b => cases a with
  | none => exact bend_sn  b h hb hh ha
  | some a => exact bend_ss  b h a hb hh ha
set_option maxRecDepth 100000 in
theorem gArc_ac (c : Cut) (l : List Pt) (r per : Int) (hp : Plc r per) : AC Tryz.prog 44 [.ptr (trC c l r per)] (.i (gArc r per)) [] := by
 obtain ⟨w1, w2, w3, w4⟩ := way_bd hp
 obtain ⟨hr, hq⟩ := hp
 refine acI hTT hMX Tryz.func44 Tryz.ntmps44 fun C hC hF => ?_
 refine sK fun K hK => wR 2 ?_; refine aX hTT 1 [] tI ?_; refine nK hK ?_; clear hK K; refine sK fun K hK => wD 3 ?_; refine aX hTT 12 [(4, .i ((710 : Int) * r)), (9, .i ((113 : Int) * per))] ⟨oM, oM, tI⟩ ?_; refine aops_nil ⟨kR, ?_⟩; refine xt_n (hK _ ?_); clear hK K; refine sK fun K hK => wR 4 ?_; refine aX hTT 8 [(2, .i ((710 : Int) * r * ((710 : Int) * r))), (5, .i ((113 : Int) * per * ((113 : Int) * per))), (6, .c ((0 : Int) < (113 : Int) * per * ((113 : Int) * per) ∧ (-9223372036854775808 : Int) ≤ (710 : Int) * r * ((710 : Int) * r) ∧ (710 : Int) * r * ((710 : Int) * r) ≤ 9223372036854775807))] ⟨oM, oM, ⟨oM, oM⟩, tI⟩ ?_; refine nK hK ?_; clear hK K
 refine aw_ret ?_
 refine rP (V.i (Int.tdiv ((710 : Int) * r * ((710 : Int) * r)) ((113 : Int) * per * ((113 : Int) * per))))
set_option maxRecDepth 100000 in
theorem thin_nn (c : Cut) (l : List Pt) (r per : Int) (h : Pt) (hh : Ed h) : AC Tryz.prog 151 [.ptr (trC c l r per), gNearV none h none] (.b (thinB c h)) [] := by
 refine acI hTT hMX Tryz.func151 Tryz.ntmps151 fun C hC hF => ?_
 refine sK fun K hK => wR 2 ?_; refine aX hTT 2 [] tI ?_; refine nK hK ?_; clear hK K; refine sK fun K hK => wD 3 ?_; refine aX hTT 1 [] tI ?_
 refine eC (width_ac none h none hh) ?_
 refine aX hTT 7 [] tI ?_; refine aops_nil ⟨kR, ?_⟩; refine xt_n (hK _ ?_); clear hK K
 refine aw_ret ?_
 refine rP (V.b (decide (Prod.snd h - Prod.fst h < Cut.thin c)))
set_option maxRecDepth 100000 in
theorem thin_ns (c : Cut) (l : List Pt) (r per : Int) (h a : Pt) (hh : Ed h) : AC Tryz.prog 151 [.ptr (trC c l r per), gNearV none h (some a)] (.b (thinB c h)) [] := by
 refine acI hTT hMX Tryz.func151 Tryz.ntmps151 fun C hC hF => ?_
 refine sK fun K hK => wR 2 ?_; refine aX hTT 2 [] tI ?_; refine nK hK ?_; clear hK K; refine sK fun K hK => wD 3 ?_; refine aX hTT 1 [] tI ?_
 refine eC (width_ac none h (some a) hh) ?_
 refine aX hTT 7 [] tI ?_; refine aops_nil ⟨kR, ?_⟩; refine xt_n (hK _ ?_); clear hK K
 refine aw_ret ?_
 refine rP (V.b (decide (Prod.snd h - Prod.fst h < Cut.thin c)))
set_option maxRecDepth 100000 in
theorem thin_sn (c : Cut) (l : List Pt) (r per : Int) (b h : Pt) (hh : Ed h) : AC Tryz.prog 151 [.ptr (trC c l r per), gNearV (some b) h none] (.b (thinB c h)) [] := by
 refine acI hTT hMX Tryz.func151 Tryz.ntmps151 fun C hC hF => ?_
 refine sK fun K hK => wR 2 ?_; refine aX hTT 2 [] tI ?_; refine nK hK ?_; clear hK K; refine sK fun K hK => wD 3 ?_; refine aX hTT 1 [] tI ?_
 refine eC (width_ac (some b) h none hh) ?_
 refine aX hTT 7 [] tI ?_; refine aops_nil ⟨kR, ?_⟩; refine xt_n (hK _ ?_); clear hK K
 refine aw_ret ?_
 refine rP (V.b (decide (Prod.snd h - Prod.fst h < Cut.thin c)))
set_option maxRecDepth 100000 in
theorem thin_ss (c : Cut) (l : List Pt) (r per : Int) (b h a : Pt) (hh : Ed h) : AC Tryz.prog 151 [.ptr (trC c l r per), gNearV (some b) h (some a)] (.b (thinB c h)) [] := by
 refine acI hTT hMX Tryz.func151 Tryz.ntmps151 fun C hC hF => ?_
 refine sK fun K hK => wR 2 ?_; refine aX hTT 2 [] tI ?_; refine nK hK ?_; clear hK K; refine sK fun K hK => wD 3 ?_; refine aX hTT 1 [] tI ?_
 refine eC (width_ac (some b) h (some a) hh) ?_
 refine aX hTT 7 [] tI ?_; refine aops_nil ⟨kR, ?_⟩; refine xt_n (hK _ ?_); clear hK K
 refine aw_ret ?_
 refine rP (V.b (decide (Prod.snd h - Prod.fst h < Cut.thin c)))
theorem thin_ac (c : Cut) (l : List Pt) (r per : Int) (b : Option Pt) (h : Pt) (a : Option Pt) (hh : Ed h) : AC Tryz.prog 151 [.ptr (trC c l r per), gNearV b h a] (.b (thinB c h)) [] := by
 cases b with
 | none => cases a with
  | none => exact thin_nn c l r per h hh
  | some a => exact thin_ns c l r per h a hh
 | some b => cases a with
  | none => exact thin_sn c l r per b h hh
  | some a => exact thin_ss c l r per b h a hh
set_option maxRecDepth 100000 in
theorem wide_nn (c : Cut) (l : List Pt) (r per : Int) (h : Pt) (hh : Ed h) : AC Tryz.prog 152 [.ptr (trC c l r per), gNearV none h none] (.b (wideB c h)) [] := by
 refine acI hTT hMX Tryz.func152 Tryz.ntmps152 fun C hC hF => ?_
 refine sK fun K hK => wR 2 ?_; refine aX hTT 2 [] tI ?_; refine nK hK ?_; clear hK K; refine sK fun K hK => wD 3 ?_; refine aX hTT 1 [] tI ?_
 refine eC (width_ac none h none hh) ?_
 refine aX hTT 7 [] tI ?_; refine aops_nil ⟨kR, ?_⟩; refine xt_n (hK _ ?_); clear hK K
 refine aw_ret ?_
 refine rP (V.b (decide (Cut.wide c < Prod.snd h - Prod.fst h)))
set_option maxRecDepth 100000 in
theorem wide_ns (c : Cut) (l : List Pt) (r per : Int) (h a : Pt) (hh : Ed h) : AC Tryz.prog 152 [.ptr (trC c l r per), gNearV none h (some a)] (.b (wideB c h)) [] := by
 refine acI hTT hMX Tryz.func152 Tryz.ntmps152 fun C hC hF => ?_
 refine sK fun K hK => wR 2 ?_; refine aX hTT 2 [] tI ?_; refine nK hK ?_; clear hK K; refine sK fun K hK => wD 3 ?_; refine aX hTT 1 [] tI ?_
 refine eC (width_ac none h (some a) hh) ?_
 refine aX hTT 7 [] tI ?_; refine aops_nil ⟨kR, ?_⟩; refine xt_n (hK _ ?_); clear hK K
 refine aw_ret ?_
 refine rP (V.b (decide (Cut.wide c < Prod.snd h - Prod.fst h)))
set_option maxRecDepth 100000 in
theorem wide_sn (c : Cut) (l : List Pt) (r per : Int) (b h : Pt) (hh : Ed h) : AC Tryz.prog 152 [.ptr (trC c l r per), gNearV (some b) h none] (.b (wideB c h)) [] := by
 refine acI hTT hMX Tryz.func152 Tryz.ntmps152 fun C hC hF => ?_
 refine sK fun K hK => wR 2 ?_; refine aX hTT 2 [] tI ?_; refine nK hK ?_; clear hK K; refine sK fun K hK => wD 3 ?_; refine aX hTT 1 [] tI ?_
 refine eC (width_ac (some b) h none hh) ?_
 refine aX hTT 7 [] tI ?_; refine aops_nil ⟨kR, ?_⟩; refine xt_n (hK _ ?_); clear hK K
 refine aw_ret ?_
 refine rP (V.b (decide (Cut.wide c < Prod.snd h - Prod.fst h)))
set_option maxRecDepth 100000 in
theorem wide_ss (c : Cut) (l : List Pt) (r per : Int) (b h a : Pt) (hh : Ed h) : AC Tryz.prog 152 [.ptr (trC c l r per), gNearV (some b) h (some a)] (.b (wideB c h)) [] := by
 refine acI hTT hMX Tryz.func152 Tryz.ntmps152 fun C hC hF => ?_
 refine sK fun K hK => wR 2 ?_; refine aX hTT 2 [] tI ?_; refine nK hK ?_; clear hK K; refine sK fun K hK => wD 3 ?_; refine aX hTT 1 [] tI ?_
 refine eC (width_ac (some b) h (some a) hh) ?_
 refine aX hTT 7 [] tI ?_; refine aops_nil ⟨kR, ?_⟩; refine xt_n (hK _ ?_); clear hK K
 refine aw_ret ?_
 refine rP (V.b (decide (Cut.wide c < Prod.snd h - Prod.fst h)))
theorem wide_ac (c : Cut) (l : List Pt) (r per : Int) (b : Option Pt) (h : Pt) (a : Option Pt) (hh : Ed h) : AC Tryz.prog 152 [.ptr (trC c l r per), gNearV b h a] (.b (wideB c h)) [] := by
 cases b with
 | none => cases a with
  | none => exact wide_nn c l r per h hh
  | some a => exact wide_ns c l r per h a hh
 | some b => cases a with
  | none => exact wide_sn c l r per b h hh
  | some a => exact wide_ss c l r per b h a hh
set_option maxRecDepth 100000 in
theorem steep_nn (c : Cut) (l : List Pt) (r per : Int) (h : Pt) (hc : cutE c = 0) (hp : Plc r per) (hb : EdO none) (hh : Ed h) : AC Tryz.prog 153 [.ptr (trC c l r per), gNearV none h none] (.b (steepB c r per none h)) [] := by
 obtain ⟨c1, c2, c3, c4, c5, c6, c7⟩ := cutE_ok.1 hc
 refine acI hTT hMX Tryz.func153 Tryz.ntmps153 fun C hC hF => ?_
 have sb := stepP_bd hb hh
 have m1 := gMul (m := 8388608) (n := 7405568000) (a := stepP none h) (b := 113000 * per) oM (by have := hp.p; omega)
 have m1' : 113000 * per * stepP none h = stepP none h * (113000 * per) := Int.mul_comm _ _
 have m2 := gMul (m := 2977955840) (n := 10000) (a := 710 * r) (b := c.slope) (by have := hp.r; omega) oM
 have hr := hp.r
 have hq := hp.p
 refine sK fun K hK => wR 2 ?_; refine aX hTT 2 [] tI ?_; refine nK hK ?_; clear hK K; refine sK fun K hK => wD 3 ?_; refine aX hTT 6 [(4, .i ((113000 : Int) * per))] ⟨oM, tI⟩ ?_
 refine eC (step_ac none h none hb hh) ?_
 refine aX hTT 14 [(0, .i ((113000 : Int) * per * stepP none h)), (5, .i ((710 : Int) * r)), (11, .i ((710 : Int) * r * Cut.slope c))] ⟨oM, oM, oM, tI⟩ ?_; refine aops_nil ⟨kR, ?_⟩; refine xt_n (hK _ ?_); clear hK K
 refine aw_ret ?_
 refine rP (V.b (decide ((710 : Int) * r * Cut.slope c < 113000 * per * stepP none h)))
set_option maxRecDepth 100000 in
theorem steep_ns (c : Cut) (l : List Pt) (r per : Int) (h a : Pt) (hc : cutE c = 0) (hp : Plc r per) (hb : EdO none) (hh : Ed h) : AC Tryz.prog 153 [.ptr (trC c l r per), gNearV none h (some a)] (.b (steepB c r per none h)) [] := by
 obtain ⟨c1, c2, c3, c4, c5, c6, c7⟩ := cutE_ok.1 hc
 refine acI hTT hMX Tryz.func153 Tryz.ntmps153 fun C hC hF => ?_
 have sb := stepP_bd hb hh
 have m1 := gMul (m := 8388608) (n := 7405568000) (a := stepP none h) (b := 113000 * per) oM (by have := hp.p; omega)
 have m1' : 113000 * per * stepP none h = stepP none h * (113000 * per) := Int.mul_comm _ _
 have m2 := gMul (m := 2977955840) (n := 10000) (a := 710 * r) (b := c.slope) (by have := hp.r; omega) oM
 have hr := hp.r
 have hq := hp.p
 refine sK fun K hK => wR 2 ?_; refine aX hTT 2 [] tI ?_; refine nK hK ?_; clear hK K; refine sK fun K hK => wD 3 ?_; refine aX hTT 6 [(4, .i ((113000 : Int) * per))] ⟨oM, tI⟩ ?_
 refine eC (step_ac none h (some a) hb hh) ?_
 refine aX hTT 14 [(0, .i ((113000 : Int) * per * stepP none h)), (5, .i ((710 : Int) * r)), (11, .i ((710 : Int) * r * Cut.slope c))] ⟨oM, oM, oM, tI⟩ ?_; refine aops_nil ⟨kR, ?_⟩; refine xt_n (hK _ ?_); clear hK K
 refine aw_ret ?_
 refine rP (V.b (decide ((710 : Int) * r * Cut.slope c < 113000 * per * stepP none h)))
set_option maxRecDepth 100000 in
theorem steep_sn (c : Cut) (l : List Pt) (r per : Int) (b h : Pt) (hc : cutE c = 0) (hp : Plc r per) (hb : EdO (some b)) (hh : Ed h) : AC Tryz.prog 153 [.ptr (trC c l r per), gNearV (some b) h none] (.b (steepB c r per (some b) h)) [] := by
 obtain ⟨c1, c2, c3, c4, c5, c6, c7⟩ := cutE_ok.1 hc
 refine acI hTT hMX Tryz.func153 Tryz.ntmps153 fun C hC hF => ?_
 have sb := stepP_bd hb hh
 have m1 := gMul (m := 8388608) (n := 7405568000) (a := stepP (some b) h) (b := 113000 * per) oM (by have := hp.p; omega)
 have m1' : 113000 * per * stepP (some b) h = stepP (some b) h * (113000 * per) := Int.mul_comm _ _
 have m2 := gMul (m := 2977955840) (n := 10000) (a := 710 * r) (b := c.slope) (by have := hp.r; omega) oM
 have hr := hp.r
 have hq := hp.p
 refine sK fun K hK => wR 2 ?_; refine aX hTT 2 [] tI ?_; refine nK hK ?_; clear hK K; refine sK fun K hK => wD 3 ?_; refine aX hTT 6 [(4, .i ((113000 : Int) * per))] ⟨oM, tI⟩ ?_
 refine eC (step_ac (some b) h none hb hh) ?_
 refine aX hTT 14 [(0, .i ((113000 : Int) * per * stepP (some b) h)), (5, .i ((710 : Int) * r)), (11, .i ((710 : Int) * r * Cut.slope c))] ⟨oM, oM, oM, tI⟩ ?_; refine aops_nil ⟨kR, ?_⟩; refine xt_n (hK _ ?_); clear hK K
 refine aw_ret ?_
 refine rP (V.b (decide ((710 : Int) * r * Cut.slope c < 113000 * per * stepP (some b) h)))
set_option maxRecDepth 100000 in
theorem steep_ss (c : Cut) (l : List Pt) (r per : Int) (b h a : Pt) (hc : cutE c = 0) (hp : Plc r per) (hb : EdO (some b)) (hh : Ed h) : AC Tryz.prog 153 [.ptr (trC c l r per), gNearV (some b) h (some a)] (.b (steepB c r per (some b) h)) [] := by
 obtain ⟨c1, c2, c3, c4, c5, c6, c7⟩ := cutE_ok.1 hc
 refine acI hTT hMX Tryz.func153 Tryz.ntmps153 fun C hC hF => ?_
 have sb := stepP_bd hb hh
 have m1 := gMul (m := 8388608) (n := 7405568000) (a := stepP (some b) h) (b := 113000 * per) oM (by have := hp.p; omega)
 have m1' : 113000 * per * stepP (some b) h = stepP (some b) h * (113000 * per) := Int.mul_comm _ _
 have m2 := gMul (m := 2977955840) (n := 10000) (a := 710 * r) (b := c.slope) (by have := hp.r; omega) oM
 have hr := hp.r
 have hq := hp.p
 refine sK fun K hK => wR 2 ?_; refine aX hTT 2 [] tI ?_; refine nK hK ?_; clear hK K; refine sK fun K hK => wD 3 ?_; refine aX hTT 6 [(4, .i ((113000 : Int) * per))] ⟨oM, tI⟩ ?_
 refine eC (step_ac (some b) h (some a) hb hh) ?_
 refine aX hTT 14 [(0, .i ((113000 : Int) * per * stepP (some b) h)), (5, .i ((710 : Int) * r)), (11, .i ((710 : Int) * r * Cut.slope c))] ⟨oM, oM, oM, tI⟩ ?_; refine aops_nil ⟨kR, ?_⟩; refine xt_n (hK _ ?_); clear hK K
 refine aw_ret ?_
 refine rP (V.b (decide ((710 : Int) * r * Cut.slope c < 113000 * per * stepP (some b) h)))
theorem steep_ac (c : Cut) (l : List Pt) (r per : Int) (b : Option Pt) (h : Pt) (a : Option Pt) (hc : cutE c = 0) (hp : Plc r per) (hb : EdO b) (hh : Ed h) : AC Tryz.prog 153 [.ptr (trC c l r per), gNearV b h a] (.b (steepB c r per b h)) [] := by
 cases b with
 | none => cases a with
  | none => exact steep_nn c l r per h hc hp hb hh
  | some a => exact steep_ns c l r per h a hc hp hb hh
 | some b => cases a with
  | none => exact steep_sn c l r per b h hc hp hb hh
  | some a => exact steep_ss c l r per b h a hc hp hb hh
set_option maxRecDepth 100000 in
theorem sudden_nn (c : Cut) (l : List Pt) (r per : Int) (h : Pt) (hb : EdO none) (hh : Ed h) (ha : EdO none) : AC Tryz.prog 154 [.ptr (trC c l r per), gNearV none h none] (.b (suddenB c none h none)) [] := by
 refine acI hTT hMX Tryz.func154 Tryz.ntmps154 fun C hC hF => ?_
 refine sK fun K hK => wR 2 ?_; refine aX hTT 2 [] tI ?_; refine nK hK ?_; clear hK K; refine sK fun K hK => wD 3 ?_; refine aX hTT 1 [] tI ?_
 refine eC (bend_ac none h none hb hh ha) ?_
 refine aX hTT 7 [] tI ?_; refine aops_nil ⟨kR, ?_⟩; refine xt_n (hK _ ?_); clear hK K
 refine aw_ret ?_
 refine rP (V.b (decide (Cut.jerk c < bendP none h none)))
set_option maxRecDepth 100000 in
theorem sudden_ns (c : Cut) (l : List Pt) (r per : Int) (h a : Pt) (hb : EdO none) (hh : Ed h) (ha : EdO (some a)) : AC Tryz.prog 154 [.ptr (trC c l r per), gNearV none h (some a)] (.b (suddenB c none h (some a))) [] := by
 refine acI hTT hMX Tryz.func154 Tryz.ntmps154 fun C hC hF => ?_
 refine sK fun K hK => wR 2 ?_; refine aX hTT 2 [] tI ?_; refine nK hK ?_; clear hK K; refine sK fun K hK => wD 3 ?_; refine aX hTT 1 [] tI ?_
 refine eC (bend_ac none h (some a) hb hh ha) ?_
 refine aX hTT 7 [] tI ?_; refine aops_nil ⟨kR, ?_⟩; refine xt_n (hK _ ?_); clear hK K
 refine aw_ret ?_
 refine rP (V.b (decide (Cut.jerk c < bendP none h (some a))))
set_option maxRecDepth 100000 in
theorem sudden_sn (c : Cut) (l : List Pt) (r per : Int) (b h : Pt) (hb : EdO (some b)) (hh : Ed h) (ha : EdO none) : AC Tryz.prog 154 [.ptr (trC c l r per), gNearV (some b) h none] (.b (suddenB c (some b) h none)) [] := by
 refine acI hTT hMX Tryz.func154 Tryz.ntmps154 fun C hC hF => ?_
 refine sK fun K hK => wR 2 ?_; refine aX hTT 2 [] tI ?_; refine nK hK ?_; clear hK K; refine sK fun K hK => wD 3 ?_; refine aX hTT 1 [] tI ?_
 refine eC (bend_ac (some b) h none hb hh ha) ?_
 refine aX hTT 7 [] tI ?_; refine aops_nil ⟨kR, ?_⟩; refine xt_n (hK _ ?_); clear hK K
 refine aw_ret ?_
 refine rP (V.b (decide (Cut.jerk c < bendP (some b) h none)))
set_option maxRecDepth 100000 in
theorem sudden_ss (c : Cut) (l : List Pt) (r per : Int) (b h a : Pt) (hb : EdO (some b)) (hh : Ed h) (ha : EdO (some a)) : AC Tryz.prog 154 [.ptr (trC c l r per), gNearV (some b) h (some a)] (.b (suddenB c (some b) h (some a))) [] := by
 refine acI hTT hMX Tryz.func154 Tryz.ntmps154 fun C hC hF => ?_
 refine sK fun K hK => wR 2 ?_; refine aX hTT 2 [] tI ?_; refine nK hK ?_; clear hK K; refine sK fun K hK => wD 3 ?_; refine aX hTT 1 [] tI ?_
 refine eC (bend_ac (some b) h (some a) hb hh ha) ?_
 refine aX hTT 7 [] tI ?_; refine aops_nil ⟨kR, ?_⟩; refine xt_n (hK _ ?_); clear hK K
 refine aw_ret ?_
 refine rP (V.b (decide (Cut.jerk c < bendP (some b) h (some a))))
theorem sudden_ac (c : Cut) (l : List Pt) (r per : Int) (b : Option Pt) (h : Pt) (a : Option Pt) (hb : EdO b) (hh : Ed h) (ha : EdO a) : AC Tryz.prog 154 [.ptr (trC c l r per), gNearV b h a] (.b (suddenB c b h a)) [] := by
 cases b with
 | none => cases a with
  | none => exact sudden_nn c l r per h hb hh ha
  | some a => exact sudden_ns c l r per h a hb hh ha
 | some b => cases a with
  | none => exact sudden_sn c l r per b h hb hh ha
  | some a => exact sudden_ss c l r per b h a hb hh ha
set_option maxRecDepth 100000 in
theorem sharp_nn (c : Cut) (l : List Pt) (r per : Int) (h : Pt) (hc : cutE c = 0) (hp : Plc r per) (hb : EdO none) (hh : Ed h) (ha : EdO none) : AC Tryz.prog 155 [.ptr (trC c l r per), gNearV none h none] (.b (sharpB c r per none h none)) [] := by
 obtain ⟨c1, c2, c3, c4, c5, c6, c7⟩ := cutE_ok.1 hc
 refine acI hTT hMX Tryz.func155 Tryz.ntmps155 fun C hC hF => ?_
 have sb := bendP_bd hb hh ha
 have m1 := gMul (m := 16777216) (n := 1024) (a := bendP none h none) (b := c.sty) oM oM
 refine sK fun K hK => wR 2 ?_; refine aX hTT 2 [] tI ?_; refine nK hK ?_; clear hK K; refine sK fun K hK => wD 3 ?_; refine aX hTT 1 [] tI ?_
 refine eC (bend_ac none h none hb hh ha) ?_
 refine aX hTT 7 [(5, .i (bendP none h none * Cut.sty c))] ⟨oM, tI⟩ ?_
 refine eC (gArc_ac c l r per hp) ?_
 refine aX hTT 2 [] tI ?_; refine aops_nil ⟨kR, ?_⟩; refine xt_n (hK _ ?_); clear hK K
 refine aw_ret ?_
 refine rP (V.b (decide (gArc r per < bendP none h none * Cut.sty c)))
set_option maxRecDepth 100000 in
theorem sharp_ns (c : Cut) (l : List Pt) (r per : Int) (h a : Pt) (hc : cutE c = 0) (hp : Plc r per) (hb : EdO none) (hh : Ed h) (ha : EdO (some a)) : AC Tryz.prog 155 [.ptr (trC c l r per), gNearV none h (some a)] (.b (sharpB c r per none h (some a))) [] := by
 obtain ⟨c1, c2, c3, c4, c5, c6, c7⟩ := cutE_ok.1 hc
 refine acI hTT hMX Tryz.func155 Tryz.ntmps155 fun C hC hF => ?_
 have sb := bendP_bd hb hh ha
 have m1 := gMul (m := 16777216) (n := 1024) (a := bendP none h (some a)) (b := c.sty) oM oM
 refine sK fun K hK => wR 2 ?_; refine aX hTT 2 [] tI ?_; refine nK hK ?_; clear hK K; refine sK fun K hK => wD 3 ?_; refine aX hTT 1 [] tI ?_
 refine eC (bend_ac none h (some a) hb hh ha) ?_
 refine aX hTT 7 [(5, .i (bendP none h (some a) * Cut.sty c))] ⟨oM, tI⟩ ?_
 refine eC (gArc_ac c l r per hp) ?_
 refine aX hTT 2 [] tI ?_; refine aops_nil ⟨kR, ?_⟩; refine xt_n (hK _ ?_); clear hK K
 refine aw_ret ?_
 refine rP (V.b (decide (gArc r per < bendP none h (some a) * Cut.sty c)))
set_option maxRecDepth 100000 in
theorem sharp_sn (c : Cut) (l : List Pt) (r per : Int) (b h : Pt) (hc : cutE c = 0) (hp : Plc r per) (hb : EdO (some b)) (hh : Ed h) (ha : EdO none) : AC Tryz.prog 155 [.ptr (trC c l r per), gNearV (some b) h none] (.b (sharpB c r per (some b) h none)) [] := by
 obtain ⟨c1, c2, c3, c4, c5, c6, c7⟩ := cutE_ok.1 hc
 refine acI hTT hMX Tryz.func155 Tryz.ntmps155 fun C hC hF => ?_
 have sb := bendP_bd hb hh ha
 have m1 := gMul (m := 16777216) (n := 1024) (a := bendP (some b) h none) (b := c.sty) oM oM
 refine sK fun K hK => wR 2 ?_; refine aX hTT 2 [] tI ?_; refine nK hK ?_; clear hK K; refine sK fun K hK => wD 3 ?_; refine aX hTT 1 [] tI ?_
 refine eC (bend_ac (some b) h none hb hh ha) ?_
 refine aX hTT 7 [(5, .i (bendP (some b) h none * Cut.sty c))] ⟨oM, tI⟩ ?_
 refine eC (gArc_ac c l r per hp) ?_
 refine aX hTT 2 [] tI ?_; refine aops_nil ⟨kR, ?_⟩; refine xt_n (hK _ ?_); clear hK K
 refine aw_ret ?_
 refine rP (V.b (decide (gArc r per < bendP (some b) h none * Cut.sty c)))
set_option maxRecDepth 100000 in
theorem sharp_ss (c : Cut) (l : List Pt) (r per : Int) (b h a : Pt) (hc : cutE c = 0) (hp : Plc r per) (hb : EdO (some b)) (hh : Ed h) (ha : EdO (some a)) : AC Tryz.prog 155 [.ptr (trC c l r per), gNearV (some b) h (some a)] (.b (sharpB c r per (some b) h (some a))) [] := by
 obtain ⟨c1, c2, c3, c4, c5, c6, c7⟩ := cutE_ok.1 hc
 refine acI hTT hMX Tryz.func155 Tryz.ntmps155 fun C hC hF => ?_
 have sb := bendP_bd hb hh ha
 have m1 := gMul (m := 16777216) (n := 1024) (a := bendP (some b) h (some a)) (b := c.sty) oM oM
 refine sK fun K hK => wR 2 ?_; refine aX hTT 2 [] tI ?_; refine nK hK ?_; clear hK K; refine sK fun K hK => wD 3 ?_; refine aX hTT 1 [] tI ?_
 refine eC (bend_ac (some b) h (some a) hb hh ha) ?_
 refine aX hTT 7 [(5, .i (bendP (some b) h (some a) * Cut.sty c))] ⟨oM, tI⟩ ?_
 refine eC (gArc_ac c l r per hp) ?_
 refine aX hTT 2 [] tI ?_; refine aops_nil ⟨kR, ?_⟩; refine xt_n (hK _ ?_); clear hK K
 refine aw_ret ?_
 refine rP (V.b (decide (gArc r per < bendP (some b) h (some a) * Cut.sty c)))
theorem sharp_ac (c : Cut) (l : List Pt) (r per : Int) (b : Option Pt) (h : Pt) (a : Option Pt) (hc : cutE c = 0) (hp : Plc r per) (hb : EdO b) (hh : Ed h) (ha : EdO a) : AC Tryz.prog 155 [.ptr (trC c l r per), gNearV b h a] (.b (sharpB c r per b h a)) [] := by
 cases b with
 | none => cases a with
  | none => exact sharp_nn c l r per h hc hp hb hh ha
  | some a => exact sharp_ns c l r per h a hc hp hb hh ha
 | some b => cases a with
  | none => exact sharp_sn c l r per b h hc hp hb hh ha
  | some a => exact sharp_ss c l r per b h a hc hp hb hh ha
theorem ruleP_at {c : Cut} {r per : Int} {b : Option Pt} {h : Pt} {a : Option Pt} {j : Nat} (h1 : 1 ≤ j) (h5 : j ≤ 5) (hj : ∀ i, 1 ≤ i → i < j → ruleB c r per b h a i = false) (q : ruleB c r per b h a j = true) : ruleP c r per b h a = (j : Int) := by
 have e1 := fun h => hj 1 oM h
 have e2 := fun h => hj 2 oM h
 have e3 := fun h => hj 3 oM h
 have e4 := fun h => hj 4 oM h
 simp only [ruleB] at e1 e2 e3 e4
 rcases (by omega : j = 1 ∨ j = 2 ∨ j = 3 ∨ j = 4 ∨ j = 5) with rfl | rfl | rfl | rfl | rfl <;> simp only [ruleB] at q <;> simp [ruleP, q, e1, e2, e3, e4]
theorem ruleP_no {c : Cut} {r per : Int} {b : Option Pt} {h : Pt} {a : Option Pt} (hj : ∀ i, 1 ≤ i → i ≤ 5 → ruleB c r per b h a i = false) : ruleP c r per b h a = 0 := by
 have e1 := hj 1 oM oM
 have e2 := hj 2 oM oM
 have e3 := hj 3 oM oM
 have e4 := hj 4 oM oM
 have e5 := hj 5 oM oM
 simp only [ruleB] at e1 e2 e3 e4 e5
 simp [ruleP, e1, e2, e3, e4, e5]
abbrev qGA30 : Prop := (0 : Int) ≤ (1 : Int) ∧ (1 : Int) < (↑(6 : Nat) : Int)
theorem qGA30_ : qGA30 := oM
abbrev qGA31 : Prop := (0 : Int) ≤ (2 : Int) ∧ (2 : Int) < (↑(6 : Nat) : Int)
theorem qGA31_ : qGA31 := oM
abbrev qGA32 : Prop := (0 : Int) ≤ (3 : Int) ∧ (3 : Int) < (↑(6 : Nat) : Int)
theorem qGA32_ : qGA32 := oM
abbrev qGA33 : Prop := (0 : Int) ≤ (4 : Int) ∧ (4 : Int) < (↑(6 : Nat) : Int)
theorem qGA33_ : qGA33 := oM
abbrev qGA34 : Prop := (0 : Int) ≤ (5 : Int) ∧ (5 : Int) < (↑(6 : Nat) : Int)
theorem qGA34_ : qGA34 := oM
abbrev yyGA30 : List V := [V.c Value.nilFunc, V.fn (Fn.func (151 : Nat)) [] [], V.fn (Fn.func (152 : Nat)) [] [], V.fn (Fn.func (153 : Nat)) [] [], V.fn (Fn.func (154 : Nat)) [] [], V.fn (Fn.func (155 : Nat)) [] []]
set_option maxRecDepth 100000 in
theorem rule_nn (c : Cut) (l : List Pt) (r per : Int) (h : Pt) (hc : cutE c = 0) (hp : Plc r per) (hb : EdO none) (hh : Ed h) (ha : EdO none) : AC Tryz.prog 134 [.ptr (trC c l r per), gNearV none h none] (.i (ruleP c r per none h none)) [] := by
 refine acI hTT hMX Tryz.func134 Tryz.ntmps134 fun C hC hF => ?_
 refine sK fun K hK => wR 2 ?_; refine aX hTT 2 [] tI ?_; refine nK hK ?_; clear hK K; refine sK fun K hK => wR 3 ?_; refine aX hTT 3 [(1, .r (pn 5 (V.ref 200005 0) (200005 : Nat) (Ob.box 231 [V.c Value.nilFunc, V.c Value.nilFunc, V.c Value.nilFunc, V.c Value.nilFunc, V.c Value.nilFunc, V.c Value.nilFunc]))), (2, .r (pw ((0 : Nat) + (6 : Nat) ≤ (6 : Nat)) (200005 : Nat) (Ob.box 231 yyGA30)))] ⟨oM, tI⟩ ?_; refine nK hK ?_; clear hK K; refine sK fun K hK => ?_; refine sK fun K hK => wR 4 ?_; refine aX hTT 1 [] tI ?_; refine nK hK ?_; clear hK K
 refine aw_block ?_
 refine w_le (le_freezeBox (t := (231 : Nat)) (cs := yyGA30) 200005 kR kR) ?_
 refine w_loop (ι := Nat) (fun k => [(0, .ptr (trC c l r per)), (3, .ptr [optP none, .ptr [.i h.1, .i h.2], optP none]), (5, .ptr [.c .nilFunc, .fn (.func 151) [] [], .fn (.func 152) [] [], .fn (.func 153) [] [], .fn (.func 154) [] [], .fn (.func 155) [] []]), (6, .i ((k : Int) + 1))]) (fun _ => []) (fun k => k ≤ 5 ∧ ∀ j, 1 ≤ j → j ≤ k → ruleB c r per none h none j = false) (fun k => 5 - k) 0 ⟨by decide, fun j h1 h2 => by omega⟩ ?_ ?_
 ·
  refine le_ren [] (.cons kR (.cons kR (.cons kR (.cons kR .nil)))) .nil kR kR
 rintro k ⟨hk, hj⟩
 rcases (by omega : k = 0 ∨ k = 1 ∨ k = 2 ∨ k = 3 ∨ k = 4 ∨ k = 5) with rfl | rfl | rfl | rfl | rfl | rfl
 ·
  refine sK fun K hK => ?_
  refine sK fun K hK => wR 2 ?_; refine aX hTT 2 [] tI ?_; refine nK hK ?_; clear hK K; refine w_true (t := true) kR rfl ?_
  refine aw_skip ?_
  refine xt_n (hK _ ?_); clear hK K; refine sK fun K hK => ?_
  refine aw_block ?_
  refine sK fun K hK => wD 3 ?_; refine aX hTT 5 [(1, .c qGA30)] ⟨qGA30_, tI⟩ ?_
  refine eC (thin_ac c l r per none h none hh) ?_
  refine aops_nil ⟨kR, ?_⟩; refine xt_n (hK _ ?_); clear hK K
  refine w_cond (t := thinB c h) kR (fun q => ?_) (fun q => ?_)
  ·
   refine sK fun K hK => ?_
   refine wR 4 ?_; refine aX hTT 2 [] tI ?_; refine nK hK ?_; clear hK K
   refine aw_ret ?_
   refine xb_r ?_
   refine xt_r ?_; refine xt_r ?_
   refine xb_r ?_
   refine xt_r ?_
   rw [ruleP_at (j := 1) (by decide) (by decide) (fun j h1 h2 => hj j h1 oM) q]
   refine rP (V.i 1)
  ·
   refine aw_skip ?_
   refine xb_n ?_; refine xt_n (hK _ ?_); clear hK K; refine wR 4 ?_; refine aX hTT 3 [(1, .i ((1 : Int) + (1 : Int)))] ⟨oM, tI⟩ ?_; refine aops_nil ?_; refine xt_n ?_
   refine ⟨1, ⟨by decide, fun j h1 h2 => ?_⟩, by refine le_ren [] (.cons kR (.cons kR (.cons kR (.cons kR .nil)))) .nil kR kR, by decide⟩
   rcases Nat.lt_or_ge j 1 with h3 | h3
   ·
    exact hj j h1 oM
   ·
    obtain rfl : j = 1 := by omega
    exact q
 ·
  refine sK fun K hK => ?_
  refine sK fun K hK => wR 2 ?_; refine aX hTT 2 [] tI ?_; refine nK hK ?_; clear hK K; refine w_true (t := true) kR rfl ?_
  refine aw_skip ?_
  refine xt_n (hK _ ?_); clear hK K; refine sK fun K hK => ?_
  refine aw_block ?_
  refine sK fun K hK => wD 3 ?_; refine aX hTT 5 [(1, .c qGA31)] ⟨qGA31_, tI⟩ ?_
  refine eC (wide_ac c l r per none h none hh) ?_
  refine aops_nil ⟨kR, ?_⟩; refine xt_n (hK _ ?_); clear hK K
  refine w_cond (t := wideB c h) kR (fun q => ?_) (fun q => ?_)
  ·
   refine sK fun K hK => ?_
   refine wR 4 ?_; refine aX hTT 2 [] tI ?_; refine nK hK ?_; clear hK K
   refine aw_ret ?_
   refine xb_r ?_
   refine xt_r ?_; refine xt_r ?_
   refine xb_r ?_
   refine xt_r ?_
   rw [ruleP_at (j := 2) (by decide) (by decide) (fun j h1 h2 => hj j h1 oM) q]
   refine rP (V.i 2)
  ·
   refine aw_skip ?_
   refine xb_n ?_; refine xt_n (hK _ ?_); clear hK K; refine wR 4 ?_; refine aX hTT 3 [(1, .i ((2 : Int) + (1 : Int)))] ⟨oM, tI⟩ ?_; refine aops_nil ?_; refine xt_n ?_
   refine ⟨2, ⟨by decide, fun j h1 h2 => ?_⟩, by refine le_ren [] (.cons kR (.cons kR (.cons kR (.cons kR .nil)))) .nil kR kR, by decide⟩
   rcases Nat.lt_or_ge j 2 with h3 | h3
   ·
    exact hj j h1 oM
   ·
    obtain rfl : j = 2 := by omega
    exact q
 ·
  refine sK fun K hK => ?_
  refine sK fun K hK => wR 2 ?_; refine aX hTT 2 [] tI ?_; refine nK hK ?_; clear hK K; refine w_true (t := true) kR rfl ?_
  refine aw_skip ?_
  refine xt_n (hK _ ?_); clear hK K; refine sK fun K hK => ?_
  refine aw_block ?_
  refine sK fun K hK => wD 3 ?_; refine aX hTT 5 [(1, .c qGA32)] ⟨qGA32_, tI⟩ ?_
  refine eC (steep_ac c l r per none h none hc hp hb hh) ?_
  refine aops_nil ⟨kR, ?_⟩; refine xt_n (hK _ ?_); clear hK K
  refine w_cond (t := steepB c r per none h) kR (fun q => ?_) (fun q => ?_)
  ·
   refine sK fun K hK => ?_
   refine wR 4 ?_; refine aX hTT 2 [] tI ?_; refine nK hK ?_; clear hK K
   refine aw_ret ?_
   refine xb_r ?_
   refine xt_r ?_; refine xt_r ?_
   refine xb_r ?_
   refine xt_r ?_
   rw [ruleP_at (j := 3) (by decide) (by decide) (fun j h1 h2 => hj j h1 oM) q]
   refine rP (V.i 3)
  ·
   refine aw_skip ?_
   refine xb_n ?_; refine xt_n (hK _ ?_); clear hK K; refine wR 4 ?_; refine aX hTT 3 [(1, .i ((3 : Int) + (1 : Int)))] ⟨oM, tI⟩ ?_; refine aops_nil ?_; refine xt_n ?_
   refine ⟨3, ⟨by decide, fun j h1 h2 => ?_⟩, by refine le_ren [] (.cons kR (.cons kR (.cons kR (.cons kR .nil)))) .nil kR kR, by decide⟩
   rcases Nat.lt_or_ge j 3 with h3 | h3
   ·
    exact hj j h1 oM
   ·
    obtain rfl : j = 3 := by omega
    exact q
 ·
  refine sK fun K hK => ?_
  refine sK fun K hK => wR 2 ?_; refine aX hTT 2 [] tI ?_; refine nK hK ?_; clear hK K; refine w_true (t := true) kR rfl ?_
  refine aw_skip ?_
  refine xt_n (hK _ ?_); clear hK K; refine sK fun K hK => ?_
  refine aw_block ?_
  refine sK fun K hK => wD 3 ?_; refine aX hTT 5 [(1, .c qGA33)] ⟨qGA33_, tI⟩ ?_
  refine eC (sudden_ac c l r per none h none hb hh ha) ?_
  refine aops_nil ⟨kR, ?_⟩; refine xt_n (hK _ ?_); clear hK K
  refine w_cond (t := suddenB c none h none) kR (fun q => ?_) (fun q => ?_)
  ·
   refine sK fun K hK => ?_
   refine wR 4 ?_; refine aX hTT 2 [] tI ?_; refine nK hK ?_; clear hK K
   refine aw_ret ?_
   refine xb_r ?_
   refine xt_r ?_; refine xt_r ?_
   refine xb_r ?_
   refine xt_r ?_
   rw [ruleP_at (j := 4) (by decide) (by decide) (fun j h1 h2 => hj j h1 oM) q]
   refine rP (V.i 4)
  ·
   refine aw_skip ?_
   refine xb_n ?_; refine xt_n (hK _ ?_); clear hK K; refine wR 4 ?_; refine aX hTT 3 [(1, .i ((4 : Int) + (1 : Int)))] ⟨oM, tI⟩ ?_; refine aops_nil ?_; refine xt_n ?_
   refine ⟨4, ⟨by decide, fun j h1 h2 => ?_⟩, by refine le_ren [] (.cons kR (.cons kR (.cons kR (.cons kR .nil)))) .nil kR kR, by decide⟩
   rcases Nat.lt_or_ge j 4 with h3 | h3
   ·
    exact hj j h1 oM
   ·
    obtain rfl : j = 4 := by omega
    exact q
 ·
  refine sK fun K hK => ?_
  refine sK fun K hK => wR 2 ?_; refine aX hTT 2 [] tI ?_; refine nK hK ?_; clear hK K; refine w_true (t := true) kR rfl ?_
  refine aw_skip ?_
  refine xt_n (hK _ ?_); clear hK K; refine sK fun K hK => ?_
  refine aw_block ?_
  refine sK fun K hK => wD 3 ?_; refine aX hTT 5 [(1, .c qGA34)] ⟨qGA34_, tI⟩ ?_
  refine eC (sharp_ac c l r per none h none hc hp hb hh ha) ?_
  refine aops_nil ⟨kR, ?_⟩; refine xt_n (hK _ ?_); clear hK K
  refine w_cond (t := sharpB c r per none h none) kR (fun q => ?_) (fun q => ?_)
  ·
   refine sK fun K hK => ?_
   refine wR 4 ?_; refine aX hTT 2 [] tI ?_; refine nK hK ?_; clear hK K
   refine aw_ret ?_
   refine xb_r ?_
   refine xt_r ?_; refine xt_r ?_
   refine xb_r ?_
   refine xt_r ?_
   rw [ruleP_at (j := 5) (by decide) (by decide) (fun j h1 h2 => hj j h1 oM) q]
   refine rP (V.i 5)
  ·
   refine aw_skip ?_
   refine xb_n ?_; refine xt_n (hK _ ?_); clear hK K; refine wR 4 ?_; refine aX hTT 3 [(1, .i ((5 : Int) + (1 : Int)))] ⟨oM, tI⟩ ?_; refine aops_nil ?_; refine xt_n ?_
   refine ⟨5, ⟨by decide, fun j h1 h2 => ?_⟩, by refine le_ren [] (.cons kR (.cons kR (.cons kR (.cons kR .nil)))) .nil kR kR, by decide⟩
   rcases Nat.lt_or_ge j 5 with h3 | h3
   ·
    exact hj j h1 oM
   ·
    obtain rfl : j = 5 := by omega
    exact q
 ·
  refine sK fun K hK => ?_
  refine sK fun K hK => wR 2 ?_; refine aX hTT 2 [] tI ?_; refine nK hK ?_; clear hK K; refine w_false (t := false) kR rfl ?_
  refine aw_exit ?_
  refine xt_x ?_; refine xt_x ?_
  refine xb_same ?_
  refine xt_n ?_; clear hK K; refine hK _ ?_; clear hK K; refine sK fun K hK => wR 3 ?_; refine aX hTT 1 [] tI ?_; refine nK hK ?_; clear hK K
  refine aw_ret ?_
  rw [ruleP_no fun j h1 h2 => hj j h1 h2]
  refine rP (V.i 0)
set_option maxRecDepth 100000 in
theorem rule_ns (c : Cut) (l : List Pt) (r per : Int) (h a : Pt) (hc : cutE c = 0) (hp : Plc r per) (hb : EdO none) (hh : Ed h) (ha : EdO (some a)) : AC Tryz.prog 134 [.ptr (trC c l r per), gNearV none h (some a)] (.i (ruleP c r per none h (some a))) [] := by
 refine acI hTT hMX Tryz.func134 Tryz.ntmps134 fun C hC hF => ?_
 refine sK fun K hK => wR 2 ?_; refine aX hTT 2 [] tI ?_; refine nK hK ?_; clear hK K; refine sK fun K hK => wR 3 ?_; refine aX hTT 3 [(1, .r (pn 5 (V.ref 200005 0) (200005 : Nat) (Ob.box 231 [V.c Value.nilFunc, V.c Value.nilFunc, V.c Value.nilFunc, V.c Value.nilFunc, V.c Value.nilFunc, V.c Value.nilFunc]))), (2, .r (pw ((0 : Nat) + (6 : Nat) ≤ (6 : Nat)) (200005 : Nat) (Ob.box 231 yyGA30)))] ⟨oM, tI⟩ ?_; refine nK hK ?_; clear hK K; refine sK fun K hK => ?_; refine sK fun K hK => wR 4 ?_; refine aX hTT 1 [] tI ?_; refine nK hK ?_; clear hK K
 refine aw_block ?_
 refine w_le (le_freezeBox (t := (231 : Nat)) (cs := yyGA30) 200005 kR kR) ?_
 refine w_loop (ι := Nat) (fun k => [(0, .ptr (trC c l r per)), (3, .ptr [optP none, .ptr [.i h.1, .i h.2], optP (some a)]), (5, .ptr [.c .nilFunc, .fn (.func 151) [] [], .fn (.func 152) [] [], .fn (.func 153) [] [], .fn (.func 154) [] [], .fn (.func 155) [] []]), (6, .i ((k : Int) + 1))]) (fun _ => []) (fun k => k ≤ 5 ∧ ∀ j, 1 ≤ j → j ≤ k → ruleB c r per none h (some a) j = false) (fun k => 5 - k) 0 ⟨by decide, fun j h1 h2 => by omega⟩ ?_ ?_
 ·
  refine le_ren [] (.cons kR (.cons kR (.cons kR (.cons kR .nil)))) .nil kR kR
 rintro k ⟨hk, hj⟩
 rcases (by omega : k = 0 ∨ k = 1 ∨ k = 2 ∨ k = 3 ∨ k = 4 ∨ k = 5) with rfl | rfl | rfl | rfl | rfl | rfl
 ·
  refine sK fun K hK => ?_
  refine sK fun K hK => wR 2 ?_; refine aX hTT 2 [] tI ?_; refine nK hK ?_; clear hK K; refine w_true (t := true) kR rfl ?_
  refine aw_skip ?_
  refine xt_n (hK _ ?_); clear hK K; refine sK fun K hK => ?_
  refine aw_block ?_
  refine sK fun K hK => wD 3 ?_; refine aX hTT 5 [(1, .c qGA30)] ⟨qGA30_, tI⟩ ?_
  refine eC (thin_ac c l r per none h (some a) hh) ?_
  refine aops_nil ⟨kR, ?_⟩; refine xt_n (hK _ ?_); clear hK K
  refine w_cond (t := thinB c h) kR (fun q => ?_) (fun q => ?_)
  ·
   refine sK fun K hK => ?_
   refine wR 4 ?_; refine aX hTT 2 [] tI ?_; refine nK hK ?_; clear hK K
   refine aw_ret ?_
   refine xb_r ?_
   refine xt_r ?_; refine xt_r ?_
   refine xb_r ?_
   refine xt_r ?_
   rw [ruleP_at (j := 1) (by decide) (by decide) (fun j h1 h2 => hj j h1 oM) q]
   refine rP (V.i 1)
  ·
   refine aw_skip ?_
   refine xb_n ?_; refine xt_n (hK _ ?_); clear hK K; refine wR 4 ?_; refine aX hTT 3 [(1, .i ((1 : Int) + (1 : Int)))] ⟨oM, tI⟩ ?_; refine aops_nil ?_; refine xt_n ?_
   refine ⟨1, ⟨by decide, fun j h1 h2 => ?_⟩, by refine le_ren [] (.cons kR (.cons kR (.cons kR (.cons kR .nil)))) .nil kR kR, by decide⟩
   rcases Nat.lt_or_ge j 1 with h3 | h3
   ·
    exact hj j h1 oM
   ·
    obtain rfl : j = 1 := by omega
    exact q
 ·
  refine sK fun K hK => ?_
  refine sK fun K hK => wR 2 ?_; refine aX hTT 2 [] tI ?_; refine nK hK ?_; clear hK K; refine w_true (t := true) kR rfl ?_
  refine aw_skip ?_
  refine xt_n (hK _ ?_); clear hK K; refine sK fun K hK => ?_
  refine aw_block ?_
  refine sK fun K hK => wD 3 ?_; refine aX hTT 5 [(1, .c qGA31)] ⟨qGA31_, tI⟩ ?_
  refine eC (wide_ac c l r per none h (some a) hh) ?_
  refine aops_nil ⟨kR, ?_⟩; refine xt_n (hK _ ?_); clear hK K
  refine w_cond (t := wideB c h) kR (fun q => ?_) (fun q => ?_)
  ·
   refine sK fun K hK => ?_
   refine wR 4 ?_; refine aX hTT 2 [] tI ?_; refine nK hK ?_; clear hK K
   refine aw_ret ?_
   refine xb_r ?_
   refine xt_r ?_; refine xt_r ?_
   refine xb_r ?_
   refine xt_r ?_
   rw [ruleP_at (j := 2) (by decide) (by decide) (fun j h1 h2 => hj j h1 oM) q]
   refine rP (V.i 2)
  ·
   refine aw_skip ?_
   refine xb_n ?_; refine xt_n (hK _ ?_); clear hK K; refine wR 4 ?_; refine aX hTT 3 [(1, .i ((2 : Int) + (1 : Int)))] ⟨oM, tI⟩ ?_; refine aops_nil ?_; refine xt_n ?_
   refine ⟨2, ⟨by decide, fun j h1 h2 => ?_⟩, by refine le_ren [] (.cons kR (.cons kR (.cons kR (.cons kR .nil)))) .nil kR kR, by decide⟩
   rcases Nat.lt_or_ge j 2 with h3 | h3
   ·
    exact hj j h1 oM
   ·
    obtain rfl : j = 2 := by omega
    exact q
 ·
  refine sK fun K hK => ?_
  refine sK fun K hK => wR 2 ?_; refine aX hTT 2 [] tI ?_; refine nK hK ?_; clear hK K; refine w_true (t := true) kR rfl ?_
  refine aw_skip ?_
  refine xt_n (hK _ ?_); clear hK K; refine sK fun K hK => ?_
  refine aw_block ?_
  refine sK fun K hK => wD 3 ?_; refine aX hTT 5 [(1, .c qGA32)] ⟨qGA32_, tI⟩ ?_
  refine eC (steep_ac c l r per none h (some a) hc hp hb hh) ?_
  refine aops_nil ⟨kR, ?_⟩; refine xt_n (hK _ ?_); clear hK K
  refine w_cond (t := steepB c r per none h) kR (fun q => ?_) (fun q => ?_)
  ·
   refine sK fun K hK => ?_
   refine wR 4 ?_; refine aX hTT 2 [] tI ?_; refine nK hK ?_; clear hK K
   refine aw_ret ?_
   refine xb_r ?_
   refine xt_r ?_; refine xt_r ?_
   refine xb_r ?_
   refine xt_r ?_
   rw [ruleP_at (j := 3) (by decide) (by decide) (fun j h1 h2 => hj j h1 oM) q]
   refine rP (V.i 3)
  ·
   refine aw_skip ?_
   refine xb_n ?_; refine xt_n (hK _ ?_); clear hK K; refine wR 4 ?_; refine aX hTT 3 [(1, .i ((3 : Int) + (1 : Int)))] ⟨oM, tI⟩ ?_; refine aops_nil ?_; refine xt_n ?_
   refine ⟨3, ⟨by decide, fun j h1 h2 => ?_⟩, by refine le_ren [] (.cons kR (.cons kR (.cons kR (.cons kR .nil)))) .nil kR kR, by decide⟩
   rcases Nat.lt_or_ge j 3 with h3 | h3
   ·
    exact hj j h1 oM
   ·
    obtain rfl : j = 3 := by omega
    exact q
 ·
  refine sK fun K hK => ?_
  refine sK fun K hK => wR 2 ?_; refine aX hTT 2 [] tI ?_; refine nK hK ?_; clear hK K; refine w_true (t := true) kR rfl ?_
  refine aw_skip ?_
  refine xt_n (hK _ ?_); clear hK K; refine sK fun K hK => ?_
  refine aw_block ?_
  refine sK fun K hK => wD 3 ?_; refine aX hTT 5 [(1, .c qGA33)] ⟨qGA33_, tI⟩ ?_
  refine eC (sudden_ac c l r per none h (some a) hb hh ha) ?_
  refine aops_nil ⟨kR, ?_⟩; refine xt_n (hK _ ?_); clear hK K
  refine w_cond (t := suddenB c none h (some a)) kR (fun q => ?_) (fun q => ?_)
  ·
   refine sK fun K hK => ?_
   refine wR 4 ?_; refine aX hTT 2 [] tI ?_; refine nK hK ?_; clear hK K
   refine aw_ret ?_
   refine xb_r ?_
   refine xt_r ?_; refine xt_r ?_
   refine xb_r ?_
   refine xt_r ?_
   rw [ruleP_at (j := 4) (by decide) (by decide) (fun j h1 h2 => hj j h1 oM) q]
   refine rP (V.i 4)
  ·
   refine aw_skip ?_
   refine xb_n ?_; refine xt_n (hK _ ?_); clear hK K; refine wR 4 ?_; refine aX hTT 3 [(1, .i ((4 : Int) + (1 : Int)))] ⟨oM, tI⟩ ?_; refine aops_nil ?_; refine xt_n ?_
   refine ⟨4, ⟨by decide, fun j h1 h2 => ?_⟩, by refine le_ren [] (.cons kR (.cons kR (.cons kR (.cons kR .nil)))) .nil kR kR, by decide⟩
   rcases Nat.lt_or_ge j 4 with h3 | h3
   ·
    exact hj j h1 oM
   ·
    obtain rfl : j = 4 := by omega
    exact q
 ·
  refine sK fun K hK => ?_
  refine sK fun K hK => wR 2 ?_; refine aX hTT 2 [] tI ?_; refine nK hK ?_; clear hK K; refine w_true (t := true) kR rfl ?_
  refine aw_skip ?_
  refine xt_n (hK _ ?_); clear hK K; refine sK fun K hK => ?_
  refine aw_block ?_
  refine sK fun K hK => wD 3 ?_; refine aX hTT 5 [(1, .c qGA34)] ⟨qGA34_, tI⟩ ?_
  refine eC (sharp_ac c l r per none h (some a) hc hp hb hh ha) ?_
  refine aops_nil ⟨kR, ?_⟩; refine xt_n (hK _ ?_); clear hK K
  refine w_cond (t := sharpB c r per none h (some a)) kR (fun q => ?_) (fun q => ?_)
  ·
   refine sK fun K hK => ?_
   refine wR 4 ?_; refine aX hTT 2 [] tI ?_; refine nK hK ?_; clear hK K
   refine aw_ret ?_
   refine xb_r ?_
   refine xt_r ?_; refine xt_r ?_
   refine xb_r ?_
   refine xt_r ?_
   rw [ruleP_at (j := 5) (by decide) (by decide) (fun j h1 h2 => hj j h1 oM) q]
   refine rP (V.i 5)
  ·
   refine aw_skip ?_
   refine xb_n ?_; refine xt_n (hK _ ?_); clear hK K; refine wR 4 ?_; refine aX hTT 3 [(1, .i ((5 : Int) + (1 : Int)))] ⟨oM, tI⟩ ?_; refine aops_nil ?_; refine xt_n ?_
   refine ⟨5, ⟨by decide, fun j h1 h2 => ?_⟩, by refine le_ren [] (.cons kR (.cons kR (.cons kR (.cons kR .nil)))) .nil kR kR, by decide⟩
   rcases Nat.lt_or_ge j 5 with h3 | h3
   ·
    exact hj j h1 oM
   ·
    obtain rfl : j = 5 := by omega
    exact q
 ·
  refine sK fun K hK => ?_
  refine sK fun K hK => wR 2 ?_; refine aX hTT 2 [] tI ?_; refine nK hK ?_; clear hK K; refine w_false (t := false) kR rfl ?_
  refine aw_exit ?_
  refine xt_x ?_; refine xt_x ?_
  refine xb_same ?_
  refine xt_n ?_; clear hK K; refine hK _ ?_; clear hK K; refine sK fun K hK => wR 3 ?_; refine aX hTT 1 [] tI ?_; refine nK hK ?_; clear hK K
  refine aw_ret ?_
  rw [ruleP_no fun j h1 h2 => hj j h1 h2]
  refine rP (V.i 0)
set_option maxRecDepth 100000 in
theorem rule_sn (c : Cut) (l : List Pt) (r per : Int) (b h : Pt) (hc : cutE c = 0) (hp : Plc r per) (hb : EdO (some b)) (hh : Ed h) (ha : EdO none) : AC Tryz.prog 134 [.ptr (trC c l r per), gNearV (some b) h none] (.i (ruleP c r per (some b) h none)) [] := by
 refine acI hTT hMX Tryz.func134 Tryz.ntmps134 fun C hC hF => ?_
 refine sK fun K hK => wR 2 ?_; refine aX hTT 2 [] tI ?_; refine nK hK ?_; clear hK K; refine sK fun K hK => wR 3 ?_; refine aX hTT 3 [(1, .r (pn 5 (V.ref 200005 0) (200005 : Nat) (Ob.box 231 [V.c Value.nilFunc, V.c Value.nilFunc, V.c Value.nilFunc, V.c Value.nilFunc, V.c Value.nilFunc, V.c Value.nilFunc]))), (2, .r (pw ((0 : Nat) + (6 : Nat) ≤ (6 : Nat)) (200005 : Nat) (Ob.box 231 yyGA30)))] ⟨oM, tI⟩ ?_; refine nK hK ?_; clear hK K; refine sK fun K hK => ?_; refine sK fun K hK => wR 4 ?_; refine aX hTT 1 [] tI ?_; refine nK hK ?_; clear hK K
 refine aw_block ?_
 refine w_le (le_freezeBox (t := (231 : Nat)) (cs := yyGA30) 200005 kR kR) ?_
 refine w_loop (ι := Nat) (fun k => [(0, .ptr (trC c l r per)), (3, .ptr [optP (some b), .ptr [.i h.1, .i h.2], optP none]), (5, .ptr [.c .nilFunc, .fn (.func 151) [] [], .fn (.func 152) [] [], .fn (.func 153) [] [], .fn (.func 154) [] [], .fn (.func 155) [] []]), (6, .i ((k : Int) + 1))]) (fun _ => []) (fun k => k ≤ 5 ∧ ∀ j, 1 ≤ j → j ≤ k → ruleB c r per (some b) h none j = false) (fun k => 5 - k) 0 ⟨by decide, fun j h1 h2 => by omega⟩ ?_ ?_
 ·
  refine le_ren [] (.cons kR (.cons kR (.cons kR (.cons kR .nil)))) .nil kR kR
 rintro k ⟨hk, hj⟩
 rcases (by omega : k = 0 ∨ k = 1 ∨ k = 2 ∨ k = 3 ∨ k = 4 ∨ k = 5) with rfl | rfl | rfl | rfl | rfl | rfl
 ·
  refine sK fun K hK => ?_
  refine sK fun K hK => wR 2 ?_; refine aX hTT 2 [] tI ?_; refine nK hK ?_; clear hK K; refine w_true (t := true) kR rfl ?_
  refine aw_skip ?_
  refine xt_n (hK _ ?_); clear hK K; refine sK fun K hK => ?_
  refine aw_block ?_
  refine sK fun K hK => wD 3 ?_; refine aX hTT 5 [(1, .c qGA30)] ⟨qGA30_, tI⟩ ?_
  refine eC (thin_ac c l r per (some b) h none hh) ?_
  refine aops_nil ⟨kR, ?_⟩; refine xt_n (hK _ ?_); clear hK K
  refine w_cond (t := thinB c h) kR (fun q => ?_) (fun q => ?_)
  ·
   refine sK fun K hK => ?_
   refine wR 4 ?_; refine aX hTT 2 [] tI ?_; refine nK hK ?_; clear hK K
   refine aw_ret ?_
   refine xb_r ?_
   refine xt_r ?_; refine xt_r ?_
   refine xb_r ?_
   refine xt_r ?_
   rw [ruleP_at (j := 1) (by decide) (by decide) (fun j h1 h2 => hj j h1 oM) q]
   refine rP (V.i 1)
  ·
   refine aw_skip ?_
   refine xb_n ?_; refine xt_n (hK _ ?_); clear hK K; refine wR 4 ?_; refine aX hTT 3 [(1, .i ((1 : Int) + (1 : Int)))] ⟨oM, tI⟩ ?_; refine aops_nil ?_; refine xt_n ?_
   refine ⟨1, ⟨by decide, fun j h1 h2 => ?_⟩, by refine le_ren [] (.cons kR (.cons kR (.cons kR (.cons kR .nil)))) .nil kR kR, by decide⟩
   rcases Nat.lt_or_ge j 1 with h3 | h3
   ·
    exact hj j h1 oM
   ·
    obtain rfl : j = 1 := by omega
    exact q
 ·
  refine sK fun K hK => ?_
  refine sK fun K hK => wR 2 ?_; refine aX hTT 2 [] tI ?_; refine nK hK ?_; clear hK K; refine w_true (t := true) kR rfl ?_
  refine aw_skip ?_
  refine xt_n (hK _ ?_); clear hK K; refine sK fun K hK => ?_
  refine aw_block ?_
  refine sK fun K hK => wD 3 ?_; refine aX hTT 5 [(1, .c qGA31)] ⟨qGA31_, tI⟩ ?_
  refine eC (wide_ac c l r per (some b) h none hh) ?_
  refine aops_nil ⟨kR, ?_⟩; refine xt_n (hK _ ?_); clear hK K
  refine w_cond (t := wideB c h) kR (fun q => ?_) (fun q => ?_)
  ·
   refine sK fun K hK => ?_
   refine wR 4 ?_; refine aX hTT 2 [] tI ?_; refine nK hK ?_; clear hK K
   refine aw_ret ?_
   refine xb_r ?_
   refine xt_r ?_; refine xt_r ?_
   refine xb_r ?_
   refine xt_r ?_
   rw [ruleP_at (j := 2) (by decide) (by decide) (fun j h1 h2 => hj j h1 oM) q]
   refine rP (V.i 2)
  ·
   refine aw_skip ?_
   refine xb_n ?_; refine xt_n (hK _ ?_); clear hK K; refine wR 4 ?_; refine aX hTT 3 [(1, .i ((2 : Int) + (1 : Int)))] ⟨oM, tI⟩ ?_; refine aops_nil ?_; refine xt_n ?_
   refine ⟨2, ⟨by decide, fun j h1 h2 => ?_⟩, by refine le_ren [] (.cons kR (.cons kR (.cons kR (.cons kR .nil)))) .nil kR kR, by decide⟩
   rcases Nat.lt_or_ge j 2 with h3 | h3
   ·
    exact hj j h1 oM
   ·
    obtain rfl : j = 2 := by omega
    exact q
 ·
  refine sK fun K hK => ?_
  refine sK fun K hK => wR 2 ?_; refine aX hTT 2 [] tI ?_; refine nK hK ?_; clear hK K; refine w_true (t := true) kR rfl ?_
  refine aw_skip ?_
  refine xt_n (hK _ ?_); clear hK K; refine sK fun K hK => ?_
  refine aw_block ?_
  refine sK fun K hK => wD 3 ?_; refine aX hTT 5 [(1, .c qGA32)] ⟨qGA32_, tI⟩ ?_
  refine eC (steep_ac c l r per (some b) h none hc hp hb hh) ?_
  refine aops_nil ⟨kR, ?_⟩; refine xt_n (hK _ ?_); clear hK K
  refine w_cond (t := steepB c r per (some b) h) kR (fun q => ?_) (fun q => ?_)
  ·
   refine sK fun K hK => ?_
   refine wR 4 ?_; refine aX hTT 2 [] tI ?_; refine nK hK ?_; clear hK K
   refine aw_ret ?_
   refine xb_r ?_
   refine xt_r ?_; refine xt_r ?_
   refine xb_r ?_
   refine xt_r ?_
   rw [ruleP_at (j := 3) (by decide) (by decide) (fun j h1 h2 => hj j h1 oM) q]
   refine rP (V.i 3)
  ·
   refine aw_skip ?_
   refine xb_n ?_; refine xt_n (hK _ ?_); clear hK K; refine wR 4 ?_; refine aX hTT 3 [(1, .i ((3 : Int) + (1 : Int)))] ⟨oM, tI⟩ ?_; refine aops_nil ?_; refine xt_n ?_
   refine ⟨3, ⟨by decide, fun j h1 h2 => ?_⟩, by refine le_ren [] (.cons kR (.cons kR (.cons kR (.cons kR .nil)))) .nil kR kR, by decide⟩
   rcases Nat.lt_or_ge j 3 with h3 | h3
   ·
    exact hj j h1 oM
   ·
    obtain rfl : j = 3 := by omega
    exact q
 ·
  refine sK fun K hK => ?_
  refine sK fun K hK => wR 2 ?_; refine aX hTT 2 [] tI ?_; refine nK hK ?_; clear hK K; refine w_true (t := true) kR rfl ?_
  refine aw_skip ?_
  refine xt_n (hK _ ?_); clear hK K; refine sK fun K hK => ?_
  refine aw_block ?_
  refine sK fun K hK => wD 3 ?_; refine aX hTT 5 [(1, .c qGA33)] ⟨qGA33_, tI⟩ ?_
  refine eC (sudden_ac c l r per (some b) h none hb hh ha) ?_
  refine aops_nil ⟨kR, ?_⟩; refine xt_n (hK _ ?_); clear hK K
  refine w_cond (t := suddenB c (some b) h none) kR (fun q => ?_) (fun q => ?_)
  ·
   refine sK fun K hK => ?_
   refine wR 4 ?_; refine aX hTT 2 [] tI ?_; refine nK hK ?_; clear hK K
   refine aw_ret ?_
   refine xb_r ?_
   refine xt_r ?_; refine xt_r ?_
   refine xb_r ?_
   refine xt_r ?_
   rw [ruleP_at (j := 4) (by decide) (by decide) (fun j h1 h2 => hj j h1 oM) q]
   refine rP (V.i 4)
  ·
   refine aw_skip ?_
   refine xb_n ?_; refine xt_n (hK _ ?_); clear hK K; refine wR 4 ?_; refine aX hTT 3 [(1, .i ((4 : Int) + (1 : Int)))] ⟨oM, tI⟩ ?_; refine aops_nil ?_; refine xt_n ?_
   refine ⟨4, ⟨by decide, fun j h1 h2 => ?_⟩, by refine le_ren [] (.cons kR (.cons kR (.cons kR (.cons kR .nil)))) .nil kR kR, by decide⟩
   rcases Nat.lt_or_ge j 4 with h3 | h3
   ·
    exact hj j h1 oM
   ·
    obtain rfl : j = 4 := by omega
    exact q
 ·
  refine sK fun K hK => ?_
  refine sK fun K hK => wR 2 ?_; refine aX hTT 2 [] tI ?_; refine nK hK ?_; clear hK K; refine w_true (t := true) kR rfl ?_
  refine aw_skip ?_
  refine xt_n (hK _ ?_); clear hK K; refine sK fun K hK => ?_
  refine aw_block ?_
  refine sK fun K hK => wD 3 ?_; refine aX hTT 5 [(1, .c qGA34)] ⟨qGA34_, tI⟩ ?_
  refine eC (sharp_ac c l r per (some b) h none hc hp hb hh ha) ?_
  refine aops_nil ⟨kR, ?_⟩; refine xt_n (hK _ ?_); clear hK K
  refine w_cond (t := sharpB c r per (some b) h none) kR (fun q => ?_) (fun q => ?_)
  ·
   refine sK fun K hK => ?_
   refine wR 4 ?_; refine aX hTT 2 [] tI ?_; refine nK hK ?_; clear hK K
   refine aw_ret ?_
   refine xb_r ?_
   refine xt_r ?_; refine xt_r ?_
   refine xb_r ?_
   refine xt_r ?_
   rw [ruleP_at (j := 5) (by decide) (by decide) (fun j h1 h2 => hj j h1 oM) q]
   refine rP (V.i 5)
  ·
   refine aw_skip ?_
   refine xb_n ?_; refine xt_n (hK _ ?_); clear hK K; refine wR 4 ?_; refine aX hTT 3 [(1, .i ((5 : Int) + (1 : Int)))] ⟨oM, tI⟩ ?_; refine aops_nil ?_; refine xt_n ?_
   refine ⟨5, ⟨by decide, fun j h1 h2 => ?_⟩, by refine le_ren [] (.cons kR (.cons kR (.cons kR (.cons kR .nil)))) .nil kR kR, by decide⟩
   rcases Nat.lt_or_ge j 5 with h3 | h3
   ·
    exact hj j h1 oM
   ·
    obtain rfl : j = 5 := by omega
    exact q
 ·
  refine sK fun K hK => ?_
  refine sK fun K hK => wR 2 ?_; refine aX hTT 2 [] tI ?_; refine nK hK ?_; clear hK K; refine w_false (t := false) kR rfl ?_
  refine aw_exit ?_
  refine xt_x ?_; refine xt_x ?_
  refine xb_same ?_
  refine xt_n ?_; clear hK K; refine hK _ ?_; clear hK K; refine sK fun K hK => wR 3 ?_; refine aX hTT 1 [] tI ?_; refine nK hK ?_; clear hK K
  refine aw_ret ?_
  rw [ruleP_no fun j h1 h2 => hj j h1 h2]
  refine rP (V.i 0)
set_option maxRecDepth 100000 in
theorem rule_ss (c : Cut) (l : List Pt) (r per : Int) (b h a : Pt) (hc : cutE c = 0) (hp : Plc r per) (hb : EdO (some b)) (hh : Ed h) (ha : EdO (some a)) : AC Tryz.prog 134 [.ptr (trC c l r per), gNearV (some b) h (some a)] (.i (ruleP c r per (some b) h (some a))) [] := by
 refine acI hTT hMX Tryz.func134 Tryz.ntmps134 fun C hC hF => ?_
 refine sK fun K hK => wR 2 ?_; refine aX hTT 2 [] tI ?_; refine nK hK ?_; clear hK K; refine sK fun K hK => wR 3 ?_; refine aX hTT 3 [(1, .r (pn 5 (V.ref 200005 0) (200005 : Nat) (Ob.box 231 [V.c Value.nilFunc, V.c Value.nilFunc, V.c Value.nilFunc, V.c Value.nilFunc, V.c Value.nilFunc, V.c Value.nilFunc]))), (2, .r (pw ((0 : Nat) + (6 : Nat) ≤ (6 : Nat)) (200005 : Nat) (Ob.box 231 yyGA30)))] ⟨oM, tI⟩ ?_; refine nK hK ?_; clear hK K; refine sK fun K hK => ?_; refine sK fun K hK => wR 4 ?_; refine aX hTT 1 [] tI ?_; refine nK hK ?_; clear hK K
 refine aw_block ?_
 refine w_le (le_freezeBox (t := (231 : Nat)) (cs := yyGA30) 200005 kR kR) ?_
 refine w_loop (ι := Nat) (fun k => [(0, .ptr (trC c l r per)), (3, .ptr [optP (some b), .ptr [.i h.1, .i h.2], optP (some a)]), (5, .ptr [.c .nilFunc, .fn (.func 151) [] [], .fn (.func 152) [] [], .fn (.func 153) [] [], .fn (.func 154) [] [], .fn (.func 155) [] []]), (6, .i ((k : Int) + 1))]) (fun _ => []) (fun k => k ≤ 5 ∧ ∀ j, 1 ≤ j → j ≤ k → ruleB c r per (some b) h (some a) j = false) (fun k => 5 - k) 0 ⟨by decide, fun j h1 h2 => by omega⟩ ?_ ?_
 ·
  refine le_ren [] (.cons kR (.cons kR (.cons kR (.cons kR .nil)))) .nil kR kR
 rintro k ⟨hk, hj⟩
 rcases (by omega : k = 0 ∨ k = 1 ∨ k = 2 ∨ k = 3 ∨ k = 4 ∨ k = 5) with rfl | rfl | rfl | rfl | rfl | rfl
 ·
  refine sK fun K hK => ?_
  refine sK fun K hK => wR 2 ?_; refine aX hTT 2 [] tI ?_; refine nK hK ?_; clear hK K; refine w_true (t := true) kR rfl ?_
  refine aw_skip ?_
  refine xt_n (hK _ ?_); clear hK K; refine sK fun K hK => ?_
  refine aw_block ?_
  refine sK fun K hK => wD 3 ?_; refine aX hTT 5 [(1, .c qGA30)] ⟨qGA30_, tI⟩ ?_
  refine eC (thin_ac c l r per (some b) h (some a) hh) ?_
  refine aops_nil ⟨kR, ?_⟩; refine xt_n (hK _ ?_); clear hK K
  refine w_cond (t := thinB c h) kR (fun q => ?_) (fun q => ?_)
  ·
   refine sK fun K hK => ?_
   refine wR 4 ?_; refine aX hTT 2 [] tI ?_; refine nK hK ?_; clear hK K
   refine aw_ret ?_
   refine xb_r ?_
   refine xt_r ?_; refine xt_r ?_
   refine xb_r ?_
   refine xt_r ?_
   rw [ruleP_at (j := 1) (by decide) (by decide) (fun j h1 h2 => hj j h1 oM) q]
   refine rP (V.i 1)
  ·
   refine aw_skip ?_
   refine xb_n ?_; refine xt_n (hK _ ?_); clear hK K; refine wR 4 ?_; refine aX hTT 3 [(1, .i ((1 : Int) + (1 : Int)))] ⟨oM, tI⟩ ?_; refine aops_nil ?_; refine xt_n ?_
   refine ⟨1, ⟨by decide, fun j h1 h2 => ?_⟩, by refine le_ren [] (.cons kR (.cons kR (.cons kR (.cons kR .nil)))) .nil kR kR, by decide⟩
   rcases Nat.lt_or_ge j 1 with h3 | h3
   ·
    exact hj j h1 oM
   ·
    obtain rfl : j = 1 := by omega
    exact q
 ·
  refine sK fun K hK => ?_
  refine sK fun K hK => wR 2 ?_; refine aX hTT 2 [] tI ?_; refine nK hK ?_; clear hK K; refine w_true (t := true) kR rfl ?_
  refine aw_skip ?_
  refine xt_n (hK _ ?_); clear hK K; refine sK fun K hK => ?_
  refine aw_block ?_
  refine sK fun K hK => wD 3 ?_; refine aX hTT 5 [(1, .c qGA31)] ⟨qGA31_, tI⟩ ?_
  refine eC (wide_ac c l r per (some b) h (some a) hh) ?_
  refine aops_nil ⟨kR, ?_⟩; refine xt_n (hK _ ?_); clear hK K
  refine w_cond (t := wideB c h) kR (fun q => ?_) (fun q => ?_)
  ·
   refine sK fun K hK => ?_
   refine wR 4 ?_; refine aX hTT 2 [] tI ?_; refine nK hK ?_; clear hK K
   refine aw_ret ?_
   refine xb_r ?_
   refine xt_r ?_; refine xt_r ?_
   refine xb_r ?_
   refine xt_r ?_
   rw [ruleP_at (j := 2) (by decide) (by decide) (fun j h1 h2 => hj j h1 oM) q]
   refine rP (V.i 2)
  ·
   refine aw_skip ?_
   refine xb_n ?_; refine xt_n (hK _ ?_); clear hK K; refine wR 4 ?_; refine aX hTT 3 [(1, .i ((2 : Int) + (1 : Int)))] ⟨oM, tI⟩ ?_; refine aops_nil ?_; refine xt_n ?_
   refine ⟨2, ⟨by decide, fun j h1 h2 => ?_⟩, by refine le_ren [] (.cons kR (.cons kR (.cons kR (.cons kR .nil)))) .nil kR kR, by decide⟩
   rcases Nat.lt_or_ge j 2 with h3 | h3
   ·
    exact hj j h1 oM
   ·
    obtain rfl : j = 2 := by omega
    exact q
 ·
  refine sK fun K hK => ?_
  refine sK fun K hK => wR 2 ?_; refine aX hTT 2 [] tI ?_; refine nK hK ?_; clear hK K; refine w_true (t := true) kR rfl ?_
  refine aw_skip ?_
  refine xt_n (hK _ ?_); clear hK K; refine sK fun K hK => ?_
  refine aw_block ?_
  refine sK fun K hK => wD 3 ?_; refine aX hTT 5 [(1, .c qGA32)] ⟨qGA32_, tI⟩ ?_
  refine eC (steep_ac c l r per (some b) h (some a) hc hp hb hh) ?_
  refine aops_nil ⟨kR, ?_⟩; refine xt_n (hK _ ?_); clear hK K
  refine w_cond (t := steepB c r per (some b) h) kR (fun q => ?_) (fun q => ?_)
  ·
   refine sK fun K hK => ?_
   refine wR 4 ?_; refine aX hTT 2 [] tI ?_; refine nK hK ?_; clear hK K
   refine aw_ret ?_
   refine xb_r ?_
   refine xt_r ?_; refine xt_r ?_
   refine xb_r ?_
   refine xt_r ?_
   rw [ruleP_at (j := 3) (by decide) (by decide) (fun j h1 h2 => hj j h1 oM) q]
   refine rP (V.i 3)
  ·
   refine aw_skip ?_
   refine xb_n ?_; refine xt_n (hK _ ?_); clear hK K; refine wR 4 ?_; refine aX hTT 3 [(1, .i ((3 : Int) + (1 : Int)))] ⟨oM, tI⟩ ?_; refine aops_nil ?_; refine xt_n ?_
   refine ⟨3, ⟨by decide, fun j h1 h2 => ?_⟩, by refine le_ren [] (.cons kR (.cons kR (.cons kR (.cons kR .nil)))) .nil kR kR, by decide⟩
   rcases Nat.lt_or_ge j 3 with h3 | h3
   ·
    exact hj j h1 oM
   ·
    obtain rfl : j = 3 := by omega
    exact q
 ·
  refine sK fun K hK => ?_
  refine sK fun K hK => wR 2 ?_; refine aX hTT 2 [] tI ?_; refine nK hK ?_; clear hK K; refine w_true (t := true) kR rfl ?_
  refine aw_skip ?_
  refine xt_n (hK _ ?_); clear hK K; refine sK fun K hK => ?_
  refine aw_block ?_
  refine sK fun K hK => wD 3 ?_; refine aX hTT 5 [(1, .c qGA33)] ⟨qGA33_, tI⟩ ?_
  refine eC (sudden_ac c l r per (some b) h (some a) hb hh ha) ?_
  refine aops_nil ⟨kR, ?_⟩; refine xt_n (hK _ ?_); clear hK K
  refine w_cond (t := suddenB c (some b) h (some a)) kR (fun q => ?_) (fun q => ?_)
  ·
   refine sK fun K hK => ?_
   refine wR 4 ?_; refine aX hTT 2 [] tI ?_; refine nK hK ?_; clear hK K
   refine aw_ret ?_
   refine xb_r ?_
   refine xt_r ?_; refine xt_r ?_
   refine xb_r ?_
   refine xt_r ?_
   rw [ruleP_at (j := 4) (by decide) (by decide) (fun j h1 h2 => hj j h1 oM) q]
   refine rP (V.i 4)
  ·
   refine aw_skip ?_
   refine xb_n ?_; refine xt_n (hK _ ?_); clear hK K; refine wR 4 ?_; refine aX hTT 3 [(1, .i ((4 : Int) + (1 : Int)))] ⟨oM, tI⟩ ?_; refine aops_nil ?_; refine xt_n ?_
   refine ⟨4, ⟨by decide, fun j h1 h2 => ?_⟩, by refine le_ren [] (.cons kR (.cons kR (.cons kR (.cons kR .nil)))) .nil kR kR, by decide⟩
   rcases Nat.lt_or_ge j 4 with h3 | h3
   ·
    exact hj j h1 oM
   ·
    obtain rfl : j = 4 := by omega
    exact q
 ·
  refine sK fun K hK => ?_
  refine sK fun K hK => wR 2 ?_; refine aX hTT 2 [] tI ?_; refine nK hK ?_; clear hK K; refine w_true (t := true) kR rfl ?_
  refine aw_skip ?_
  refine xt_n (hK _ ?_); clear hK K; refine sK fun K hK => ?_
  refine aw_block ?_
  refine sK fun K hK => wD 3 ?_; refine aX hTT 5 [(1, .c qGA34)] ⟨qGA34_, tI⟩ ?_
  refine eC (sharp_ac c l r per (some b) h (some a) hc hp hb hh ha) ?_
  refine aops_nil ⟨kR, ?_⟩; refine xt_n (hK _ ?_); clear hK K
  refine w_cond (t := sharpB c r per (some b) h (some a)) kR (fun q => ?_) (fun q => ?_)
  ·
   refine sK fun K hK => ?_
   refine wR 4 ?_; refine aX hTT 2 [] tI ?_; refine nK hK ?_; clear hK K
   refine aw_ret ?_
   refine xb_r ?_
   refine xt_r ?_; refine xt_r ?_
   refine xb_r ?_
   refine xt_r ?_
   rw [ruleP_at (j := 5) (by decide) (by decide) (fun j h1 h2 => hj j h1 oM) q]
   refine rP (V.i 5)
  ·
   refine aw_skip ?_
   refine xb_n ?_; refine xt_n (hK _ ?_); clear hK K; refine wR 4 ?_; refine aX hTT 3 [(1, .i ((5 : Int) + (1 : Int)))] ⟨oM, tI⟩ ?_; refine aops_nil ?_; refine xt_n ?_
   refine ⟨5, ⟨by decide, fun j h1 h2 => ?_⟩, by refine le_ren [] (.cons kR (.cons kR (.cons kR (.cons kR .nil)))) .nil kR kR, by decide⟩
   rcases Nat.lt_or_ge j 5 with h3 | h3
   ·
    exact hj j h1 oM
   ·
    obtain rfl : j = 5 := by omega
    exact q
 ·
  refine sK fun K hK => ?_
  refine sK fun K hK => wR 2 ?_; refine aX hTT 2 [] tI ?_; refine nK hK ?_; clear hK K; refine w_false (t := false) kR rfl ?_
  refine aw_exit ?_
  refine xt_x ?_; refine xt_x ?_
  refine xb_same ?_
  refine xt_n ?_; clear hK K; refine hK _ ?_; clear hK K; refine sK fun K hK => wR 3 ?_; refine aX hTT 1 [] tI ?_; refine nK hK ?_; clear hK K
  refine aw_ret ?_
  rw [ruleP_no fun j h1 h2 => hj j h1 h2]
  refine rP (V.i 0)
theorem rule_ac (c : Cut) (l : List Pt) (r per : Int) (b : Option Pt) (h : Pt) (a : Option Pt) (hc : cutE c = 0) (hp : Plc r per) (hb : EdO b) (hh : Ed h) (ha : EdO a) : AC Tryz.prog 134 [.ptr (trC c l r per), gNearV b h a] (.i (ruleP c r per b h a)) [] := by
 cases b with
 | none => cases a with
  | none => exact rule_nn c l r per h hc hp hb hh ha
  | some a => exact rule_ns c l r per h a hc hp hb hh ha
 | some b => cases a with
  | none => exact rule_sn c l r per b h hc hp hb hh ha
  | some a => exact rule_ss c l r per b h a hc hp hb hh ha
end Go.Proofs.YtepkjobndmmejaaGreatDoor

namespace Go.Proofs.YtepkjobndmmejaaGreatDoor
open Go.Ab Go.RowKit Go.Dw Go.Shelf
def nb (l : List Pt) (i : Nat) : Option Pt := if 0 < i then some (gp l (i - 1)) else none
def na (l : List Pt) (i : Nat) : Option Pt := if i + 1 < l.length then some (gp l (i + 1)) else none
def nearI (l : List Pt) (i : Nat) : V := gNearV (nb l i) (gp l i) (na l i)
abbrev qGA40 : Prop := (0 : Nat) ≤ (3 : Nat)
theorem qGA40_ : qGA40 := oM
abbrev yyGA42 (l : List Pt) (i : Nat) : List V := [V.i (Prod.fst (gp l (Int.toNat ((↑i : Int) - 1)))), V.i (Prod.snd (gp l (Int.toNat ((↑i : Int) - 1))))]
abbrev yyGA44 (l : List Pt) (i : Nat) : V := V.ptr [V.i (Prod.fst (gp l i)), V.i (Prod.snd (gp l i))]
abbrev yyGA43 (l : List Pt) (i : Nat) : V := V.ptr [V.i (Prod.fst (gp l (i + 1))), V.i (Prod.snd (gp l (i + 1)))]
abbrev yyGA41 (l : List Pt) (i : Nat) : List V := [V.ptr (yyGA42 l i), (yyGA44 l i), (yyGA43 l i)]
abbrev yyGA40 (l : List Pt) (i : Nat) : Ob := Ob.box 213 (yyGA41 l i)
set_option maxRecDepth 100000 in
theorem at_ac (c : Cut) (l : List Pt) (r per : Int) (i : Nat) (hi : i < l.length) (hl : l.length ≤ 4096) : AC Tryz.prog 150 [.ptr (trC c l r per), .i i] (nearI l i) [] := by
 have e0 : 0 < i → ((i : Int) - 1).toNat = i - 1 := fun _ => by omega
 refine acI hTT hMX Tryz.func150 Tryz.ntmps150 fun C hC hF => ?_
 refine sK fun K hK => wR 2 ?_; refine aX hTT 1 [(0, .r (pn 4 (V.ref 100004 0) (100004 : Nat) (Ob.box 213 [V.c (Value.pointer none), V.c (Value.pointer none), V.c (Value.pointer none)])))] tI ?_; refine nK hK ?_; clear hK K; refine sK fun K hK => wR 3 ?_; refine aX hTT 9 [(5, .c ((0 : Int) ≤ (↑i : Int) ∧ (↑i : Int) < (↑(List.length l) : Int))), (7, .r (pn 5 (V.ref 200005 0) (200005 : Nat) (Ob.box 213 [V.c (Value.pointer none), V.c (Value.pointer none), V.c (Value.pointer none)]))), (8, .r (pw ((0 : Nat) + (3 : Nat) ≤ (3 : Nat)) (200005 : Nat) (Ob.box 213 [V.c (Value.pointer none), (yyGA44 l i), V.c (Value.pointer none)])))] ⟨oM, oM, tI⟩ ?_; refine nK hK ?_; clear hK K; refine sK fun K hK => ?_; refine sK fun K hK => wR 4 ?_; refine aX hTT 2 [] tI ?_; refine nK hK ?_; clear hK K
 refine w_cond (t := decide ((0 : Int) < (↑i : Int))) kR (fun c1 => ?_) (fun c1 => ?_)
 ·
  have h1 : 0 < i := by simpa using c1
  refine wR 5 ?_; refine aX hTT 9 [(5, .i ((↑i : Int) - 1)), (6, .c ((0 : Int) ≤ (↑i : Int) - 1 ∧ (↑i : Int) - 1 < (↑(List.length l) : Int))), (8, .r (pw ((0 : Nat) + (1 : Nat) ≤ (3 : Nat)) (200005 : Nat) (Ob.box 213 [V.ptr (yyGA42 l i), (yyGA44 l i), V.c (Value.pointer none)])))] ⟨oM, oM, oM, tI⟩ ?_; refine nK hK ?_; clear hK K; refine sK fun K hK => ?_; refine sK fun K hK => wR 6 ?_; refine aX hTT 8 [(1, .i ((↑i : Int) + 1))] ⟨oM, tI⟩ ?_; refine nK hK ?_; clear hK K
  refine w_cond (t := decide ((↑i : Int) + 1 < (↑(List.length l) : Int))) kR (fun c2 => ?_) (fun c2 => ?_)
  ·
   have h2 : i + 1 < l.length := by simp at c2; omega
   refine wR 7 ?_; refine aX hTT 9 [(5, .i ((↑i : Int) + 1)), (6, .c ((0 : Int) ≤ (↑i : Int) + 1 ∧ (↑i : Int) + 1 < (↑(List.length l) : Int))), (8, .r (pw ((2 : Nat) + (1 : Nat) ≤ (3 : Nat)) (200005 : Nat) ((yyGA40 l i))))] ⟨oM, oM, oM, tI⟩ ?_; refine nK hK ?_; clear hK K; refine sK fun K hK => wR 8 ?_; refine aX hTT 2 [(0, .c qGA40), (1, .r (pw ((0 : Nat) + (3 : Nat) ≤ (3 : Nat)) (100004 : Nat) ((yyGA40 l i))))] ⟨qGA40_, oM, tI⟩ ?_; refine nK hK ?_; clear hK K
   refine aw_ret ?_
   refine ret_of_le (le_freezeBox (t := (213 : Nat)) (cs := (yyGA41 l i)) 200005 kR kR) ?_
   refine ret_of_le (le_freezeBox (t := (213 : Nat)) (cs := (yyGA41 l i)) 100004 kR kR) ?_
   rw [nearI, nb, na, if_pos h1, if_pos h2, ← e0 h1]
   refine rP (V.agg (yyGA41 l i))
  ·
   have h2 : ¬ i + 1 < l.length := by simp at c2; omega
   refine aw_skip ?_
   refine xt_n (hK _ ?_); clear hK K; refine sK fun K hK => wR 7 ?_; refine aX hTT 2 [(0, .c qGA40), (1, .r (pw ((0 : Nat) + (3 : Nat) ≤ (3 : Nat)) (100004 : Nat) (Ob.box 213 [V.ptr (yyGA42 l i), (yyGA44 l i), V.c (Value.pointer none)])))] ⟨qGA40_, oM, tI⟩ ?_; refine nK hK ?_; clear hK K
   refine aw_ret ?_
   refine ret_of_le (le_freezeBox (t := (213 : Nat)) (cs := [V.ptr (yyGA42 l i), (yyGA44 l i), V.c (Value.pointer none)]) 200005 kR kR) ?_
   refine ret_of_le (le_freezeBox (t := (213 : Nat)) (cs := [V.ptr (yyGA42 l i), (yyGA44 l i), V.c (Value.pointer none)]) 100004 kR kR) ?_
   rw [nearI, nb, na, if_pos h1, if_neg h2, ← e0 h1]
   refine rP (V.agg [V.ptr (yyGA42 l i), (yyGA44 l i), V.c (Value.pointer none)])
 ·
  have h1 : ¬ 0 < i := by simpa using c1
  refine aw_skip ?_
  refine xt_n (hK _ ?_); clear hK K; refine sK fun K hK => ?_; refine sK fun K hK => wR 5 ?_; refine aX hTT 8 [(1, .i ((↑i : Int) + 1))] ⟨oM, tI⟩ ?_; refine nK hK ?_; clear hK K
  refine w_cond (t := decide ((↑i : Int) + 1 < (↑(List.length l) : Int))) kR (fun c2 => ?_) (fun c2 => ?_)
  ·
   have h2 : i + 1 < l.length := by simp at c2; omega
   refine wR 6 ?_; refine aX hTT 9 [(5, .i ((↑i : Int) + 1)), (6, .c ((0 : Int) ≤ (↑i : Int) + 1 ∧ (↑i : Int) + 1 < (↑(List.length l) : Int))), (8, .r (pw ((2 : Nat) + (1 : Nat) ≤ (3 : Nat)) (200005 : Nat) (Ob.box 213 [V.c (Value.pointer none), (yyGA44 l i), (yyGA43 l i)])))] ⟨oM, oM, oM, tI⟩ ?_; refine nK hK ?_; clear hK K; refine sK fun K hK => wR 7 ?_; refine aX hTT 2 [(0, .c qGA40), (1, .r (pw ((0 : Nat) + (3 : Nat) ≤ (3 : Nat)) (100004 : Nat) (Ob.box 213 [V.c (Value.pointer none), (yyGA44 l i), (yyGA43 l i)])))] ⟨qGA40_, oM, tI⟩ ?_; refine nK hK ?_; clear hK K
   refine aw_ret ?_
   refine ret_of_le (le_freezeBox (t := (213 : Nat)) (cs := [V.c (Value.pointer none), (yyGA44 l i), (yyGA43 l i)]) 200005 kR kR) ?_
   refine ret_of_le (le_freezeBox (t := (213 : Nat)) (cs := [V.c (Value.pointer none), (yyGA44 l i), (yyGA43 l i)]) 100004 kR kR) ?_
   rw [nearI, nb, na, if_neg h1, if_pos h2]
   refine rP (V.agg [V.c (Value.pointer none), (yyGA44 l i), (yyGA43 l i)])
  ·
   have h2 : ¬ i + 1 < l.length := by simp at c2; omega
   refine aw_skip ?_
   refine xt_n (hK _ ?_); clear hK K; refine sK fun K hK => wR 6 ?_; refine aX hTT 2 [(0, .c qGA40), (1, .r (pw ((0 : Nat) + (3 : Nat) ≤ (3 : Nat)) (100004 : Nat) (Ob.box 213 [V.c (Value.pointer none), (yyGA44 l i), V.c (Value.pointer none)])))] ⟨qGA40_, oM, tI⟩ ?_; refine nK hK ?_; clear hK K
   refine aw_ret ?_
   refine ret_of_le (le_freezeBox (t := (213 : Nat)) (cs := [V.c (Value.pointer none), (yyGA44 l i), V.c (Value.pointer none)]) 200005 kR kR) ?_
   refine ret_of_le (le_freezeBox (t := (213 : Nat)) (cs := [V.c (Value.pointer none), (yyGA44 l i), V.c (Value.pointer none)]) 100004 kR kR) ?_
   rw [nearI, nb, na, if_neg h1, if_neg h2]
   refine rP (V.agg [V.c (Value.pointer none), (yyGA44 l i), V.c (Value.pointer none)])
abbrev TrO (c : Cut) (l : List Pt) (r per : Int) : Ob := .box 97 (trC c l r per)
def allV (l : List Pt) : List (List V) := (List.range l.length).map fun i : Nat => [V.i i, nearI l i]
theorem allV_get {l : List Pt} {k : Nat} (h : k < l.length) : (allV l)[k]? = some [V.i k, nearI l k] := by simp [allV, h]
theorem allV_len (l : List Pt) : (allV l).length = l.length := by simp [allV]
theorem near_idf (b : Option Pt) (h : Pt) (a : Option Pt) (n : Int) : V.idfL [V.i n, gNearV b h a] = true := by cases b <;> cases a <;> rfl
theorem nearI_idf (l : List Pt) (i : Nat) : V.idf (nearI l i) = true := by
 unfold nearI
 cases nb l i <;> cases na l i <;> rfl
set_option maxRecDepth 100000 in
theorem all_it (c : Cut) (l : List Pt) (r per : Int) (hl : l.length ≤ 4096) : AIt Tryz.prog 149 [.ptr [.ptr (trC c l r per)]] (allV l) := by
 refine ait_intro hTT hMX (fn := Tryz.f149) (N := _) ⟨Tryz.func149, rfl, Tryz.ntmps149, kR⟩ rfl (by simp) fun C Y hC => ?_
 rw [allV_len]
 refine awj_seq_a hC fun K hK => ?_
 refine wR 2 ?_; refine aX hTT 6 [] tI ?_; refine nK hK ?_; clear hK K
 refine awj_block ?_
 refine awj_loop (ι := Nat) (fun k => ⟨mkT [(0, .c (.func (.yield Y.l) #[] #[])), (1, .ptr [.ptr (trC c l r per)]), (8, .i l.length), (9, .i k)], mkS [], 1⟩) (fun k => k) (fun k => k ≤ l.length) (fun k => l.length - k) 0 (Nat.zero_le _) ?_ rfl ?_
 ·
  refine le_ren [] (.cons kR (.cons kR (.cons kR (.cons kR .nil)))) .nil kR kR
 intro k hk
 refine awj_seq_a hC fun K hK => ?_
 refine wR 2 ?_; refine aX hTT 1 [] tI ?_; refine nK hK ?_; clear hK K
 refine awj_seq_a hC fun K hK => ?_
 refine w_cond (t := decide ((↑k : Int) < (↑(List.length l) : Int))) kR (fun c1 => ?_) (fun c1 => ?_)
 ·
  have h1 : k < l.length := by simpa using c1
  refine aw_skip ?_
  refine xt_n (hK _ ?_); clear hK K
  refine awj_seq ?_
  refine awj_block ?_
  refine awj_seq_a hC fun K hK => ?_
  refine wR 3 ?_; refine aX hTT 2 [] tI ?_; refine nK hK ?_; clear hK K
  refine awj_seq (awj_yield hC 5 kR rfl ?_)
  refine aX hTT 4 [] tI ?_
  refine e_call (first := []) (caps := []) (at_ac c l r per k h1 hl) kR kR kR ?_ kR ?_
  ·
   exact nearI_idf l k
  refine aops_nil ?_
  refine ⟨kR, ⟨_, allV_get h1, RImp.refl _, RImp.refl _, trivial⟩, near_idf _ _ _ _, ?_, ?_⟩
  ·
   refine aX hTT 1 [] tI ?_
   refine aops_nil ?_
   refine xjt_n ?_
   refine awj_cond (t := false) kR (fun h => by cases h) (fun _ => ?_)
   refine awj_skip ?_
   refine xjb_n ?_
   refine xjt_n ?_
   refine awj_aw hC ?_
   refine wR 5 ?_; refine aX hTT 2 [(0, .i ((↑k : Int) + 1))] ⟨oM, tI⟩ ?_; refine aops_nil ?_
   refine xjt_n ?_
   refine ⟨rfl, k + 1, by omega, ?_, rfl, by omega⟩
   refine le_ren [] (.cons kR (.cons kR (.cons kR (.cons kR .nil)))) .nil kR kR
  ·
   refine aX hTT 1 [] tI ?_
   refine aops_nil ?_
   refine xjt_n ?_
   refine awj_cond (t := true) kR (fun _ => ?_) (fun h => by cases h)
   refine awj_ret ?_
   refine xjb_r ?_
   refine xjt_r ?_
   refine xjt_r ?_
   refine xjb_r ?_
   exact ⟨.inr rfl, fun h => (by cases h), fun _ => h1⟩
 ·
  have h1 : k = l.length := by simp at c1; omega
  refine aw_exit ?_
  refine xt_x ?_
  refine xjt_x ?_
  refine xjb_same ?_
  exact ⟨.inl rfl, fun _ => h1, fun h => by cases h⟩
end Go.Proofs.YtepkjobndmmejaaGreatDoor
