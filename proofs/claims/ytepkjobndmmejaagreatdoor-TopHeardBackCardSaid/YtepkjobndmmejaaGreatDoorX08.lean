/-
  Several texts in one: Samples that are read from points, in plain Lean. Conditions: told in each theorem. .. Curves and signals that are valid: both copies. Condition: as many elements as a slice can have.
-/
import Derived.Test.YtepkjobndmmejaaGreatDoorX07
import Derived.Test.YtepkjobndmmejaaGreatDoorX06
import Derived.Test.YtepkjobndmmejaaGreatDoorX05
import Derived.Test.YtepkjobndmmejaaGreatDoorMC
import Derived.Test.YtepkjobndmmejaaGreatDoorX04
import Derived.Test.YtepkjobndmmejaaGreatDoorX01
import Derived.Test.YtepkjobndmmejaaGreatDoorMD
import Derived.Test.YtepkjobndmmejaaGreatDoorAbs42
import Derived.Test.YtepkjobndmmejaaGreatDoorX02
namespace Go.Proofs.YtepkjobndmmejaaGreatDoor
open Go.Ab Go.RowKit Go.Dw Go.Shelf
theorem chE_opp (g n : Int) : chE g (-n) = -chE g n := by unfold chE; rw [Int.neg_mul, Int.neg_tdiv]
end Go.Proofs.YtepkjobndmmejaaGreatDoor

namespace Go.Proofs.YtepkjobndmmejaaGreatDoor
open Go.Ab Go.RowKit Go.Dw Go.Shelf
theorem edge_chE (half g n : Int) : edgeI half g n = half + chE g n := rfl
theorem chE_lt {g m n : Int} (h1 : 1000 ≤ g) (h : m < n) : chE g m < chE g n := by
 have hg : 0 ≤ g := by omega
 have st : ∀ a b : Int, 0 ≤ a → a < b → chE g a < chE g b := fun a b ha hab => by
  have s1 : chE g a + 1 ≤ chE g (a + 1) := by
   rw [chE_nn hg ha, chE_nn hg oM, Int.add_mul, Int.one_mul]
   omega
  have := chE_mono' (g := g) (m := a + 1) (n := b) hg oM oM
  omega
 rcases Int.lt_or_le m 0 with hm | hm
 ·
  rcases Int.lt_or_le 0 n with hn | hn
  ·
   have a := st 0 (-m) oM oM
   have b := st 0 n oM hn
   rw [chE_opp] at a
   have : chE g 0 = 0 := by unfold chE; simp
   omega
  ·
   have a := st (-n) (-m) oM oM
   rw [chE_opp, chE_opp] at a
   omega
 ·
  exact st m n hm h
theorem fs_in {c : Cut} {half lo hi n : Int} {s : Fs} (h : s.ok c half lo hi) (hn : -32767 ≤ n ∧ n ≤ 32767) (h1 : lo ≤ edgeI half c.gain n) (h2 : edgeI half c.gain n ≤ hi) : s.F ≤ n ∧ n < s.G := by
 obtain ⟨⟨_, _, a3, a4⟩, ⟨_, _, b3, b4⟩⟩ := h
 constructor
 ·
  refine Int.not_lt.1 fun hlt => ?_
  have := a3 n hn.1 hlt
  simp at this
  omega
 ·
  refine Int.not_le.1 fun hle => ?_
  have := b4 n hle hn.2
  simp at this
  omega
theorem fs_one {c : Cut} {half n : Int} {s : Fs} (hg : 1000 ≤ c.gain) (h : s.ok c half (edgeI half c.gain n) (edgeI half c.gain n)) (hn : -32767 ≤ n ∧ n ≤ 32767) : s.F = n ∧ s.G = n + 1 := by
 obtain ⟨i1, i2⟩ := fs_in h hn (Int.le_refl _) (Int.le_refl _)
 obtain ⟨⟨a1, a2, a3, a4⟩, ⟨b1, b2, b3, b4⟩⟩ := h
 constructor
 ·
  refine Int.le_antisymm i1 (Int.not_lt.1 fun hlt => ?_)
  have h1 : edgeI half c.gain n ≤ edgeI half c.gain s.F := of_decide_eq_true (a4 s.F (Int.le_refl _) oM)
  have := chE_lt hg hlt
  rw [edge_chE, edge_chE] at h1
  omega
 ·
  refine Int.le_antisymm (Int.not_lt.1 fun hlt => ?_) oM
  have h1 : ¬ edgeI half c.gain n < edgeI half c.gain (n + 1) := of_decide_eq_false (b3 (n + 1) oM hlt)
  have := chE_lt hg (show n < n + 1 by omega)
  rw [edge_chE, edge_chE] at h1
  omega
def samplesSh : List Sh := [(.fld (.int .i64) (.fld (.int .i64) (.fld (.int .i64) (.fld (.int .i64) (.fld (.int .i64) (.fld (.int .i64) (.lst (.int .i64)))))))), (.fld (.int .i64) (.lst (.int .i64))), (.arr 4 (.int .u16))]
theorem wf_u16s {x : Int} (h : (Lit.int .u16 x).wf = true) : 0 ≤ x ∧ x ≤ 65535 := by
 simp [Lit.wf, IntKind.min, IntKind.max, IntKind.signed, IntKind.bits] at h; omega
end Go.Proofs.YtepkjobndmmejaaGreatDoor

namespace Go.Proofs.YtepkjobndmmejaaGreatDoor
open Go.Ab Go.RowKit Go.Dw Go.Shelf
theorem fs_mono {c : Cut} {half lo hi lo' hi' : Int} {s s' : Fs} (h : s.ok c half lo hi) (h' : s'.ok c half lo' hi') (hl : lo ≤ lo') (hh : hi' ≤ hi) : s.F ≤ s'.F ∧ s'.G ≤ s.G := by
 obtain ⟨⟨a1, a2, a3, a4⟩, ⟨b1, b2, b3, b4⟩⟩ := h
 obtain ⟨⟨c1, c2, c3, c4⟩, ⟨d1, d2, d3, d4⟩⟩ := h'
 constructor
 ·
  refine Int.not_lt.1 fun hlt => ?_
  have h1 : ¬ lo ≤ edgeI half c.gain s'.F := of_decide_eq_false (a3 s'.F c1 hlt)
  have h2 : lo' ≤ edgeI half c.gain s'.F := of_decide_eq_true (c4 s'.F (Int.le_refl _) oM)
  omega
 ·
  refine Int.not_lt.1 fun hlt => ?_
  have h1 : hi < edgeI half c.gain s.G := of_decide_eq_true (b4 s.G (Int.le_refl _) oM)
  have h2 : ¬ hi' < edgeI half c.gain s.G := of_decide_eq_false (d3 s.G b1 hlt)
  omega
theorem hear_pt {t : List Int} {l : List Pt} {r i : Nat} (hi : i < l.length) (hr : 0 < r) : (hearAt (readP t l) l l.length r i).1 ≤ (gp l i).1 ∧ (gp l i).1 ≤ (hearAt (readP t l) l l.length r i).2.1 ∧ (hearAt (readP t l) l l.length r i).2.2.1 ≤ (gp l i).2 ∧ (gp l i).2 ≤ (hearAt (readP t l) l l.length r i).2.2.2 := by
 have h := hear_near (a := readP t l) (b := l) (n := l.length) (r := r) (t := i) (u := i) hi (by rw [dist_self]; exact hr)
 have h1 := ((in_le (t := t) hi).1 (Int.le_refl _)).1
 have h2 := ((le_out (t := t) hi).1 (Int.le_refl _)).1
 omega
theorem read_zero (l : List Pt) : readP [0] l = l := (exact_none (miss_zero l)).1
end Go.Proofs.YtepkjobndmmejaaGreatDoor

namespace Go.Proofs.YtepkjobndmmejaaGreatDoor
open Go.Ab Go.RowKit Go.Dw Go.Shelf
end Go.Proofs.YtepkjobndmmejaaGreatDoor

namespace Go.Proofs.YtepkjobndmmejaaGreatDoor
open Go.Ab Go.RowKit Go.Dw Go.Shelf
theorem Balance_ac (l : List Pt) (hl : l.length ≤ 4611686018427387904) : AC Tryz.prog 23 [V.pts l] (.tup [.agg [.i (balArm l).1, .i (balArm l).2], .i (checkPts l)]) [] := by
 refine ac_of_calls (enters_of Tryz.func23 kR rfl) fun L w vs hL hvs => ?_
 obtain ⟨vs⟩ := vs
 obtain ⟨x1, e1, q1⟩ := hvs.get (i := 0) rfl
 obtain ⟨A, c, rfl, _, ha⟩ := R_pts_inv q1 hL
 have hn := hvs.1
 have hvs' : vs = [.slice A l.length c] := by
  match vs, hn with
  | [a], _ => simp at e1; subst e1; rfl
 subst hvs'
 refine (balance_calls A _ c l w ha hl).mono ?_
 rintro e w' ⟨rfl, hb⟩
 exact ⟨_, rfl, hb, fun _ => False, fun _ h => h.elim, .tup' (.cons (.agg' (.cons (.c _ _) rfl (.cons (.c _ _) rfl .nil))) (.cons (.c _ _) .nil))⟩
end Go.Proofs.YtepkjobndmmejaaGreatDoor

namespace Go.Proofs.YtepkjobndmmejaaGreatDoor
open Go.Ab Go.RowKit Go.Dw Go.Shelf
end Go.Proofs.YtepkjobndmmejaaGreatDoor

namespace Go.Proofs.YtepkjobndmmejaaGreatDoor
open Go.Ab Go.RowKit Go.Dw Go.Shelf
end Go.Proofs.YtepkjobndmmejaaGreatDoor

namespace Go.Proofs.YtepkjobndmmejaaGreatDoor
open Go.Ab Go.RowKit Go.Dw Go.Shelf
def bigL : Nat := 4611686018427387904
theorem tdiv_ediv (n d : Int) (hd : 1 ≤ d) : n / d = if n.tmod d < 0 then n.tdiv d - 1 else n.tdiv d := by
 have h1 := Int.mul_tdiv_add_tmod n d
 by_cases h0 : 0 ≤ n
 ·
  have h2 : 0 ≤ n.tmod d := Int.tmod_nonneg d h0
  rw [if_neg oM, Int.tdiv_eq_ediv_of_nonneg h0]
 ·
  have h2 : n.tmod d ≤ 0 := by
   have h4 := Int.tmod_nonneg (a := -n) d oM
   rw [Int.neg_tmod] at h4
   omega
  have h3 : -d < n.tmod d := by
   have h4 := Int.tmod_lt_of_pos (-n) (b := d) oM
   rw [Int.neg_tmod] at h4
   omega
  split
  ·
   rename_i h
   refine Int.ediv_eq_iff_of_pos oM |>.2 ?_
   rw [Int.sub_mul, Int.mul_comm (n.tdiv d) d]
   omega
  ·
   rename_i h
   refine Int.ediv_eq_iff_of_pos oM |>.2 ?_
   rw [Int.mul_comm (n.tdiv d) d]
   omega
theorem down_ac (n d : Int) (hn : -4611686018427387904 ≤ n ∧ n ≤ 4611686018427387904) (hd : 1 ≤ d) : AC Tryz.prog 186 [.i n, .i d] (.i (n / d)) [] := by
 refine acI hTT hMX Tryz.func186 Tryz.ntmps186 fun C hC hF => ?_
 have hb : -4611686018427387904 ≤ n.tdiv d ∧ n.tdiv d ≤ 4611686018427387904 := by
  by_cases h0 : 0 ≤ n
  ·
   rw [Int.tdiv_eq_ediv_of_nonneg h0]
   have h1 := Int.ediv_nonneg h0 (show 0 ≤ d by omega)
   have h2 := Int.ediv_le_self d h0
   omega
  ·
   have e : n.tdiv d = -((-n) / d) := by
    rw [← Int.tdiv_eq_ediv_of_nonneg oM, Int.neg_tdiv]; omega
   have h1 := Int.ediv_nonneg (a := -n) oM (show 0 ≤ d by omega)
   have h2 := Int.ediv_le_self (a := -n) d oM
   omega
 refine sK fun K hK => wR 2 ?_; refine aX hTT 1 [] tI ?_; refine nK hK ?_; clear hK K; refine sK fun K hK => wR 3 ?_; refine aX hTT 4 [(2, .c ((0 : Int) < d ∧ (-9223372036854775808 : Int) ≤ n ∧ n ≤ 9223372036854775807))] ⟨⟨oM, oM⟩, tI⟩ ?_; refine nK hK ?_; clear hK K; refine sK fun K hK => ?_; refine sK fun K hK => wR 4 ?_; refine aX hTT 4 [(2, .c (d ≠ 0))] ⟨oM, tI⟩ ?_; refine nK hK ?_; clear hK K
 refine w_cond (t := decide (Int.tmod n d < 0)) kR (fun c1 => ?_) (fun c1 => ?_)
 ·
  simp at c1
  refine wR 5 ?_; refine aX hTT 3 [(1, .i (Int.tdiv n d - 1))] ⟨oM, tI⟩ ?_; refine nK hK ?_; clear hK K; refine sK fun K hK => wR 6 ?_; refine aX hTT 2 [] tI ?_; refine nK hK ?_; clear hK K
  refine aw_ret ?_
  rw [tdiv_ediv n d hd, if_pos c1]
  refine rP (V.i (Int.tdiv n d - 1))
 ·
  simp at c1
  refine aw_skip ?_
  refine xt_n (hK _ ?_); clear hK K; refine sK fun K hK => wR 5 ?_; refine aX hTT 2 [] tI ?_; refine nK hK ?_; clear hK K
  refine aw_ret ?_
  rw [tdiv_ediv n d hd, if_neg oM]
  refine rP (V.i (Int.tdiv n d))
theorem beyond_ac (n m : Int) (hm : 0 ≤ m ∧ m ≤ 4611686018427387904) : AC Tryz.prog 142 [.i n, .i m] (.b (bey n m)) [] := by
 refine acI hTT hMX Tryz.func142 Tryz.ntmps142 fun C hC hF => ?_
 refine sK fun K hK => wR 2 ?_; refine aX hTT 1 [] tI ?_; refine nK hK ?_; clear hK K; refine sK fun K hK => wR 3 ?_; refine aX hTT 10 [(2, .i (-m)), (5, .c (gA (decide (n < -m) == false) True)), (6, .c (gA (decide (n < -m) == false) True)), (7, .c (gC (decide (n < -m) == false) True)), (8, .c (True ∧ (decide (n < -m) = false → (decide (n < -m) == false) = true)))] ⟨oM, ⟨⟨tI, tI⟩, (fun _ => tI)⟩, ⟨⟨tI, tI⟩, (fun _ => tI)⟩, ⟨⟨(by (exact fun h => h)), ⟨(by (exact fun h => h)), tI⟩⟩, (fun _ => tI)⟩, ⟨tI, (by (intro h; rw [h]; rfl))⟩, tI⟩ ?_; refine nK hK ?_; clear hK K
 refine aw_ret ?_
 unfold bey
 refine rP (V.b (decide (n < -m) || decide (m < n)))
set_option maxRecDepth 100000 in
theorem anyBeyond1_ac (n m : Int) (hm : 0 ≤ m ∧ m ≤ 4611686018427387904) : AC Tryz.prog 185 [.i n, .ptr [.i m]] (.b (bey n m)) [] := by
 refine acI hTT hMX Tryz.func185 Tryz.ntmps185 fun C hC hF => ?_
 refine sK fun K hK => wR 2 ?_; refine aX hTT 1 [] tI ?_; refine nK hK ?_; clear hK K; refine sK fun K hK => wR 3 ?_; refine aX hTT 2 [] tI ?_
 refine eC (beyond_ac n m hm) ?_
 refine aX hTT 1 [] tI ?_; refine nK hK ?_; clear hK K
 refine aw_ret ?_
 refine rP (V.b (bey n m))
theorem idx_any (l : List Int) (m : Int) : (∃ k, k < l.length ∧ bey (gi l k) m = true ∧ ∀ j, j < k → bey (gi l j) m = false) ∨ ∀ k, k < l.length → bey (gi l k) m = false := by
 by_cases h : ∃ k, k < l.length ∧ bey (gi l k) m = true
 ·
  obtain ⟨k, ⟨h1, h2⟩, h3⟩ := least _ h
  refine .inl ⟨k, h1, h2, fun j hj => ?_⟩
  cases hb : bey (gi l j) m with
  | false => rfl
  | true => have := h3 j ⟨by omega, hb⟩; omega
 ·
  refine .inr fun k hk => ?_
  cases hb : bey (gi l k) m with
  | false => rfl
  | true => exact absurd ⟨k, hk, hb⟩ h
def firstB (l : List Int) (m : Int) : Int := match (List.range l.length).find? fun k => bey (gi l k) m with
 | some k => (k : Int)
 | none => -1
theorem firstB_some {l : List Int} {m : Int} {k : Nat} (hk : k < l.length) (h : bey (gi l k) m = true) (hj : ∀ j, j < k → bey (gi l j) m = false) : firstB l m = k := by
 have : (List.range l.length).find? (fun k => bey (gi l k) m) = some k := by
  rw [List.find?_range_eq_some]
  exact ⟨h, by simpa using hk, fun j hjk => by simp [hj j hjk]⟩
 rw [firstB, this]
theorem firstB_none {l : List Int} {m : Int} (h : ∀ k, k < l.length → bey (gi l k) m = false) : firstB l m = -1 := by
 have : (List.range l.length).find? (fun k => bey (gi l k) m) = none := by
  rw [List.find?_eq_none]
  intro x hx
  simp [h x (by simpa using hx)]
 rw [firstB, this]
theorem any_gi {l : List Int} {m : Int} : (l.any fun n => bey n m) = true ↔ ∃ k, k < l.length ∧ bey (gi l k) m = true := by
 rw [List.any_eq_true]
 constructor
 ·
  rintro ⟨x, hx, h⟩
  obtain ⟨k, hk, rfl⟩ := List.getElem_of_mem hx
  exact ⟨k, hk, by rw [gi_eq hk]; exact h⟩
 ·
  rintro ⟨k, hk, h⟩
  exact ⟨l[k], List.getElem_mem _, by rw [← gi_eq hk]; exact h⟩
theorem firstB_any (l : List Int) (m : Int) : decide (0 ≤ firstB l m) = l.any fun n => bey n m := by
 rcases idx_any l m with ⟨k, hk, h, hj⟩ | h
 ·
  rw [firstB_some hk h hj, any_gi.2 ⟨k, hk, h⟩]; simp
 ·
  rw [firstB_none h]
  cases ha : l.any fun n => bey n m with
  | false => rfl
  | true =>
   obtain ⟨k, hk, hb⟩ := any_gi.1 ha
   rw [h k hk] at hb; cases hb
set_option maxRecDepth 100000 in
theorem indexBeyond_ac (l : List Int) (m : Int) (hl : l.length ≤ bigL) (hm : 0 ≤ m ∧ m ≤ 4611686018427387904) : AC Tryz.prog 198 [V.ints l, .fn (.func 185) [] [.ptr [.i m]]] (.i (firstB l m)) [] := by
 unfold bigL at hl
 refine acI hTT hMX Tryz.func198 Tryz.ntmps198 fun C hC hF => ?_
 refine sK fun K hK => wR 2 ?_; refine aX hTT 1 [] tI ?_; refine nK hK ?_; clear hK K; refine sK fun K hK => ?_; refine sK fun K hK => wR 3 ?_; refine aX hTT 3 [] tI ?_; refine nK hK ?_; clear hK K
 refine aw_block ?_
 refine w_loop (ι := Nat) (fun k => [(0, V.ints l), (1, .fn (.func 185) [] [.ptr [.i m]]), (7, .i l.length), (8, .i k)]) (fun _ => []) (fun k => k ≤ l.length ∧ ∀ j, j < k → bey (gi l j) m = false) (fun k => l.length - k) 0 ⟨Nat.zero_le _, fun j hj => by omega⟩ ?_ ?_
 ·
  refine le_ren [] (.cons kR (.cons kR (.cons kR (.cons kR .nil)))) .nil kR kR
 rintro k ⟨hk, hb⟩
 refine sK fun K hK => wR 2 ?_; refine aX hTT 1 [] tI ?_; refine nK hK ?_; clear hK K; refine sK fun K hK => ?_
 refine w_cond (t := decide ((↑k : Int) < (↑(List.length l) : Int))) kR (fun c1 => ?_) (fun c1 => ?_)
 ·
  simp at c1
  refine aw_skip ?_
  refine xt_n (hK _ ?_); clear hK K; refine sK fun K hK => ?_
  refine aw_block ?_
  refine sK fun K hK => wR 3 ?_; refine aX hTT 2 [] tI ?_; refine nK hK ?_; clear hK K; refine sK fun K hK => wR 4 ?_; refine aX hTT 5 [(3, .c ((0 : Int) ≤ (↑k : Int) ∧ (↑k : Int) < (↑(List.length l) : Int)))] ⟨oM, tI⟩ ?_
  refine e_call (first := []) (caps := [V.ptr [V.i m]]) (anyBeyond1_ac (gi l k) m hm) kR kR kR kR kR ?_
  refine nK hK ?_; clear hK K
  refine w_cond (t := bey (gi l k) m) kR (fun c2 => ?_) (fun c2 => ?_)
  ·
   refine sK fun K hK => ?_
   refine wR 5 ?_; refine aX hTT 2 [] tI ?_; refine nK hK ?_; clear hK K
   refine aw_ret ?_
   refine xb_r ?_
   refine xt_r ?_; refine xt_r ?_
   refine xb_r ?_
   refine xt_r ?_
   rw [firstB_some c1 c2 hb]
   refine rP (V.i (↑k : Int))
  ·
   refine aw_skip ?_
   refine xb_n ?_; refine xt_n (hK _ ?_); clear hK K; refine wR 5 ?_; refine aX hTT 2 [(0, .i ((↑k : Int) + 1))] ⟨oM, tI⟩ ?_; refine aops_nil ?_; refine xt_n ?_
   refine ⟨k + 1, ⟨by omega, fun j hj => ?_⟩, by refine le_ren [] (.cons kR (.cons kR (.cons kR (.cons kR .nil)))) .nil kR kR, by omega⟩
   by_cases h : j < k
   ·
    exact hb j h
   ·
    obtain rfl : j = k := by omega
    exact c2
 ·
  simp at c1
  refine aw_exit ?_
  refine xt_x ?_; refine xt_x ?_
  refine xb_same ?_
  refine xt_n ?_; clear hK K; refine hK _ ?_; clear hK K; refine sK fun K hK => wR 3 ?_; refine aX hTT 1 [] tI ?_; refine nK hK ?_; clear hK K
  refine aw_ret ?_
  rw [firstB_none fun j hj => hb j oM]
  refine rP (V.i (-1))
set_option maxRecDepth 100000 in
theorem containsBeyond_ac (l : List Int) (m : Int) (hl : l.length ≤ bigL) (hm : 0 ≤ m ∧ m ≤ 4611686018427387904) : AC Tryz.prog 184 [V.ints l, .fn (.func 185) [] [.ptr [.i m]]] (.b (l.any fun n => bey n m)) [] := by
 refine acI hTT hMX Tryz.func184 Tryz.ntmps184 fun C hC hF => ?_
 refine sK fun K hK => wR 2 ?_; refine aX hTT 1 [] tI ?_; refine nK hK ?_; clear hK K; refine sK fun K hK => wR 3 ?_; refine aX hTT 2 [] tI ?_
 refine eC (indexBeyond_ac l m hl hm) ?_
 refine aX hTT 2 [] tI ?_; refine nK hK ?_; clear hK K
 refine aw_ret ?_
 rw [← firstB_any]
 refine rP (V.b (decide ((0 : Int) ≤ firstB l m)))
set_option maxRecDepth 100000 in
theorem anyBeyond_ac (l : List Int) (m : Int) (hl : l.length ≤ bigL) (hm : 0 ≤ m ∧ m ≤ 4611686018427387904) : AC Tryz.prog 157 [V.ints l, .i m] (.b (l.any fun n => bey n m)) [] := by
 refine acI hTT hMX Tryz.func157 Tryz.ntmps157 fun C hC hF => ?_
 refine sK fun K hK => wR 2 ?_; refine aX hTT 2 [] tI ?_; refine nK hK ?_; clear hK K; refine sK fun K hK => wR 3 ?_; refine aX hTT 2 [] tI ?_
 refine eC (containsBeyond_ac l m hl hm) ?_
 refine aX hTT 1 [] tI ?_; refine nK hK ?_; clear hK K
 refine aw_ret ?_
 refine rP (V.b (List.any l fun (n : Int) => bey n m))
def sigE (l : List Int) : Int := if 4096 < l.length then 6 else if l.any fun n => bey n 32767 then 3 else 0
theorem sigE_ok {l : List Int} : sigE l = 0 ↔ l.length ≤ 4096 ∧ AllLe 32767 l := by
 unfold sigE
 rw [← any_bey]
 by_cases h : 4096 < l.length
 ·
  rw [if_pos h]; simp; omega
 ·
  rw [if_neg h]
  cases h1 : (l.any fun n => bey n 32767) <;> simp
  omega
set_option maxRecDepth 100000 in
theorem checkSignal_ac (l : List Int) (hl : l.length ≤ bigL) : AC Tryz.prog 136 [V.ints l] (.i (sigE l)) [] := by
 have hl' := hl
 unfold bigL at hl'
 refine acI hTT hMX Tryz.func136 Tryz.ntmps136 fun C hC hF => ?_
 refine sK fun K hK => wR 2 ?_; refine aX hTT 1 [] tI ?_; refine nK hK ?_; clear hK K; refine sK fun K hK => ?_; refine sK fun K hK => wR 3 ?_; refine aX hTT 3 [] tI ?_; refine nK hK ?_; clear hK K
 refine w_cond (t := decide ((4096 : Int) < (↑(List.length l) : Int))) kR (fun c1 => ?_) (fun c1 => ?_)
 ·
  simp at c1
  refine sK fun K hK => wR 4 ?_; refine aX hTT 1 [] tI ?_; refine nK hK ?_; clear hK K
  refine aw_ret ?_
  refine xt_r ?_
  rw [show sigE l = 6 by unfold sigE; rw [if_pos oM]]
  refine rP (V.i 6)
 ·
  simp at c1
  refine aw_skip ?_
  refine xt_n (hK _ ?_); clear hK K; refine sK fun K hK => ?_; refine sK fun K hK => wR 4 ?_; refine aX hTT 1 [] tI ?_
  refine eC (anyBeyond_ac l 32767 hl (by decide)) ?_
  refine nK hK ?_; clear hK K
  refine w_cond (t := List.any l fun (n : Int) => bey n (32767 : Int)) kR (fun c2 => ?_) (fun c2 => ?_)
  ·
   refine sK fun K hK => ?_
   refine wR 5 ?_; refine aX hTT 1 [] tI ?_; refine nK hK ?_; clear hK K
   refine aw_ret ?_
   refine xt_r ?_
   rw [show sigE l = 3 by unfold sigE; rw [if_neg oM, if_pos c2]]
   refine rP (V.i 3)
  ·
   refine aw_skip ?_
   refine xt_n (hK _ ?_); clear hK K; refine sK fun K hK => wR 5 ?_; refine aX hTT 1 [] tI ?_; refine nK hK ?_; clear hK K
   refine aw_ret ?_
   rw [show sigE l = 0 by unfold sigE; rw [if_neg oM, if_neg (by rw [c2]; decide)]]
   refine rP (V.i 0)
end Go.Proofs.YtepkjobndmmejaaGreatDoor
