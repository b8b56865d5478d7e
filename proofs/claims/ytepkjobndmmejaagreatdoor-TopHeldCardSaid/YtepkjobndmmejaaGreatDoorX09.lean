/-
  Several texts in one: The indexes of a list, from the first one to the last and back: what the iterator hands out. Condition: a length of at most 65536. .. Gains: fair ones, greater ones. Conditions: told in each theorem.
-/
import Derived.Test.YtepkjobndmmejaaGreatDoorAbs42
import Derived.Test.YtepkjobndmmejaaGreatDoorMC
import Derived.Test.YtepkjobndmmejaaGreatDoorX00
import Derived.Test.YtepkjobndmmejaaGreatDoorX01
import Derived.Test.YtepkjobndmmejaaGreatDoorX02
import Derived.Test.YtepkjobndmmejaaGreatDoorX08
namespace Go.Proofs.YtepkjobndmmejaaGreatDoor
open Go.Ab Go.RowKit Go.Dw Go.Shelf
attribute [local go_sem] Oper.semAt_some
def wayAt (n k : Nat) : Nat := if k + 1 < n then k + 1 else 2 * n - 3 - k
def wayB (n k : Nat) : Nat := if k + 1 < n then k else 2 * n - 2 - k
def wayE (n k : Nat) : Array Value := #[.int .i64 (wayAt n k : Nat), .int .i64 (wayB n k : Nat)]
def wayEs (n : Nat) : List (Array Value) := (List.range (2 * n - 2)).map (wayE n)
def wayV (n : Nat) : List (List V) := (List.range (2 * n - 2)).map fun k : Nat => [V.i (wayAt n k : Nat), V.i (wayB n k : Nat)]
set_option maxRecDepth 100000 in
set_option maxHeartbeats 1000000 in
theorem ways_iter (p : Addr) (n : Nat) (hn : n ≤ 65536) (w : World) (R : Nat → Prop) (l1 : p.block < w.heap.size) (h1 : w.cell? p = some (.int .i64 n)) (r1 : ¬ R p.block) :
  Iter Tryz.prog 105 #[.pointer (some p)] (wayEs n) R w := by
 intro l J Jx W hT hl hlW hJ hJx hY h0
 have hb : ∀ wr, Tch (fun k => R k ∨ k = l) W wr → wr.cell? p = some (.int .i64 n) := fun wr ht =>
  ((ht.cell (Nat.lt_of_lt_of_le l1 hT.size) (by rintro (e | e); exact r1 e; omega)).trans (hT.cell l1 r1)).trans h1
 have c1 := hb W (Tch.refl _ _)
 refine callsIn_of_wp Tryz.func105 rfl trivial ?_ rfl
 simp only [Tryz.ntmps105, List.size_toArray, List.length_cons, List.length_nil, Nat.reduceAdd, Nat.reduceSub, Array.replicate_succ, Array.replicate_zero, List.push_toArray, List.append_toArray, List.nil_append, List.cons_append]
 gi_wp2
 gi_loopw [3] (fun u wr => ∃ k : Nat, k ≤ n - 1 ∧ u = .int .i64 ((k : Int) + 1) ∧ J k wr ∧ Tch (fun k => R k ∨ k = l) W wr) (fun u wr => n + 1 - (intOf u).toNat)
 case atStart => exact ⟨0, Nat.zero_le _, rfl, h0, Tch.refl _ _⟩
 case round =>
  obtain ⟨k, hk, rfl, hJk, hTk⟩ := hrel
  have d1 := hb wr hTk
  by_cases hlt : k + 1 < n
  ·
   have hkl : k < (wayEs n).length := by simp only [wayEs, List.length_map, List.length_range]; omega
   obtain ⟨fn, tmps, assign, body, hy, hR⟩ := hY k (wayE n k) wr (by simp only [wayEs, List.length_map, List.length_range] at hkl; simp [wayEs, hkl]) hTk.size hJk
   rw [show wayE n k = #[.int .i64 ((k : Int) + 1), .int .i64 (k : Int)] by simp [wayE, wayAt, wayB, hlt]] at hy
   have e1 : (k : Int) + 1 - 1 = k := by omega
   gi_wp2
   refine hR.mono ?_
   rintro e W2 ⟨bb, rfl, hT2, hJ2, hJ3⟩
   cases bb
   rotate_left
   ·
    gi_wp2
    go_roundw
    case rel => exact ⟨k + 1, by omega, by go_num, hJ2 (by simp), hTk.trans hT2⟩
    case measure => simp [intOf]; omega
   ·
    gi_wp2
    refine bodyPost_ret (results_none rfl _ _ _) rfl ?_
    exact ⟨⟨_, rfl⟩, .inr ⟨k, hkl, hJ3 (by simp)⟩⟩
  ·
   obtain rfl : k = n - 1 := by omega
   gi_wp2
   gi_loopw [4] (fun u wr => ∃ j : Nat, j ≤ n - 1 ∧ u = .int .i64 ((n : Int) - 2 - (j : Int)) ∧ J (n - 1 + j) wr ∧ Tch (fun k => R k ∨ k = l) W wr) (fun u wr => (intOf u + 2).toNat)
   case atStart => exact ⟨0, by omega, by go_num, by rw [Nat.add_zero]; exact hJk, hTk⟩
   case round =>
    obtain ⟨j, hj, rfl, hJj, hTj⟩ := hrel
    have d2 := hb wr hTj
    by_cases hlt2 : 2 + j ≤ n
    ·
     have hkl : n - 1 + j < (wayEs n).length := by simp only [wayEs, List.length_map, List.length_range]; omega
     obtain ⟨fn, tmps, assign, body, hy, hR⟩ := hY (n - 1 + j) (wayE n (n - 1 + j)) wr (by simp only [wayEs, List.length_map, List.length_range] at hkl; simp [wayEs, hkl]) hTj.size hJj
     rw [show wayE n (n - 1 + j) = #[.int .i64 ((n : Int) - 2 - (j : Int)), .int .i64 ((n : Int) - 2 - (j : Int) + 1)] by
      have e1 : wayAt n (n - 1 + j) = n - 2 - j := by unfold wayAt; rw [if_neg (by omega)]; omega
      have e2 : wayB n (n - 1 + j) = n - 1 - j := by unfold wayB; rw [if_neg (by omega)]; omega
      rw [wayE, e1, e2, show ((n - 2 - j : Nat) : Int) = (n : Int) - 2 - (j : Int) by omega, show ((n - 1 - j : Nat) : Int) = (n : Int) - 2 - (j : Int) + 1 by omega]] at hy
     gi_wp2
     refine hR.mono ?_
     rintro e W2 ⟨bb, rfl, hT2, hJ2, hJ3⟩
     cases bb
     rotate_left
     ·
      gi_wp2
      go_roundw
      case rel => exact ⟨j + 1, by omega, by go_num, by rw [← Nat.add_assoc]; exact hJ2 (by simp), hTj.trans hT2⟩
      case measure => simp [intOf]; omega
     ·
      gi_wp2
      refine bodyPost_ret (results_none rfl _ _ _) rfl ?_
      exact ⟨⟨_, rfl⟩, .inr ⟨n - 1 + j, hkl, hJ3 (by simp)⟩⟩
    ·
     have he : n - 1 + j = (wayEs n).length := by simp only [wayEs, List.length_map, List.length_range]; omega
     gi_wp2
     go_end0
     exact ⟨⟨_, rfl⟩, .inl (by rw [← he]; exact hJj)⟩
set_option maxRecDepth 100000 in
theorem ways_ac (n : Int) : AC Tryz.prog 79 [.i n] (.fn (.func 105) [] [.ptr [.i n]]) [] := by
 refine acI hTT hMX Tryz.func79 Tryz.ntmps79 fun C hC hF => ?_
 refine aw_seq_k fun K hK => wR 2 ?_; refine aX hTT 2 [] True.intro ?_; refine aops_nil (xt_n (hK _ ?_)); clear hK K; refine aw_seq_k fun K hK => wR 3 ?_; refine aX hTT 2 [] True.intro ?_; refine aops_nil (xt_n (hK _ ?_)); clear hK K
 refine aw_ret ?_
 refine rP (V.fn (Fn.func (105 : Nat)) [] [V.ptr [V.i n]])
theorem ways_aiter (n : Nat) (hn : n ≤ 65536) : AIter Tryz.prog 105 [.ptr [.i n]] (wayV n) := by
 refine ⟨enters_of Tryz.func105 (by kernel_rfl) rfl, fun L w lb hL hlb => ?_⟩
 refine ⟨wayEs n, by simp [wayEs, wayV], fun k v x hv hx => ?_, fun R hR => ?_⟩
 ·
  simp only [wayV, wayEs, List.getElem?_map, Option.map_eq_some_iff] at hv hx
  obtain ⟨k1, h1, rfl⟩ := hv
  obtain ⟨k2, h2, rfl⟩ := hx
  rw [h1] at h2; injection h2 with h2; subst h2
  exact .cons (.c _ _) (.cons (.c _ _) .nil)
 ·
  obtain ⟨lb⟩ := lb
  obtain ⟨x1, e1, q1⟩ := hlb.get (i := 0) rfl
  obtain ⟨b1, o1, rfl, hb1, hc1⟩ := q1.ptr_inv
  obtain ⟨y1, g1, _, t1⟩ := hc1 0 _ rfl
  rw [t1.c_inv] at g1
  have hlen := hlb.1
  obtain rfl : lb = [.pointer (some ⟨b1, o1, none⟩)] := by
   match lb, hlen with
   | [a], _ => simp at e1; subst e1; rfl
  exact ways_iter _ n hn w R (hL b1 hb1) (by simpa using g1) (fun h => (hR _ h).2 hb1)
end Go.Proofs.YtepkjobndmmejaaGreatDoor

namespace Go.Proofs.YtepkjobndmmejaaGreatDoor
open Go.Ab Go.RowKit Go.Dw Go.Shelf
def amtS (p : Pt) : Int := max (max (max p.1 (-p.1)) p.2) (-p.2)
def needI (p : Pt) (c : Int) : Int := if amtS p = 0 then 256 else min 256 ((256 * (c + 1) - 1) / amtS p)
def withI (n g : Int) : Int := (n * g).tdiv 256
def absI (n : Int) : Int := max n (-n)
theorem amtS_bd {p : Pt} {m : Int} (h : (-m ≤ p.1 ∧ p.1 ≤ m) ∧ (-m ≤ p.2 ∧ p.2 ≤ m)) : 0 ≤ amtS p ∧ amtS p ≤ m := by unfold amtS; omega
theorem tdiv_abs (n : Int) : absI (n.tdiv 256) = absI n / 256 := by
 unfold absI
 by_cases h : 0 ≤ n
 ·
  rw [Int.tdiv_eq_ediv_of_nonneg h]; omega
 ·
  have e : n.tdiv 256 = -((-n) / 256) := by rw [← Int.tdiv_eq_ediv_of_nonneg (by omega), Int.neg_tdiv]; omega
  rw [e]; omega
theorem absI_mul {n g : Int} (hg : 0 ≤ g) : absI (n * g) = absI n * g := by
 unfold absI
 by_cases h : 0 ≤ n
 ·
  have h1 := Int.mul_nonneg h hg
  rw [Int.max_eq_left (by omega), Int.max_eq_left (by omega)]
 ·
  have h1 := Int.mul_nonneg (show 0 ≤ -n by omega) hg
  rw [Int.neg_mul] at h1
  rw [Int.max_eq_right (by omega), Int.max_eq_right (by omega), Int.neg_mul]
theorem withI_abs {n g : Int} (hg : 0 ≤ g) : absI (withI n g) = absI n * g / 256 := by rw [withI, tdiv_abs, absI_mul hg]
def okG (p : Pt) (c g : Int) : Bool := !(decide (c < absI (withI p.1 g)) || decide (c < absI (withI p.2 g)))
theorem amtS_max (p : Pt) : amtS p = max (absI p.1) (absI p.2) := by unfold amtS absI; omega
theorem absI_nonneg (n : Int) : 0 ≤ absI n := by unfold absI; omega
theorem okG_iff {p : Pt} {c g : Int} (hg : 0 ≤ g) : okG p c g = true ↔ amtS p * g ≤ 256 * (c + 1) - 1 := by
 have e : amtS p * g = max (absI p.1 * g) (absI p.2 * g) := by
  rw [amtS_max]
  by_cases h : absI p.1 ≤ absI p.2
  ·
   rw [Int.max_eq_right h, Int.max_eq_right (Int.mul_le_mul_of_nonneg_right h hg)]
  ·
   rw [Int.max_eq_left (by omega), Int.max_eq_left (Int.mul_le_mul_of_nonneg_right (by omega) hg)]
 unfold okG
 rw [withI_abs hg, withI_abs hg, e]
 simp
 omega
theorem needI_bd {p : Pt} {c : Int} (hc : 1 ≤ c) (h : 0 ≤ amtS p) : 0 ≤ needI p c ∧ needI p c ≤ 256 := by
 unfold needI
 split
 ·
  omega
 ·
  have := Int.ediv_nonneg (a := 256 * (c + 1) - 1) (b := amtS p) (by omega) h
  omega
theorem needI_iff {p : Pt} {c g : Int} (hc : 1 ≤ c) (h : 0 ≤ amtS p) (hg : 0 ≤ g ∧ g ≤ 256) : okG p c g = true ↔ g ≤ needI p c := by
 rw [okG_iff hg.1]
 unfold needI
 split
 ·
  rename_i h0; rw [h0]; simp; omega
 ·
  rename_i h0
  have h1 : 0 < amtS p := by omega
  constructor
  ·
   intro h2
   have : g ≤ (256 * (c + 1) - 1) / amtS p := Int.le_ediv_of_mul_le h1 (by rw [Int.mul_comm]; exact h2)
   omega
  ·
   intro h2
   have : g ≤ (256 * (c + 1) - 1) / amtS p := by omega
   have := Int.mul_le_of_le_ediv h1 this
   rw [Int.mul_comm]; exact this
def gUp (n : List Int) (s : Int) (t : Nat) : Nat → Int
 | 0 => gi n t
 | u + 1 => min (gUp n s t u) (gi n u + s * absI ((t : Int) - (u : Int)))
def gainAt (n : List Int) (s : Int) (t : Nat) : Int := gUp n s t n.length
def gainL (n : List Int) (s : Int) : List Int := (List.range n.length).map (gainAt n s)
theorem gainL_len (n : List Int) (s : Int) : (gainL n s).length = n.length := by simp [gainL]
theorem gainL_gi {n : List Int} {s : Int} {t : Nat} (h : t < n.length) : gi (gainL n s) t = gainAt n s t := by simp [gainL, gi, h]
theorem gUp_le (n : List Int) (s : Int) (t : Nat) : ∀ m, gUp n s t m ≤ gi n t ∧ ∀ u, u < m → gUp n s t m ≤ gi n u + s * absI ((t : Int) - (u : Int))
 | 0 => ⟨Int.le_refl _, fun u h => by omega⟩
 | m + 1 => by
  obtain ⟨h1, h2⟩ := gUp_le n s t m
  rw [gUp]
  refine ⟨by omega, fun u hu => ?_⟩
  by_cases h : u < m
  ·
   have := h2 u h; omega
  ·
   obtain rfl : u = m := by omega
   omega
theorem gUp_eq {n : List Int} {s : Int} {t : Nat} : ∀ m, gUp n s t m = gi n t ∨ ∃ u, u < m ∧ gUp n s t m = gi n u + s * absI ((t : Int) - (u : Int))
 | 0 => .inl rfl
 | m + 1 => by
  rw [gUp]
  by_cases h : gUp n s t m ≤ gi n m + s * absI ((t : Int) - (m : Int))
  ·
   rw [Int.min_eq_left h]
   rcases gUp_eq m with h1 | ⟨u, h1, h2⟩
   ·
    exact .inl h1
   ·
    exact .inr ⟨u, by omega, h2⟩
  ·
   rw [Int.min_eq_right (by omega)]
   exact .inr ⟨m, by omega, rfl⟩
theorem gainAt_le {n : List Int} {s : Int} {t : Nat} {u : Nat} (hu : u < n.length) : gainAt n s t ≤ gi n u + s * absI ((t : Int) - (u : Int)) := (gUp_le n s t n.length).2 u hu
theorem gainAt_eq {n : List Int} {s : Int} {t : Nat} (ht : t < n.length) : ∃ u, u < n.length ∧ gainAt n s t = gi n u + s * absI ((t : Int) - (u : Int)) := by
 rcases gUp_eq (n := n) (s := s) (t := t) n.length with h | h
 ·
  exact ⟨t, ht, by rw [gainAt, h]; simp [absI]⟩
 ·
  exact h
theorem gain_step {n : List Int} {s : Int} (hs : 0 ≤ s) {t t' : Nat} (ht : t < n.length) (h1 : t' = t + 1 ∨ t = t' + 1) : gainAt n s t' ≤ gainAt n s t + s := by
 obtain ⟨u, hu, he⟩ := gainAt_eq (s := s) ht
 have h2 := gainAt_le (s := s) (t := t') hu
 have h3 : s * absI ((t' : Int) - (u : Int)) ≤ s * (absI ((t : Int) - (u : Int)) + 1) := Int.mul_le_mul_of_nonneg_left (by unfold absI; omega) hs
 rw [Int.mul_add, Int.mul_one] at h3
 omega
def pA (n : List Int) (s : Int) : Nat → Int
 | 0 => gi n 0
 | j + 1 => min (gi n (j + 1)) (pA n s j + s)
def pB (n : List Int) (s : Int) : Nat → Int
 | 0 => pA n s (n.length - 1)
 | i + 1 => min (pA n s (n.length - 2 - i)) (pB n s i + s)
def wayF (n : List Int) (s : Int) : Nat → Nat → Int
 | 0 => gi n
 | k + 1 => fun j => if j = wayAt n.length k then min (wayF n s k j) (wayF n s k (wayB n.length k) + s) else wayF n s k j
theorem wayF_a {n : List Int} {s : Int} : ∀ {k : Nat}, k + 1 ≤ n.length → ∀ j, wayF n s k j = if j ≤ k then pA n s j else gi n j
 | 0, _, j => by
  rw [wayF]
  split
  ·
   obtain rfl : j = 0 := by omega
   rfl
  ·
   rfl
 | k + 1, h, j => by
  have ih := wayF_a (n := n) (s := s) (k := k) (by omega)
  have e1 : wayAt n.length k = k + 1 := by unfold wayAt; rw [if_pos (by omega)]
  have e2 : wayB n.length k = k := by unfold wayB; rw [if_pos (by omega)]
  simp only [wayF, e1, e2, ih]
  by_cases hj : j = k + 1
  ·
   subst hj
   rw [if_pos rfl, if_neg (by omega), if_pos (Nat.le_refl k), if_pos (by omega), pA]
  ·
   rw [if_neg hj]
   by_cases hk : j ≤ k
   ·
    rw [if_pos hk, if_pos (by omega)]
   ·
    rw [if_neg hk, if_neg (by omega)]
theorem wayF_b {n : List Int} {s : Int} (h0 : 0 < n.length) : ∀ {i : Nat}, i + 1 ≤ n.length → ∀ j, j < n.length → wayF n s (n.length - 1 + i) j = if n.length - 1 - i ≤ j then pB n s (n.length - 1 - j) else pA n s j
 | 0, _, j, hj => by
  rw [Nat.add_zero, wayF_a (by omega), if_pos (by omega)]
  split
  ·
   obtain rfl : j = n.length - 1 := by omega
   rw [Nat.sub_self]; rfl
  ·
   rfl
 | i + 1, h, j, hj => by
  have ih := wayF_b (n := n) (s := s) h0 (i := i) (by omega)
  have e1 : wayAt n.length (n.length - 1 + i) = n.length - 2 - i := by unfold wayAt; rw [if_neg (by omega)]; omega
  have e2 : wayB n.length (n.length - 1 + i) = n.length - 1 - i := by unfold wayB; rw [if_neg (by omega)]; omega
  rw [← Nat.add_assoc]
  simp only [wayF, e1, e2]
  by_cases hj2 : j = n.length - 2 - i
  ·
   subst hj2
   rw [if_pos rfl, ih _ hj, ih _ (by omega), if_neg (by omega), if_pos (Nat.le_refl _), if_pos (by omega)]
   rw [show n.length - 1 - (n.length - 2 - i) = i + 1 by omega, show n.length - 1 - (n.length - 1 - i) = i by omega, pB]
  ·
   rw [if_neg hj2, ih _ hj]
   by_cases hk : n.length - 1 - i ≤ j
   ·
    rw [if_pos hk, if_pos (by omega)]
   ·
    rw [if_neg hk, if_neg (by omega)]
theorem pA_le {n : List Int} {s : Int} : ∀ {j : Nat} (u : Nat), u ≤ j → pA n s j ≤ gi n u + s * ((j : Int) - (u : Int))
 | 0, u, h => by
  obtain rfl : u = 0 := by omega
  simp [pA]
 | j + 1, u, h => by
  rw [pA]
  by_cases hu : u = j + 1
  ·
   subst hu; simp; omega
  ·
   have ih := pA_le (n := n) (s := s) (j := j) u (by omega)
   have e : s * (((j + 1 : Nat) : Int) - (u : Int)) = s * ((j : Int) - (u : Int)) + s := by rw [show ((j + 1 : Nat) : Int) - (u : Int) = ((j : Int) - (u : Int)) + 1 by omega, Int.mul_add, Int.mul_one]
   omega
theorem pA_eq {n : List Int} {s : Int} : ∀ j : Nat, ∃ u, u ≤ j ∧ pA n s j = gi n u + s * ((j : Int) - (u : Int))
 | 0 => ⟨0, by omega, by simp [pA]⟩
 | j + 1 => by
  rw [pA]
  by_cases h : gi n (j + 1) ≤ pA n s j + s
  ·
   exact ⟨j + 1, by omega, by rw [Int.min_eq_left h]; simp⟩
  ·
   obtain ⟨u, h1, h2⟩ := pA_eq (n := n) (s := s) j
   refine ⟨u, by omega, ?_⟩
   rw [Int.min_eq_right (by omega), h2, show ((j + 1 : Nat) : Int) - (u : Int) = ((j : Int) - (u : Int)) + 1 by omega, Int.mul_add, Int.mul_one]
   omega
theorem gain_pA {n : List Int} {s : Int} {j : Nat} (hj : j < n.length) : gainAt n s j ≤ pA n s j := by
 obtain ⟨u, h1, h2⟩ := pA_eq (n := n) (s := s) j
 have h3 := gainAt_le (n := n) (s := s) (t := j) (u := u) (by omega)
 rw [show absI ((j : Int) - (u : Int)) = (j : Int) - (u : Int) by unfold absI; omega] at h3
 omega
theorem pB_gain {n : List Int} {s : Int} (hs : 0 ≤ s) (h0 : 0 < n.length) : ∀ {i : Nat}, i < n.length → pB n s i = gainAt n s (n.length - 1 - i) := by
 have low : ∀ i, i < n.length → gainAt n s (n.length - 1 - i) ≤ pB n s i := by
  intro i
  induction i with
  | zero => intro _; rw [pB]; exact gain_pA (by omega)
  | succ i ih =>
   intro hi
   have h1 := ih (by omega)
   have h2 := gain_pA (n := n) (s := s) (j := n.length - 2 - i) (by omega)
   have h3 := gain_step (n := n) hs (t := n.length - 1 - i) (t' := n.length - 2 - i) (by omega) (by omega)
   rw [pB, show n.length - 1 - (i + 1) = n.length - 2 - i by omega]
   omega
 have up : ∀ i, i < n.length → ∀ u, u < n.length → pB n s i ≤ gi n u + s * absI (((n.length - 1 - i : Nat) : Int) - (u : Int)) := by
  intro i
  induction i with
  | zero =>
   intro _ u hu
   have := pA_le (n := n) (s := s) (j := n.length - 1) u (by omega)
   rw [pB, Nat.sub_zero, show absI (((n.length - 1 : Nat) : Int) - (u : Int)) = ((n.length - 1 : Nat) : Int) - (u : Int) by unfold absI; omega]
   exact this
  | succ i ih =>
   intro hi u hu
   rw [pB, show n.length - 1 - (i + 1) = n.length - 2 - i by omega]
   by_cases h : u ≤ n.length - 2 - i
   ·
    have := pA_le (n := n) (s := s) (j := n.length - 2 - i) u h
    rw [show absI (((n.length - 2 - i : Nat) : Int) - (u : Int)) = ((n.length - 2 - i : Nat) : Int) - (u : Int) by unfold absI; omega]
    omega
   ·
    have h1 := ih (by omega) u hu
    rw [show absI (((n.length - 1 - i : Nat) : Int) - (u : Int)) = (u : Int) - ((n.length - 1 - i : Nat) : Int) by unfold absI; omega] at h1
    rw [show absI (((n.length - 2 - i : Nat) : Int) - (u : Int)) = ((u : Int) - ((n.length - 1 - i : Nat) : Int)) + 1 by unfold absI; omega, Int.mul_add, Int.mul_one]
    omega
 intro i hi
 obtain ⟨u, hu, he⟩ := gainAt_eq (n := n) (s := s) (t := n.length - 1 - i) (by omega)
 have h1 := low i hi
 have h2 := up i hi u hu
 omega
theorem wayF_gain {n : List Int} {s : Int} (hs : 0 ≤ s) {j : Nat} (hj : j < n.length) : wayF n s (2 * n.length - 2) j = gainAt n s j := by
 rw [show 2 * n.length - 2 = n.length - 1 + (n.length - 1) by omega, wayF_b (by omega) (by omega) j hj, if_pos (by omega), pB_gain hs (by omega) (by omega)]
 congr 1
 omega
end Go.Proofs.YtepkjobndmmejaaGreatDoor

namespace Go.Proofs.YtepkjobndmmejaaGreatDoor
open Go.Ab Go.RowKit Go.Dw Go.Shelf
def loudB (p : Pt) (m : Int) : Bool := bey p.1 m || bey p.2 m
theorem loudB_no {p : Pt} {m : Int} : loudB p m = false ↔ (-m ≤ p.1 ∧ p.1 ≤ m) ∧ (-m ≤ p.2 ∧ p.2 ≤ m) := by
 unfold loudB; rw [Bool.or_eq_false_iff, bey_no, bey_no]
def progE (l : List Pt) : Int := if 4096 < l.length then 6 else if l.any fun p => loudB p 32767 then 3 else 0
theorem any_gp {l : List Pt} {m : Int} : (l.any fun p => loudB p m) = true ↔ ∃ k, k < l.length ∧ loudB (gp l k) m = true := by
 rw [List.any_eq_true]
 constructor
 ·
  rintro ⟨x, hx, h⟩
  obtain ⟨k, hk, rfl⟩ := List.getElem_of_mem hx
  exact ⟨k, hk, by rw [gp_eq hk]; exact h⟩
 ·
  rintro ⟨k, hk, h⟩
  exact ⟨l[k], List.getElem_mem _, by rw [← gp_eq hk]; exact h⟩
theorem any_gp_no {l : List Pt} {m : Int} : (l.any fun p => loudB p m) = false ↔ ∀ k, k < l.length → loudB (gp l k) m = false := by
 constructor
 ·
  intro h k hk
  cases hb : loudB (gp l k) m with
  | false => rfl
  | true => rw [any_gp.2 ⟨k, hk, hb⟩] at h; cases h
 ·
  intro h
  cases hb : l.any fun p => loudB p m with
  | false => rfl
  | true =>
   obtain ⟨k, hk, h2⟩ := any_gp.1 hb
   rw [h k hk] at h2; cases h2
theorem progE_ok {l : List Pt} : progE l = 0 ↔ l.length ≤ 4096 ∧ ∀ k, k < l.length → (-32767 ≤ (gp l k).1 ∧ (gp l k).1 ≤ 32767) ∧ (-32767 ≤ (gp l k).2 ∧ (gp l k).2 ≤ 32767) := by
 unfold progE
 by_cases h : 4096 < l.length
 ·
  rw [if_pos h]; simp; omega
 ·
  rw [if_neg h]
  have e : (∀ k, k < l.length → (-32767 ≤ (gp l k).1 ∧ (gp l k).1 ≤ 32767) ∧ (-32767 ≤ (gp l k).2 ∧ (gp l k).2 ≤ 32767)) ↔ (l.any fun p => loudB p 32767) = false := by
   rw [any_gp_no]
   exact ⟨fun h k hk => loudB_no.2 (h k hk), fun h k hk => loudB_no.1 (h k hk)⟩
  rw [e]
  cases (l.any fun p => loudB p 32767) <;> simp
  omega
set_option maxRecDepth 100000 in
theorem loud_ac (p : Pt) (m : Int) (hm : 0 ≤ m ∧ m ≤ 4611686018427387904) : AC Tryz.prog 123 [.agg [.i p.1, .i p.2], .i m] (.b (loudB p m)) [] := by
 refine acI hTT hMX Tryz.func123 Tryz.ntmps123 fun C hC hF => ?_
 refine aw_seq_k fun K hK => wR 2 ?_; refine aX hTT 2 [] True.intro ?_; refine aops_nil (xt_n (hK _ ?_)); clear hK K; refine aw_seq_k fun K hK => wR 3 ?_; refine aX hTT 3 [] True.intro ?_
 refine eC (beyond_ac p.1 m hm) ?_
 refine aX hTT 4 [(1, .c (gA (bey (Prod.fst p) m == false) True)), (2, .c (gB (bey (Prod.fst p) m == false) True)), (3, .c (gA (bey (Prod.fst p) m == false) True))] ⟨⟨⟨True.intro, True.intro⟩, (fun _ => True.intro)⟩, ⟨⟨(by (exact fun h => h)), True.intro⟩, (fun _ => True.intro)⟩, ⟨⟨True.intro, True.intro⟩, (fun _ => True.intro)⟩, True.intro⟩ ?_
 refine eG 2 (g := bey (Prod.fst p) m == false) (fun h => beyond_ac p.2 m hm) ?_
 refine aX hTT 2 [(0, .c (True ∧ (bey (Prod.fst p) m = false → (bey (Prod.fst p) m == false) = true)))] ⟨⟨True.intro, (by (intro h; rw [h]; rfl))⟩, True.intro⟩ ?_; refine aops_nil (xt_n (hK _ ?_)); clear hK K
 refine aw_ret ?_
 refine rP (V.b (bey (Prod.fst p) m || bey (Prod.snd p) m))
set_option maxRecDepth 100000 in
theorem checkProgramme1_ac (p : Pt) : AC Tryz.prog 122 [.agg [.i p.1, .i p.2]] (.b (loudB p 32767)) [] := by
 refine acI hTT hMX Tryz.func122 Tryz.ntmps122 fun C hC hF => ?_
 refine aw_seq_k fun K hK => wR 2 ?_; refine aX hTT 2 [] True.intro ?_; refine aops_nil (xt_n (hK _ ?_)); clear hK K; refine aw_seq_k fun K hK => wR 3 ?_; refine aX hTT 1 [] True.intro ?_
 refine eC (loud_ac p 32767 (by decide)) ?_
 refine aX hTT 1 [] True.intro ?_; refine aops_nil (xt_n (hK _ ?_)); clear hK K
 refine aw_ret ?_
 refine rP (V.b (loudB p (32767 : Int)))
def firstP (l : List Pt) (m : Int) : Int := match (List.range l.length).find? fun k => loudB (gp l k) m with
 | some k => (k : Int)
 | none => -1
theorem firstP_some {l : List Pt} {m : Int} {k : Nat} (hk : k < l.length) (h : loudB (gp l k) m = true) (hj : ∀ j, j < k → loudB (gp l j) m = false) : firstP l m = k := by
 have : (List.range l.length).find? (fun k => loudB (gp l k) m) = some k := by
  rw [List.find?_range_eq_some]
  exact ⟨h, by simpa using hk, fun j hjk => by simp [hj j hjk]⟩
 rw [firstP, this]
theorem firstP_none {l : List Pt} {m : Int} (h : ∀ k, k < l.length → loudB (gp l k) m = false) : firstP l m = -1 := by
 have : (List.range l.length).find? (fun k => loudB (gp l k) m) = none := by
  rw [List.find?_eq_none]
  intro x hx
  simp [h x (by simpa using hx)]
 rw [firstP, this]
theorem firstP_any (l : List Pt) (m : Int) : decide (0 ≤ firstP l m) = l.any fun p => loudB p m := by
 by_cases h : ∃ k, k < l.length ∧ loudB (gp l k) m = true
 ·
  obtain ⟨k, ⟨h1, h2⟩, h3⟩ := least _ h
  rw [any_gp.2 ⟨k, h1, h2⟩, firstP_some h1 h2 fun j hj => by
   cases hb : loudB (gp l j) m with
   | false => rfl
   | true => have := h3 j ⟨by omega, hb⟩; omega]
  simp
 ·
  have h2 : ∀ k, k < l.length → loudB (gp l k) m = false := fun k hk => by
   cases hb : loudB (gp l k) m with
   | false => rfl
   | true => exact absurd ⟨k, hk, hb⟩ h
  rw [firstP_none h2, any_gp_no.2 h2]; rfl
set_option maxRecDepth 100000 in
theorem indexLoud_ac (l : List Pt) (hl : l.length ≤ bigL) : AC Tryz.prog 141 [V.pts l, .fn (.func 122) [] []] (.i (firstP l 32767)) [] := by
 unfold bigL at hl
 refine acI hTT hMX Tryz.func141 Tryz.ntmps141 fun C hC hF => ?_
 refine aw_seq_k fun K hK => wR 2 ?_; refine aX hTT 1 [] True.intro ?_; refine aops_nil (xt_n (hK _ ?_)); clear hK K; refine aw_seq_k fun K hK => ?_; refine aw_seq_k fun K hK => wR 3 ?_; refine aX hTT 3 [] True.intro ?_; refine aops_nil (xt_n (hK _ ?_)); clear hK K
 refine aw_block ?_
 refine w_loop (ι := Nat) (fun k => [(0, V.pts l), (1, .fn (.func 122) [] []), (7, .i l.length), (8, .i k)]) (fun _ => []) (fun k => k ≤ l.length ∧ ∀ j, j < k → loudB (gp l j) 32767 = false) (fun k => l.length - k) 0 ⟨Nat.zero_le _, fun j hj => by omega⟩ ?_ ?_
 ·
  refine le_ren [] (.cons (by kernel_rfl) (.cons (by kernel_rfl) (.cons (by kernel_rfl) (.cons (by kernel_rfl) .nil)))) .nil (by kernel_rfl) (by kernel_rfl)
 rintro k ⟨hk, hb⟩
 refine aw_seq_k fun K hK => wR 2 ?_; refine aX hTT 1 [] True.intro ?_; refine aops_nil (xt_n (hK _ ?_)); clear hK K; refine aw_seq_k fun K hK => ?_
 refine w_cond (t := decide ((↑k : Int) < (↑(List.length l) : Int))) (by kernel_rfl) (fun c1 => ?_) (fun c1 => ?_)
 ·
  simp at c1
  refine aw_skip ?_
  refine xt_n (hK _ ?_); clear hK K; refine aw_seq_k fun K hK => ?_
  refine aw_block ?_
  refine aw_seq_k fun K hK => wR 3 ?_; refine aX hTT 2 [] True.intro ?_; refine aops_nil (xt_n (hK _ ?_)); clear hK K; refine aw_seq_k fun K hK => wR 4 ?_; refine aX hTT 5 [(3, .c ((0 : Int) ≤ (↑k : Int) ∧ (↑k : Int) < (↑(List.length l) : Int)))] ⟨(by omega), True.intro⟩ ?_
  refine eC (checkProgramme1_ac (gp l k)) ?_
  refine aops_nil (xt_n (hK _ ?_)); clear hK K
  refine w_cond (t := loudB (gp l k) (32767 : Int)) (by kernel_rfl) (fun c2 => ?_) (fun c2 => ?_)
  ·
   refine aw_seq_k fun K hK => ?_
   refine wR 5 ?_; refine aX hTT 2 [] True.intro ?_; refine aops_nil (xt_n (hK _ ?_)); clear hK K
   refine aw_ret ?_
   refine xb_r ?_
   refine xt_r ?_; refine xt_r ?_
   refine xb_r ?_
   refine xt_r ?_
   rw [firstP_some c1 c2 hb]
   refine rP (V.i (↑k : Int))
  ·
   refine aw_skip ?_
   refine xb_n ?_; refine xt_n (hK _ ?_); clear hK K; refine wR 5 ?_; refine aX hTT 2 [(0, .i ((↑k : Int) + (1 : Int)))] ⟨(by omega), True.intro⟩ ?_; refine aops_nil ?_; refine xt_n ?_
   refine ⟨k + 1, ⟨by omega, fun j hj => ?_⟩, by refine le_ren [] (.cons (by kernel_rfl) (.cons (by kernel_rfl) (.cons (by kernel_rfl) (.cons (by kernel_rfl) .nil)))) .nil (by kernel_rfl) (by kernel_rfl), by omega⟩
   by_cases h : j < k
   ·
    exact hb j h
   ·
    obtain rfl : j = k := by omega
    exact c2
 ·
  simp at c1
  refine aw_exit ?_
  refine xt_x ?_; refine xt_x ?_
  refine xb_same ?_
  refine xt_n ?_; clear hK K; refine hK _ ?_; clear hK K; refine aw_seq_k fun K hK => wR 3 ?_; refine aX hTT 1 [] True.intro ?_; refine aops_nil (xt_n (hK _ ?_)); clear hK K
  refine aw_ret ?_
  rw [firstP_none fun j hj => hb j (by omega)]
  refine rP (V.i (-1))
set_option maxRecDepth 100000 in
theorem containsLoud_ac (l : List Pt) (hl : l.length ≤ bigL) : AC Tryz.prog 121 [V.pts l, .fn (.func 122) [] []] (.b (l.any fun p => loudB p 32767)) [] := by
 refine acI hTT hMX Tryz.func121 Tryz.ntmps121 fun C hC hF => ?_
 refine aw_seq_k fun K hK => wR 2 ?_; refine aX hTT 1 [] True.intro ?_; refine aops_nil (xt_n (hK _ ?_)); clear hK K; refine aw_seq_k fun K hK => wR 3 ?_; refine aX hTT 2 [] True.intro ?_
 refine eC (indexLoud_ac l hl) ?_
 refine aX hTT 2 [] True.intro ?_; refine aops_nil (xt_n (hK _ ?_)); clear hK K
 refine aw_ret ?_
 rw [← firstP_any]
 refine rP (V.b (decide ((0 : Int) ≤ firstP l (32767 : Int))))
set_option maxRecDepth 100000 in
theorem checkProgramme_ac (l : List Pt) (hl : l.length ≤ bigL) : AC Tryz.prog 103 [V.pts l] (.i (progE l)) [] := by
 have hl' := hl
 unfold bigL at hl'
 refine acI hTT hMX Tryz.func103 Tryz.ntmps103 fun C hC hF => ?_
 refine aw_seq_k fun K hK => wR 2 ?_; refine aX hTT 1 [] True.intro ?_; refine aops_nil (xt_n (hK _ ?_)); clear hK K; refine aw_seq_k fun K hK => ?_; refine aw_seq_k fun K hK => wR 3 ?_; refine aX hTT 3 [] True.intro ?_; refine aops_nil (xt_n (hK _ ?_)); clear hK K
 refine w_cond (t := decide ((4096 : Int) < (↑(List.length l) : Int))) (by kernel_rfl) (fun c1 => ?_) (fun c1 => ?_)
 ·
  simp at c1
  refine aw_seq_k fun K hK => wR 4 ?_; refine aX hTT 1 [] True.intro ?_; refine aops_nil (xt_n (hK _ ?_)); clear hK K
  refine aw_ret ?_
  refine xt_r ?_
  rw [show progE l = 6 by unfold progE; rw [if_pos (by omega)]]
  refine rP (V.i 6)
 ·
  simp at c1
  refine aw_skip ?_
  refine xt_n (hK _ ?_); clear hK K; refine aw_seq_k fun K hK => ?_; refine aw_seq_k fun K hK => wR 4 ?_; refine aX hTT 1 [] True.intro ?_
  refine eC (containsLoud_ac l hl) ?_
  refine aops_nil (xt_n (hK _ ?_)); clear hK K
  refine w_cond (t := List.any l fun (p : Pt) => loudB p (32767 : Int)) (by kernel_rfl) (fun c2 => ?_) (fun c2 => ?_)
  ·
   refine aw_seq_k fun K hK => ?_
   refine wR 5 ?_; refine aX hTT 1 [] True.intro ?_; refine aops_nil (xt_n (hK _ ?_)); clear hK K
   refine aw_ret ?_
   refine xt_r ?_
   rw [show progE l = 3 by unfold progE; rw [if_neg (by omega), if_pos c2]]
   refine rP (V.i 3)
  ·
   refine aw_skip ?_
   refine xt_n (hK _ ?_); clear hK K; refine aw_seq_k fun K hK => wR 5 ?_; refine aX hTT 1 [] True.intro ?_; refine aops_nil (xt_n (hK _ ?_)); clear hK K
   refine aw_ret ?_
   rw [show progE l = 0 by unfold progE; rw [if_neg (by omega), if_neg (by rw [c2]; decide)]]
   refine rP (V.i 0)
set_option maxRecDepth 100000 in
theorem need_ac (p : Pt) (c : Int) (h1 : (-32767 ≤ p.1 ∧ p.1 ≤ 32767) ∧ (-32767 ≤ p.2 ∧ p.2 ≤ 32767)) (hc : 1 ≤ c ∧ c ≤ 32767) : AC Tryz.prog 104 [.agg [.i p.1, .i p.2], .i c] (.i (needI p c)) [] := by
 have hb := amtS_bd h1
 have ha : amtS p = max (max (max p.1 (-p.1)) p.2) (-p.2) := rfl
 refine acI hTT hMX Tryz.func104 Tryz.ntmps104 fun C hC hF => ?_
 refine aw_seq_k fun K hK => wR 2 ?_; refine aX hTT 2 [] True.intro ?_; refine aops_nil (xt_n (hK _ ?_)); clear hK K; refine aw_seq_k fun K hK => wR 3 ?_; refine aX hTT 12 [(4, .i (-Prod.fst p)), (9, .i (-Prod.snd p))] ⟨(by omega), (by omega), True.intro⟩ ?_; refine aops_nil (xt_n (hK _ ?_)); clear hK K; refine aw_seq_k fun K hK => ?_; refine aw_seq_k fun K hK => wR 4 ?_; refine aX hTT 2 [] True.intro ?_; refine aops_nil (xt_n (hK _ ?_)); clear hK K
 refine w_cond (t := decide (max (max (max (Prod.fst p) (-Prod.fst p)) (Prod.snd p)) (-Prod.snd p) = (0 : Int))) (by kernel_rfl) (fun c1 => ?_) (fun c1 => ?_)
 ·
  have h0 : amtS p = 0 := by rw [ha]; simp at c1; omega
  refine aw_seq_k fun K hK => wR 5 ?_; refine aX hTT 1 [] True.intro ?_; refine aops_nil (xt_n (hK _ ?_)); clear hK K
  refine aw_ret ?_
  refine xt_r ?_
  rw [show needI p c = 256 by unfold needI; rw [if_pos h0]]
  refine rP (V.i 256)
 ·
  have h0 : ¬ amtS p = 0 := by rw [ha]; simp at c1; omega
  rw [ha] at hb h0
  refine aw_skip ?_
  refine xt_n (hK _ ?_); clear hK K; refine aw_seq_k fun K hK => wR 5 ?_; refine aX hTT 8 [(1, .i (c + (1 : Int))), (2, .i ((256 : Int) * (c + (1 : Int)))), (3, .i ((256 : Int) * (c + (1 : Int)) - (1 : Int))), (5, .c ((0 : Int) < max (max (max (Prod.fst p) (-Prod.fst p)) (Prod.snd p)) (-Prod.snd p) ∧ (-9223372036854775808 : Int) ≤ (256 : Int) * (c + (1 : Int)) - (1 : Int) ∧ (256 : Int) * (c + (1 : Int)) - (1 : Int) ≤ (9223372036854775807 : Int)))] ⟨(by omega), (by omega), (by omega), ⟨(by omega), (by omega)⟩, True.intro⟩ ?_; refine aops_nil (xt_n (hK _ ?_)); clear hK K
  refine aw_ret ?_
  rw [show needI p c = min 256 ((256 * (c + 1) - 1).tdiv (max (max (max p.1 (-p.1)) p.2) (-p.2))) by unfold needI; rw [ha, if_neg h0, Int.tdiv_eq_ediv_of_nonneg (by omega)]]
  refine rP (V.i (min (256 : Int) (Int.tdiv ((256 : Int) * (c + (1 : Int)) - (1 : Int)) (max (max (max (Prod.fst p) (-Prod.fst p)) (Prod.snd p)) (-Prod.snd p)))))
theorem with_bd {n g : Int} (hn : -32767 ≤ n ∧ n ≤ 32767) (hg : 0 ≤ g ∧ g ≤ 256) : (-8388352 ≤ n * g ∧ n * g ≤ 8388352) ∧ -32767 ≤ withI n g ∧ withI n g ≤ 32767 := by
 have h1 := mul_bd (a := n) (m := 32767) (b := g) (n := 256) hn ⟨by omega, hg.2⟩
 refine ⟨by omega, ?_⟩
 have h2 := withI_abs (n := n) hg.1
 have h3 : absI n * g ≤ 32767 * 256 := Int.mul_le_mul (by unfold absI; omega) hg.2 hg.1 (by decide)
 have h4 : absI (withI n g) ≤ 32767 := by rw [h2]; omega
 unfold absI at h4
 omega
end Go.Proofs.YtepkjobndmmejaaGreatDoor

namespace Go.Proofs.YtepkjobndmmejaaGreatDoor
open Go.Ab Go.RowKit Go.Dw Go.Shelf
def needE (p : List Pt) (c : Int) : Int := if progE p ≠ 0 then progE p else if c < 1 ∨ 32767 < c then 3 else 0
theorem needE_1 {p : List Pt} {c : Int} (h : ¬ progE p = 0) : needE p c = progE p := by rw [needE, if_pos h]
theorem needE_2 {p : List Pt} {c : Int} (h : progE p = 0) (h2 : c < 1 ∨ 32767 < c) : needE p c = 3 := by rw [needE, if_neg (by simp [h]), if_pos h2]
theorem needE_ok {p : List Pt} {c : Int} : needE p c = 0 ↔ progE p = 0 ∧ 1 ≤ c ∧ c ≤ 32767 := by
 by_cases h : progE p = 0
 ·
  by_cases h2 : c < 1 ∨ 32767 < c
  ·
   rw [needE_2 h h2]; simp [h]; omega
  ·
   rw [needE, if_neg (by simp [h]), if_neg h2]; simp [h]; omega
 ·
  rw [needE_1 h]; simp [h]
def needL (p : List Pt) (c : Int) : List Int := (List.range p.length).map fun k => needI (gp p k) c
theorem needL_len (p : List Pt) (c : Int) : (needL p c).length = p.length := by simp [needL]
theorem needL_gi {p : List Pt} {c : Int} {k : Nat} (h : k < p.length) : gi (needL p c) k = needI (gp p k) c := by simp [needL, gi, h]
set_option maxRecDepth 100000 in
theorem Needs_ok (p : List Pt) (c : Int) (hp : progE p = 0) (hc : 1 ≤ c ∧ c ≤ 32767) : AC Tryz.prog 78 [V.pts p, .i c] (.tup [.own 0, .i 0]) [RowI p.length fun k => needI (gp p k) c] := by
 obtain ⟨g1, g2⟩ := progE_ok.1 hp
 refine acI hTT hMX Tryz.func78 Tryz.ntmps78 fun C hC hF => ?_
 refine aw_seq_k fun K hK => wR 2 ?_; refine aX hTT 2 [] True.intro ?_; refine aops_nil (xt_n (hK _ ?_)); clear hK K; refine aw_seq_k fun K hK => ?_; refine aw_seq_k fun K hK => wR 3 ?_; refine aX hTT 1 [] True.intro ?_
 refine eC (checkProgramme_ac p (by unfold bigL; omega)) ?_
 refine aX hTT 1 [] True.intro ?_; refine aops_nil (xt_n (hK _ ?_)); clear hK K; refine aw_seq_k fun K hK => wR 4 ?_; refine aX hTT 2 [] True.intro ?_; refine aops_nil (xt_n (hK _ ?_)); clear hK K
 refine w_cond (t := !decide (progE p = (0 : Int))) (by kernel_rfl) (fun c1 => ?_) (fun c1 => ?_)
 ·
  simp [hp] at c1
 refine aw_skip ?_
 refine xt_n (hK _ ?_); clear hK K; refine aw_seq_k fun K hK => ?_; refine aw_seq_k fun K hK => wR 5 ?_; refine aX hTT 6 [(3, .c (gA (decide (c < (1 : Int)) == false) True)), (4, .c (gD (decide (c < (1 : Int)) == false) True)), (5, .c (True ∧ (decide (c < (1 : Int)) = false → (decide (c < (1 : Int)) == false) = true)))] ⟨⟨⟨True.intro, True.intro⟩, (fun _ => True.intro)⟩, ⟨⟨(by (exact fun h => h)), ⟨True.intro, True.intro⟩⟩, (fun _ => True.intro)⟩, ⟨True.intro, (by (intro h; rw [h]; rfl))⟩, True.intro⟩ ?_; refine aops_nil (xt_n (hK _ ?_)); clear hK K
 refine w_cond (t := decide (c < (1 : Int)) || decide ((32767 : Int) < c)) (by kernel_rfl) (fun c2 => ?_) (fun c2 => ?_)
 ·
  simp at c2
  omega
 refine aw_skip ?_
 refine xt_n (hK _ ?_); clear hK K; refine aw_seq_k fun K hK => wR 6 ?_; refine aX hTT 1 [] True.intro ?_; refine aops_nil (xt_n (hK _ ?_)); clear hK K; refine aw_seq_k fun K hK => ?_; refine aw_seq_k fun K hK => wR 7 ?_; refine aX hTT 3 [] True.intro ?_; refine aops_nil (xt_n (hK _ ?_)); clear hK K
 refine aw_block ?_
 refine w_le (le_open 7 2 1 (fun k => [.i (needI (gp p k) c)]) (by kernel_rfl) rfl) ?_
 skip
 refine w_loop (ι := Nat) (fun k => [(1, .i c), (7, .own 7), (21, V.pts p), (22, .i p.length), (23, .i k)]) (fun k => [(7, RowI k fun k => needI (gp p k) c)]) (fun k => k ≤ p.length) (fun k => p.length - k) 0 (Nat.zero_le _) ?_ ?_
 ·
  refine le_ren (sl := [(7, Ob.row 2 1 0 fun (j : Nat) => [V.i (needI (gp p j) c)])]) [(7, 700007)] (.cons (by kernel_rfl) (.cons (by kernel_rfl) (.cons (by kernel_rfl) (.cons (by kernel_rfl) (.cons (by kernel_rfl) .nil))))) (.cons ⟨Ob.row 2 1 0 fun (k : Nat) => [V.i (needI (gp p k) c)], (by kernel_rfl), .row (by kernel_rfl) (fun _ _ => rfl)⟩ .nil) (by kernel_rfl) (by kernel_rfl)
 intro k hk
 refine aw_seq_k fun K hK => wR 2 ?_; refine aX hTT 1 [] True.intro ?_; refine aops_nil (xt_n (hK _ ?_)); clear hK K; refine aw_seq_k fun K hK => ?_
 refine w_cond (t := decide ((↑k : Int) < (↑(List.length p) : Int))) (by kernel_rfl) (fun c3 => ?_) (fun c3 => ?_)
 ·
  simp at c3
  refine aw_skip ?_
  refine xt_n (hK _ ?_); clear hK K; refine aw_seq_k fun K hK => ?_
  refine aw_block ?_
  refine aw_seq_k fun K hK => wR 3 ?_; refine aX hTT 4 [(0, .c ((0 : Int) ≤ (↑k : Int) ∧ (↑k : Int) < (↑(List.length p) : Int))), (2, .r (pn 9 (V.ref 200009 0) (200009 : Nat) (Ob.box 46 [V.i 0, V.i 0]))), (3, .r (pw ((0 : Nat) + (2 : Nat) ≤ (2 : Nat)) (200009 : Nat) (Ob.box 46 [V.i (Prod.fst (gp p k)), V.i (Prod.snd (gp p k))])))] ⟨(by omega), (by omega), True.intro⟩ ?_; refine aops_nil (xt_n (hK _ ?_)); clear hK K; refine wR 4 ?_; refine aX hTT 3 [(1, .c ((0 : Nat) ≤ (2 : Nat)))] ⟨(by omega), True.intro⟩ ?_
  refine eC (need_ac (gp p k) c (g2 k c3) hc) ?_
  refine aX hTT 3 [(1, .r (PR.mk (some (32 : Nat)) (some (k + (1 : Nat) ≤ (1099511627776 : Nat))) (V.own 300032) [((7 : Nat), none), ((300032 : Nat), some (Ob.row 2 1 (k + (1 : Nat)) (appRow k (fun (j : Nat) => [V.i (needI (gp p j) c)]) fun (i : Nat) => List.take (1 : Nat) (List.drop (i * (1 : Nat)) [V.i (needI (gp p k) c)]))))] false))] ⟨(by omega), True.intro⟩ ?_; refine aops_nil ?_; refine xb_n ?_; refine xt_n (hK _ ?_); clear hK K; refine wR 5 ?_; refine aX hTT 2 [(0, .i ((↑k : Int) + (1 : Int)))] ⟨(by omega), True.intro⟩ ?_; refine aops_nil ?_; refine xt_n ?_
  refine ⟨k + 1, by omega, ?_, by omega⟩
  refine le_ren (tl := [(1, V.i c), (7, V.own 7), (21, V.sl 2 (List.length p) fun (k : Nat) => [V.i (Prod.fst (gp p k)), V.i (Prod.snd (gp p k))]), (22, V.i (↑(List.length p) : Int)), (23, V.i (↑(k + (1 : Nat)) : Int))]) (sl := [(7, Ob.row 2 1 (k + (1 : Nat)) fun (j : Nat) => [V.i (needI (gp p j) c)])]) [(7, 300032)] (.cons (by kernel_rfl) (.cons (by kernel_rfl) (.cons (by kernel_rfl) (.cons (by kernel_rfl) (.cons (by kernel_rfl) .nil))))) (.cons ⟨Ob.row 2 1 (k + (1 : Nat)) (appRow k (fun (j : Nat) => [V.i (needI (gp p j) c)]) fun (i : Nat) => List.take (1 : Nat) (List.drop (i * (1 : Nat)) [V.i (needI (gp p k) c)])), (by kernel_rfl), .row (by kernel_rfl) ?_⟩ .nil) (by kernel_rfl) (by kernel_rfl)
  intro i hi
  by_cases h : i < k
  ·
   rw [appRow, if_pos h]
   rfl
  ·
   obtain rfl : i = k := by omega
   rw [appRow, if_neg h, Nat.sub_self]
   rfl
 ·
  simp at c3
  obtain rfl : k = p.length := by omega
  refine aw_exit ?_
  refine xt_x ?_; refine xt_x ?_
  refine xb_same ?_
  refine xt_n ?_; clear hK K; refine hK _ ?_; clear hK K; refine aw_seq_k fun K hK => wR 3 ?_; refine aX hTT 3 [] True.intro ?_; refine aops_nil (xt_n (hK _ ?_)); clear hK K
  refine aw_ret ?_
  refine ret_own [(0, 7)] [(4, V.own 0), (5, V.i 0)] (.inr rfl) (.cons (by kernel_rfl) (.cons (by kernel_rfl) .nil)) (.cons ⟨Ob.row 2 1 (List.length p) fun (j : Nat) => [V.i (needI (gp p j) c)], (by kernel_rfl), .row (by kernel_rfl) (fun _ _ => rfl)⟩ .nil) (by kernel_rfl) (by kernel_rfl) (by kernel_rfl) (by kernel_rfl)
abbrev zzFA100 : V := V.tup [V.sl 1 0 fun (k : Nat) => [V.i (gi [] k)], V.i 3]
abbrev qFA100 : Prop := (0 : Nat) ≤ (1 : Nat)
theorem qFA100_ : qFA100 := (by omega)
set_option maxRecDepth 100000 in
theorem Needs_no (p : List Pt) (c : Int) (hl : p.length ≤ bigL) (h : ¬ needE p c = 0) : AC Tryz.prog 78 [V.pts p, .i c] (.tup [V.ints [], .i (needE p c)]) [] := by
 refine acI hTT hMX Tryz.func78 Tryz.ntmps78 fun C hC hF => ?_
 refine aw_seq_k fun K hK => wR 2 ?_; refine aX hTT 2 [] True.intro ?_; refine aops_nil (xt_n (hK _ ?_)); clear hK K; refine aw_seq_k fun K hK => ?_; refine aw_seq_k fun K hK => wR 3 ?_; refine aX hTT 1 [] True.intro ?_
 refine eC (checkProgramme_ac p hl) ?_
 refine aX hTT 1 [] True.intro ?_; refine aops_nil (xt_n (hK _ ?_)); clear hK K; refine aw_seq_k fun K hK => wR 4 ?_; refine aX hTT 2 [] True.intro ?_; refine aops_nil (xt_n (hK _ ?_)); clear hK K
 refine w_cond (t := !decide (progE p = (0 : Int))) (by kernel_rfl) (fun c1 => ?_) (fun c1 => ?_)
 ·
  simp at c1
  refine aw_seq_k fun K hK => wR 5 ?_; refine aX hTT 3 [] True.intro ?_; refine aops_nil (xt_n (hK _ ?_)); clear hK K
  refine aw_ret ?_
  refine xt_r ?_
  rw [needE_1 c1]
  refine ret_of_le (le_nil 4 (sz := 1) 0 (fun k => [.i (gi [] k)]) (by kernel_rfl) ?_) ?_
  ·
   rfl
  refine rP (V.tup [V.sl 1 0 fun (k : Nat) => [V.i (gi [] k)], V.i (progE p)])
 simp at c1
 refine aw_skip ?_
 refine xt_n (hK _ ?_); clear hK K; refine aw_seq_k fun K hK => ?_; refine aw_seq_k fun K hK => wR 5 ?_; refine aX hTT 6 [(3, .c (gA (decide (c < (1 : Int)) == false) True)), (4, .c (gD (decide (c < (1 : Int)) == false) True)), (5, .c (True ∧ (decide (c < (1 : Int)) = false → (decide (c < (1 : Int)) == false) = true)))] ⟨⟨⟨True.intro, True.intro⟩, (fun _ => True.intro)⟩, ⟨⟨(by (exact fun h => h)), ⟨True.intro, True.intro⟩⟩, (fun _ => True.intro)⟩, ⟨True.intro, (by (intro h; rw [h]; rfl))⟩, True.intro⟩ ?_; refine aops_nil (xt_n (hK _ ?_)); clear hK K
 refine w_cond (t := decide (c < (1 : Int)) || decide ((32767 : Int) < c)) (by kernel_rfl) (fun c2 => ?_) (fun c2 => ?_)
 ·
  simp at c2
  refine aw_seq_k fun K hK => wR 6 ?_; refine aX hTT 2 [] True.intro ?_; refine aops_nil (xt_n (hK _ ?_)); clear hK K
  refine aw_ret ?_
  refine xt_r ?_
  rw [needE_2 c1 c2]
  refine ret_of_le (le_nil 4 (sz := 1) 0 (fun k => [.i (gi [] k)]) (by kernel_rfl) ?_) ?_
  ·
   rfl
  refine rP (zzFA100)
 ·
  simp at c2
  exact absurd (needE_ok.2 ⟨c1, by omega⟩) h
def gainE (p : List Pt) (c s : Int) : Int := if needE p c ≠ 0 then needE p c else if s < 0 ∨ 256 < s then 3 else 0
def gainR (p : List Pt) (c s : Int) : List Int := if gainE p c s = 0 then gainL (needL p c) s else []
theorem gain_1 {p : List Pt} {c s : Int} (h : ¬ needE p c = 0) : gainE p c s = needE p c ∧ gainR p c s = [] := by
 have e : gainE p c s = needE p c := by rw [gainE, if_pos h]
 exact ⟨e, by rw [gainR, e, if_neg h]⟩
theorem gain_2 {p : List Pt} {c s : Int} (h : needE p c = 0) (h2 : s < 0 ∨ 256 < s) : gainE p c s = 3 ∧ gainR p c s = [] := by
 have e : gainE p c s = 3 := by rw [gainE, if_neg (by simp [h]), if_pos h2]
 exact ⟨e, by rw [gainR, e, if_neg (by decide)]⟩
theorem gain_3 {p : List Pt} {c s : Int} (h : needE p c = 0) (h2 : 0 ≤ s ∧ s ≤ 256) : gainE p c s = 0 ∧ gainR p c s = gainL (needL p c) s := by
 have e : gainE p c s = 0 := by rw [gainE, if_neg (by simp [h]), if_neg (by omega)]
 exact ⟨e, by rw [gainR, e, if_pos rfl]⟩
theorem needL_bd {p : List Pt} {c : Int} (h : needE p c = 0) (k : Nat) : 0 ≤ gi (needL p c) k ∧ gi (needL p c) k ≤ 256 := by
 obtain ⟨h1, h2⟩ := needE_ok.1 h
 by_cases hk : k < p.length
 ·
  rw [needL_gi hk]
  exact needI_bd h2.1 (amtS_bd ((progE_ok.1 h1).2 k hk)).1
 ·
  rw [gi_out (by rw [needL_len]; omega)]; omega
theorem way_lt {n k : Nat} (h : k < 2 * n - 2) : wayAt n k < n ∧ wayB n k < n := by
 unfold wayAt wayB
 split <;> omega
theorem wayF_bd {n : List Int} {s : Int} (hs : 0 ≤ s) (hn : ∀ k, 0 ≤ gi n k ∧ gi n k ≤ 256) : ∀ k j, 0 ≤ wayF n s k j ∧ wayF n s k j ≤ 256
 | 0, j => hn j
 | k + 1, j => by
  have h1 := wayF_bd hs hn k j
  have h2 := wayF_bd hs hn k (wayB n.length k)
  simp only [wayF]
  split
  ·
   omega
  ·
   exact h1
set_option maxRecDepth 100000 in
theorem Gains_ac (p : List Pt) (c s : Int) (hl : p.length ≤ bigL) : AC Tryz.prog 48 [V.pts p, .i c, .i s] (.tup [V.ints (gainR p c s), .i (gainE p c s)]) [] := by
 by_cases h : needE p c = 0
 ·
  obtain ⟨h1, h2⟩ := needE_ok.1 h
  have h3 := (progE_ok.1 h1).1
  refine acI hTT hMX Tryz.func48 Tryz.ntmps48 fun C hC hF => ?_
  refine aw_seq_k fun K hK => wR 2 ?_; refine aX hTT 3 [] True.intro ?_; refine aops_nil (xt_n (hK _ ?_)); clear hK K; refine aw_seq_k fun K hK => wR 3 ?_; refine aX hTT 2 [] True.intro ?_
  refine e_callO (first := []) (caps := []) (k := 200015) (v' := V.tup [V.own 200015, V.i 0]) (ob' := Ob.row 2 1 (List.length p) fun (i : Nat) => V.renL (callG (2 : Nat) (some 15)) [V.i (needI (gp p i) c)]) (Needs_ok p c h1 h2) (by kernel_rfl) (by kernel_rfl) (by kernel_rfl) (by kernel_rfl) (by kernel_rfl) (by kernel_rfl) (by kernel_rfl) ?_
  refine aX hTT 6 [(3, .r (pn 8 (V.ref 200008 0) (200008 : Nat) (Ob.box 25 [V.nil]))), (4, .r (pw ((0 : Nat) + (1 : Nat) ≤ (1 : Nat)) (200008 : Nat) (Ob.box 25 [V.own 200015])))] ⟨(by omega), True.intro⟩ ?_; refine aops_nil (xt_n (hK _ ?_)); clear hK K; refine aw_seq_k fun K hK => ?_; refine aw_seq_k fun K hK => wR 4 ?_; refine aX hTT 2 [] True.intro ?_; refine aops_nil (xt_n (hK _ ?_)); clear hK K; refine w_false (t := false) (by kernel_rfl) rfl ?_
  refine aw_skip ?_
  refine xt_n (hK _ ?_); clear hK K; refine aw_seq_k fun K hK => ?_; refine aw_seq_k fun K hK => wR 5 ?_; refine aX hTT 6 [(3, .c (gA (decide (s < (0 : Int)) == false) True)), (4, .c (gD (decide (s < (0 : Int)) == false) True)), (5, .c (True ∧ (decide (s < (0 : Int)) = false → (decide (s < (0 : Int)) == false) = true)))] ⟨⟨⟨True.intro, True.intro⟩, (fun _ => True.intro)⟩, ⟨⟨(by (exact fun h => h)), ⟨True.intro, True.intro⟩⟩, (fun _ => True.intro)⟩, ⟨True.intro, (by (intro h; rw [h]; rfl))⟩, True.intro⟩ ?_; refine aops_nil (xt_n (hK _ ?_)); clear hK K
  refine w_cond (t := decide (s < (0 : Int)) || decide ((256 : Int) < s)) (by kernel_rfl) (fun c1 => ?_) (fun c1 => ?_)
  ·
   simp at c1
   refine aw_seq_k fun K hK => wR 6 ?_; refine aX hTT 2 [] True.intro ?_; refine aops_nil (xt_n (hK _ ?_)); clear hK K
   refine aw_ret ?_
   refine xt_r ?_
   rw [(gain_2 h c1).1, (gain_2 h c1).2]
   refine ret_of_le (le_nil 6 (sz := 1) 0 (fun k => [.i (gi [] k)]) (by kernel_rfl) ?_) ?_
   ·
    rfl
   refine rP (zzFA100)
  simp at c1
  refine aw_skip ?_
  refine xt_n (hK _ ?_); clear hK K; refine aw_seq_k fun K hK => ?_; refine aw_seq_k fun K hK => wR 6 ?_; refine aX hTT 2 [(0, .c qFA100)] ⟨qFA100_, True.intro⟩ ?_
  refine eC (ways_ac p.length) ?_
  refine aops_nil (xt_n (hK _ ?_)); clear hK K
  refine aw_block ?_
  have hnl := needL_len p c
  have hbd := needL_bd h
  have hwl : (wayV p.length).length = 2 * p.length - 2 := by simp [wayV]
  refine w_rangeN (caps := [V.ptr [V.i (↑(List.length p) : Int)]]) hF hC ((ways_aiter p.length (by omega))) (by kernel_rfl) (by kernel_rfl) ?_ (by kernel_rfl) [500, 501] [(500, 200008), (501, 200015)] [(5, .ptr [.i s]), (8, .ref 500 0)] (fun _ => True) (fun k => [.box 25 [.own 501], RowI p.length (wayF (needL p c) s k)]) (fun _ _ _ => False) ?_ (by kernel_rfl) (by kernel_rfl) (by kernel_rfl) (.cons (by kernel_rfl) (.cons (by kernel_rfl) .nil)) (.cons ⟨Ob.box 25 [V.own 200015], (by kernel_rfl), .box (by kernel_rfl)⟩ (.cons ⟨Ob.row 2 1 (List.length p) fun (i : Nat) => V.renL (callG (2 : Nat) (some (15 : Tmp))) [V.i (needI (gp p i) c)], (by kernel_rfl), .row (by kernel_rfl) ?_⟩ .nil)) (by kernel_rfl) ?_ ?_ ?_ ?_ ?_
  ·
   intro x hx
   simp only [wayV, List.mem_map] at hx
   obtain ⟨j, _, rfl⟩ := hx
   rfl
  ·
   trivial
  ·
   intro i hi
   show _ = [V.i (gi (needL p c) i)]
   rw [needL_gi hi]
   rfl
  ·
   intro j o ho
   simp at ho
   rcases ho with rfl | rfl
   ·
    rfl
   ·
    exact fun _ _ => rfl
  ·
   intro _ _ _ h
   exact h.elim
  ·
   rintro C' ⟨lx, hF'⟩ j x hx _
   obtain ⟨hk, rfl⟩ : j < 2 * p.length - 2 ∧ [V.i (wayAt p.length j : Nat), V.i (wayB p.length j : Nat)] = x := by
    unfold wayV at hx
    rw [List.getElem?_map] at hx
    by_cases hk : j < 2 * p.length - 2
    ·
     rw [List.getElem?_range hk] at hx
     exact ⟨hk, by simpa using hx⟩
    ·
     rw [List.getElem?_eq_none (by simpa using hk)] at hx; cases hx
   obtain ⟨w1, w2⟩ := way_lt hk
   have b1 := wayF_bd c1.1 hbd j (wayAt p.length j)
   have b2 := wayF_bd c1.1 hbd j (wayB p.length j)
   refine aw_seq_k fun K hK => wR 2 ?_; refine aX hTT 1 [] True.intro ?_; refine aops_nil (xt_n (hK _ ?_)); clear hK K; refine wR 3 ?_; refine aX hTT 1 [] True.intro ?_; refine aops_nil ?_; refine xt_n ?_
   refine aw_block ?_
   refine wD 4 ?_; refine aX hTT 15 [(0, .c qFA100), (2, .c qFA100), (4, .c ((0 : Int) ≤ (↑(wayAt (List.length p) j) : Int) ∧ (↑(wayAt (List.length p) j) : Int) < (↑(List.length p) : Int))), (5, .c (wayAt (List.length p) j < List.length p ∧ (0 : Nat) ≤ (1 : Nat))), (6, .c qFA100), (8, .c ((0 : Int) ≤ (↑(wayB (List.length p) j) : Int) ∧ (↑(wayB (List.length p) j) : Int) < (↑(List.length p) : Int))), (9, .c (wayB (List.length p) j < List.length p ∧ (0 : Nat) ≤ (1 : Nat))), (11, .i (wayF (needL p c) s j (wayB (List.length p) j) + s)), (13, .c ((0 : Int) ≤ (↑(wayAt (List.length p) j) : Int) ∧ (↑(wayAt (List.length p) j) : Int) < (↑(List.length p) : Int))), (14, .r (pw (wayAt (List.length p) j < List.length p ∧ (0 : Nat) + (1 : Nat) ≤ (1 : Nat)) (501 : Nat) (Ob.row 2 1 (List.length p) fun (j_1 : Nat) => if j_1 = wayAt (List.length p) j then [V.i (min (wayF (needL p c) s j (wayAt (List.length p) j)) (wayF (needL p c) s j (wayB (List.length p) j) + s))] else [V.i (wayF (needL p c) s j j_1)])))] ⟨qFA100_, qFA100_, (by omega), (by omega), qFA100_, (by omega), (by omega), (by omega), (by omega), (by omega), True.intro⟩ ?_; refine aops_nil ⟨by kernel_rfl, ?_⟩; refine xb_n ?_
   refine ⟨trivial, ?_⟩
   refine le_ren (sl := [(500, Ob.box 25 [V.own 501]), (501, Ob.row 2 1 (List.length p) fun (j_1 : Nat) => [V.i (wayF (needL p c) s (j + (1 : Nat)) j_1)])]) [] .nil (.cons ⟨Ob.box 25 [V.own 501], (by kernel_rfl), .box (by kernel_rfl)⟩ (.cons ⟨Ob.row 2 1 (List.length p) fun (j_1 : Nat) => if j_1 = wayAt (List.length p) j then [V.i (min (wayF (needL p c) s j (wayAt (List.length p) j)) (wayF (needL p c) s j (wayB (List.length p) j) + s))] else [V.i (wayF (needL p c) s j j_1)], (by kernel_rfl), .row (by kernel_rfl) ?_⟩ .nil)) (by kernel_rfl) (by kernel_rfl)
   intro i hi
   simp only [wayF, hnl]
   by_cases hi2 : i = wayAt p.length j
   ·
    subst hi2
    simp
    rfl
   ·
    simp [hi2]
    rfl
  ·
   intro _
   rw [hwl]
   refine xb_n ?_; refine xt_n (hK _ ?_); clear hK K; refine aw_seq_k fun K hK => wR 2 ?_; refine aX hTT 3 [(0, .c qFA100)] ⟨qFA100_, True.intro⟩ ?_; refine aops_nil (xt_n (hK _ ?_)); clear hK K
   refine aw_ret ?_
   refine ret_of_le (le_shut 6 501 (e := (2 : Nat)) (sz := (1 : Nat)) (n := List.length p) (n' := (gainL (needL p c) s).length) (row := fun (j : Nat) => [V.i (wayF (needL p c) s ((2 : Nat) * List.length p - (2 : Nat)) j)]) (row' := (fun k => [.i (gi (gainL (needL p c) s) k)])) (by kernel_rfl) (by kernel_rfl) (fun _ _ => rfl) ?_ ?_) ?_
   ·
    rw [gainL_len, hnl]
   ·
    intro i hi
    rw [gainL_gi (by rw [hnl]; exact hi), ← wayF_gain c1.1 (by rw [hnl]; exact hi), hnl]
   rw [(gain_3 h c1).1, (gain_3 h c1).2]
   refine rP (V.tup [V.sl 1 (List.length (gainL (needL p c) s)) fun (k : Nat) => [V.i (gi (gainL (needL p c) s) k)], V.i 0])
  ·
   intro _ _ _ _ h
   exact h.elim
 ·
  refine acI hTT hMX Tryz.func48 Tryz.ntmps48 fun C hC hF => ?_
  refine aw_seq_k fun K hK => wR 2 ?_; refine aX hTT 3 [] True.intro ?_; refine aops_nil (xt_n (hK _ ?_)); clear hK K; refine aw_seq_k fun K hK => wR 3 ?_; refine aX hTT 2 [] True.intro ?_
  refine eC (Needs_no p c hl h) ?_
  refine aX hTT 6 [(3, .r (pn 8 (V.ref 200008 0) (200008 : Nat) (Ob.box 25 [V.nil]))), (4, .r (pw ((0 : Nat) + (1 : Nat) ≤ (1 : Nat)) (200008 : Nat) (Ob.box 25 [V.sl 1 0 fun (k : Nat) => [V.i (gi [] k)]])))] ⟨(by omega), True.intro⟩ ?_; refine aops_nil (xt_n (hK _ ?_)); clear hK K; refine aw_seq_k fun K hK => ?_; refine aw_seq_k fun K hK => wR 4 ?_; refine aX hTT 2 [] True.intro ?_; refine aops_nil (xt_n (hK _ ?_)); clear hK K
  refine w_cond (t := !decide (needE p c = (0 : Int))) (by kernel_rfl) (fun c1 => ?_) (fun c1 => ?_)
  ·
   refine aw_seq_k fun K hK => ?_
   refine wR 5 ?_; refine aX hTT 3 [] True.intro ?_; refine aops_nil (xt_n (hK _ ?_)); clear hK K
   refine aw_ret ?_
   refine xt_r ?_
   rw [(gain_1 h).1, (gain_1 h).2]
   refine ret_of_le (le_nil 6 (sz := 1) 0 (fun k => [.i (gi [] k)]) (by kernel_rfl) ?_) ?_
   ·
    rfl
   refine rP (V.tup [V.sl 1 0 fun (k : Nat) => [V.i (gi [] k)], V.i (needE p c)])
  ·
   simp at c1
   exact absurd c1 h
end Go.Proofs.YtepkjobndmmejaaGreatDoor

namespace Go.Proofs.YtepkjobndmmejaaGreatDoor
open Go.Ab Go.RowKit Go.Dw Go.Shelf
theorem RImp.agg {us' us : List V} (h : A2 us' us) : RImp (.agg us') (.agg us) := by
  intro w L x hx
  obtain ⟨xs, rfl, hl⟩ := hx.agg_inv
  have hv := h.rv hl.rv
  exact .agg' ⟨hv.1, fun i u x hu hx => ⟨hv.2 i u x hu hx, hl.one x (List.mem_of_getElem? hx)⟩⟩
theorem RImp.lit1 (l : List Int) : RImp (.sl 1 l.length fun i => ((l.map V.i).drop (i * 1)).take 1) (V.ints l) := by
  refine .rows rfl fun i hi => ?_
  rw [Nat.mul_one, List.drop_eq_getElem_cons (by simpa using hi)]
  simp [gi_eq hi]
end Go.Proofs.YtepkjobndmmejaaGreatDoor

namespace Go.Proofs.YtepkjobndmmejaaGreatDoor
open Go.Ab Go.RowKit Go.Dw Go.Shelf
def ckAt (p : List Pt) (c s : Int) (g : List Int) (i : Nat) : Int :=
 if gi g i < 0 ∨ 256 < gi g i then 3 else if needI (gp p i) c < gi g i then 14 else if 0 < i ∧ s < absI (gi g i - gi g (i - 1)) then 20 else 0
def ckI (p : List Pt) (c s : Int) (g : List Int) : Int × Int :=
 if gainE p c s ≠ 0 then (0, gainE p c s) else if g.length ≠ p.length then (0, 17) else match (List.range g.length).find? fun i => decide (ckAt p c s g i ≠ 0) with
  | some i => ((i : Int), ckAt p c s g i)
  | none => ((g.length : Int), 0)
theorem ck_2 {p : List Pt} {c s : Int} {g : List Int} (h : gainE p c s = 0) (h2 : ¬ g.length = p.length) : ckI p c s g = (0, 17) := by rw [ckI, if_neg (by simp [h]), if_pos h2]
theorem ck_3 {p : List Pt} {c s : Int} {g : List Int} (h : gainE p c s = 0) (h2 : g.length = p.length) {i : Nat} (hi : i < g.length) (ha : ckAt p c s g i ≠ 0) (hb : ∀ j, j < i → ckAt p c s g j = 0) : ckI p c s g = ((i : Int), ckAt p c s g i) := by
 have : (List.range g.length).find? (fun i => decide (ckAt p c s g i ≠ 0)) = some i := by
  rw [List.find?_range_eq_some]
  exact ⟨by simpa using ha, by simpa using hi, fun j hj => by simp [hb j hj]⟩
 rw [ckI, if_neg (by simp [h]), if_neg (by simp [h2]), this]
theorem ck_4 {p : List Pt} {c s : Int} {g : List Int} (h : gainE p c s = 0) (h2 : g.length = p.length) (hb : ∀ j, j < g.length → ckAt p c s g j = 0) : ckI p c s g = ((g.length : Int), 0) := by
 have : (List.range g.length).find? (fun i => decide (ckAt p c s g i ≠ 0)) = none := by
  rw [List.find?_eq_none]
  intro x hx
  simp [hb x (by simpa using hx)]
 rw [ckI, if_neg (by simp [h]), if_neg (by simp [h2]), this]
theorem gainE_ok {p : List Pt} {c s : Int} : gainE p c s = 0 ↔ needE p c = 0 ∧ 0 ≤ s ∧ s ≤ 256 := by
 by_cases h : needE p c = 0
 ·
  by_cases h2 : s < 0 ∨ 256 < s
  ·
   rw [(gain_2 h h2).1]; simp [h]; omega
  ·
   rw [(gain_3 h (by omega)).1]; simp [h]; omega
 ·
  rw [(gain_1 h).1]; simp [h]
def limL (p : List Pt) (g : List Int) : List Pt := (List.range p.length).map fun k => (withI (gp p k).1 (gi g k), withI (gp p k).2 (gi g k))
def limR (p : List Pt) (c s : Int) : List Pt := if gainE p c s = 0 then limL p (gainR p c s) else []
theorem limL_len (p : List Pt) (g : List Int) : (limL p g).length = p.length := by simp [limL]
theorem limL_gp {p : List Pt} {g : List Int} {k : Nat} (h : k < p.length) : gp (limL p g) k = (withI (gp p k).1 (gi g k), withI (gp p k).2 (gi g k)) := by simp [limL, gp, h]
theorem gainAt_bd {n : List Int} {s : Int} (hs : 0 ≤ s) (hn : ∀ k, 0 ≤ gi n k ∧ gi n k ≤ 256) (t : Nat) : 0 ≤ gainAt n s t ∧ gainAt n s t ≤ 256 := by
 refine ⟨?_, Int.le_trans (gUp_le _ _ _ _).1 (hn t).2⟩
 unfold gainAt
 rcases gUp_eq (n := n) (s := s) (t := t) n.length with e | ⟨v, _, e⟩
 ·
  rw [e]; exact (hn t).1
 ·
  rw [e]
  have h5 := (hn v).1
  have h6 := Int.mul_nonneg hs (absI_nonneg ((t : Int) - (v : Int)))
  omega
theorem gainR_bd {p : List Pt} {c s : Int} (h : gainE p c s = 0) (k : Nat) : 0 ≤ gi (gainR p c s) k ∧ gi (gainR p c s) k ≤ 256 := by
 obtain ⟨h1, h2⟩ := gainE_ok.1 h
 rw [(gain_3 h1 h2).2]
 by_cases hk : k < (needL p c).length
 ·
  rw [gainL_gi hk]; exact gainAt_bd h2.1 (needL_bd h1) k
 ·
  rw [gi_out (by rw [gainL_len]; omega)]; omega
theorem gainR_len {p : List Pt} {c s : Int} (h : gainE p c s = 0) : (gainR p c s).length = p.length := by
 obtain ⟨h1, h2⟩ := gainE_ok.1 h
 rw [(gain_3 h1 h2).2, gainL_len, needL_len]
abbrev yyFA130 (p : List Pt) (c : Int) (s : Int) : Ob := Ob.row 46 2 0 fun (k : Nat) => [V.i (withI (Prod.fst (gp p k)) (gi (gainR p c s) k)), V.i (withI (Prod.snd (gp p k)) (gi (gainR p c s) k))]
set_option maxRecDepth 100000 in
theorem Limit_ac (p : List Pt) (c s : Int) (hl : p.length ≤ bigL) : AC Tryz.prog 21 [V.pts p, .i c, .i s] (.tup [V.pts (limR p c s), .i (gainE p c s)]) [] := by
 refine acI hTT hMX Tryz.func21 Tryz.ntmps21 fun C hC hF => ?_
 refine aw_seq_k fun K hK => wR 2 ?_; refine aX hTT 2 [] True.intro ?_; refine aops_nil (xt_n (hK _ ?_)); clear hK K; refine aw_seq_k fun K hK => wR 3 ?_; refine aX hTT 3 [] True.intro ?_
 refine eC (Gains_ac p c s hl) ?_
 refine aX hTT 5 [] True.intro ?_; refine aops_nil (xt_n (hK _ ?_)); clear hK K; refine aw_seq_k fun K hK => ?_; refine aw_seq_k fun K hK => wR 4 ?_; refine aX hTT 2 [] True.intro ?_; refine aops_nil (xt_n (hK _ ?_)); clear hK K
 refine w_cond (t := !decide (gainE p c s = (0 : Int))) (by kernel_rfl) (fun c1 => ?_) (fun c1 => ?_)
 ·
  simp at c1
  refine aw_seq_k fun K hK => wR 5 ?_; refine aX hTT 3 [] True.intro ?_; refine aops_nil (xt_n (hK _ ?_)); clear hK K
  refine aw_ret ?_
  refine xt_r ?_
  rw [show limR p c s = [] by unfold limR; rw [if_neg c1]]
  refine ret_of_le (le_nil 6 (sz := 2) 0 (fun k => [.i (gp [] k).1, .i (gp [] k).2]) (by kernel_rfl) ?_) ?_
  ·
   rfl
  refine rP (V.tup [V.sl 2 0 fun (k : Nat) => [V.i (Prod.fst (gp [] k)), V.i (Prod.snd (gp [] k))], V.i (gainE p c s)])
 simp at c1
 obtain ⟨h1, h2⟩ := gainE_ok.1 c1
 obtain ⟨h3, h4⟩ := progE_ok.1 (needE_ok.1 h1).1
 have hgl := gainR_len c1
 refine aw_skip ?_
 refine xt_n (hK _ ?_); clear hK K; refine aw_seq_k fun K hK => wR 5 ?_; refine aX hTT 1 [] True.intro ?_; refine aops_nil (xt_n (hK _ ?_)); clear hK K; refine aw_seq_k fun K hK => ?_; refine aw_seq_k fun K hK => wR 6 ?_; refine aX hTT 3 [] True.intro ?_; refine aops_nil (xt_n (hK _ ?_)); clear hK K
 refine aw_block ?_
 refine w_le (le_open 10 46 2 (fun k => [.i (withI (gp p k).1 (gi (gainR p c s) k)), .i (withI (gp p k).2 (gi (gainR p c s) k))]) (by kernel_rfl) rfl) ?_
 skip
 refine w_loop (ι := Nat) (fun k => [(8, V.ints (gainR p c s)), (10, .own 10), (23, V.pts p), (24, .i p.length), (25, .i k)]) (fun k => [(10, .row 46 2 k fun k => [.i (withI (gp p k).1 (gi (gainR p c s) k)), .i (withI (gp p k).2 (gi (gainR p c s) k))])]) (fun k => k ≤ p.length) (fun k => p.length - k) 0 (Nat.zero_le _) ?_ ?_
 ·
  refine le_ren (sl := [(10, (yyFA130 p c s))]) [(10, 600010)] (.cons (by kernel_rfl) (.cons (by kernel_rfl) (.cons (by kernel_rfl) (.cons (by kernel_rfl) (.cons (by kernel_rfl) .nil))))) (.cons ⟨(yyFA130 p c s), (by kernel_rfl), .row (by kernel_rfl) (fun _ _ => rfl)⟩ .nil) (by kernel_rfl) (by kernel_rfl)
 intro k hk
 refine aw_seq_k fun K hK => wR 2 ?_; refine aX hTT 1 [] True.intro ?_; refine aops_nil (xt_n (hK _ ?_)); clear hK K; refine aw_seq_k fun K hK => ?_
 refine w_cond (t := decide ((↑k : Int) < (↑(List.length p) : Int))) (by kernel_rfl) (fun c2 => ?_) (fun c2 => ?_)
 ·
  simp at c2
  have hb := gainR_bd c1 k
  have w1 := with_bd (h4 k c2).1 hb
  have w2 := with_bd (h4 k c2).2 hb
  refine aw_skip ?_
  refine xt_n (hK _ ?_); clear hK K; refine aw_seq_k fun K hK => ?_
  refine aw_block ?_
  refine aw_seq_k fun K hK => wR 3 ?_; refine aX hTT 6 [(1, .c ((0 : Int) ≤ (↑k : Int) ∧ (↑k : Int) < (↑(List.length p) : Int))), (3, .r (pn 12 (V.ref 200012 0) (200012 : Nat) (Ob.box 46 [V.i 0, V.i 0]))), (5, .r (pw ((0 : Nat) + (2 : Nat) ≤ (2 : Nat)) (200012 : Nat) (Ob.box 46 [V.i (Prod.fst (gp p k)), V.i (Prod.snd (gp p k))])))] ⟨(by omega), (by omega), True.intro⟩ ?_; refine aops_nil (xt_n (hK _ ?_)); clear hK K; refine wD 4 ?_; refine aX hTT 21 [(2, .c ((0 : Nat) ≤ (2 : Nat))), (5, .c ((0 : Int) ≤ (↑k : Int) ∧ (↑k : Int) < (↑(List.length (gainR p c s)) : Int))), (7, .i (Prod.fst (gp p k) * gi (gainR p c s) k)), (8, .c ((0 : Int) < (256 : Int) ∧ (-9223372036854775808 : Int) ≤ Prod.fst (gp p k) * gi (gainR p c s) k ∧ Prod.fst (gp p k) * gi (gainR p c s) k ≤ (9223372036854775807 : Int))), (10, .c ((1 : Nat) ≤ (2 : Nat))), (13, .c ((0 : Int) ≤ (↑k : Int) ∧ (↑k : Int) < (↑(List.length (gainR p c s)) : Int))), (15, .i (Prod.snd (gp p k) * gi (gainR p c s) k)), (16, .c ((0 : Int) < (256 : Int) ∧ (-9223372036854775808 : Int) ≤ Prod.snd (gp p k) * gi (gainR p c s) k ∧ Prod.snd (gp p k) * gi (gainR p c s) k ≤ (9223372036854775807 : Int))), (19, .r (PR.mk (some (49 : Nat)) (some (k + (1 : Nat) ≤ (1099511627776 : Nat))) (V.own 300049) [((10 : Nat), none), ((300049 : Nat), some (Ob.row 46 2 (k + (1 : Nat)) (appRow k (fun (k : Nat) => [V.i (withI (Prod.fst (gp p k)) (gi (gainR p c s) k)), V.i (withI (Prod.snd (gp p k)) (gi (gainR p c s) k))]) fun (i : Nat) => List.take (2 : Nat) (List.drop (i * (2 : Nat)) [V.i (Int.tdiv (Prod.fst (gp p k) * gi (gainR p c s) k) (256 : Int)), V.i (Int.tdiv (Prod.snd (gp p k) * gi (gainR p c s) k) (256 : Int))]))))] false))] ⟨(by omega), (by omega), (by omega), ⟨(by omega), (by omega)⟩, (by omega), (by omega), (by omega), ⟨(by omega), (by omega)⟩, (by omega), True.intro⟩ ?_; refine aops_nil ⟨by kernel_rfl, ?_⟩; refine xb_n ?_; refine xt_n (hK _ ?_); clear hK K; refine wR 5 ?_; refine aX hTT 2 [(0, .i ((↑k : Int) + (1 : Int)))] ⟨(by omega), True.intro⟩ ?_; refine aops_nil ?_; refine xt_n ?_
  refine ⟨k + 1, by omega, ?_, by omega⟩
  refine le_ren (tl := [(8, V.sl 1 (List.length (gainR p c s)) fun (k : Nat) => [V.i (gi (gainR p c s) k)]), (10, V.own 10), (23, V.sl 2 (List.length p) fun (k : Nat) => [V.i (Prod.fst (gp p k)), V.i (Prod.snd (gp p k))]), (24, V.i (↑(List.length p) : Int)), (25, V.i (↑(k + (1 : Nat)) : Int))]) (sl := [(10, Ob.row 46 2 (k + (1 : Nat)) fun (k : Nat) => [V.i (withI (Prod.fst (gp p k)) (gi (gainR p c s) k)), V.i (withI (Prod.snd (gp p k)) (gi (gainR p c s) k))])]) [(10, 300049)] (.cons (by kernel_rfl) (.cons (by kernel_rfl) (.cons (by kernel_rfl) (.cons (by kernel_rfl) (.cons (by kernel_rfl) .nil))))) (.cons ⟨Ob.row 46 2 (k + (1 : Nat)) (appRow k (fun (k : Nat) => [V.i (withI (Prod.fst (gp p k)) (gi (gainR p c s) k)), V.i (withI (Prod.snd (gp p k)) (gi (gainR p c s) k))]) fun (i : Nat) => List.take (2 : Nat) (List.drop (i * (2 : Nat)) [V.i (Int.tdiv (Prod.fst (gp p k) * gi (gainR p c s) k) (256 : Int)), V.i (Int.tdiv (Prod.snd (gp p k) * gi (gainR p c s) k) (256 : Int))])), (by kernel_rfl), .row (by kernel_rfl) ?_⟩ .nil) (by kernel_rfl) (by kernel_rfl)
  intro i hi
  by_cases h : i < k
  ·
   rw [appRow, if_pos h]
   rfl
  ·
   obtain rfl : i = k := by omega
   rw [appRow, if_neg h, Nat.sub_self]
   rfl
 ·
  simp at c2
  obtain rfl : k = p.length := by omega
  refine aw_exit ?_
  refine xt_x ?_; refine xt_x ?_
  refine xb_same ?_
  refine xt_n ?_; clear hK K; refine hK _ ?_; clear hK K; refine aw_seq_k fun K hK => wR 3 ?_; refine aX hTT 3 [] True.intro ?_; refine aops_nil (xt_n (hK _ ?_)); clear hK K
  refine aw_ret ?_
  rw [show limR p c s = limL p (gainR p c s) by unfold limR; rw [if_pos c1], c1]
  refine ret_of_le (le_shut 6 10 (e := (46 : Nat)) (sz := (2 : Nat)) (n := List.length p) (n' := (limL p (gainR p c s)).length) (row := fun (k : Nat) => [V.i (withI (Prod.fst (gp p k)) (gi (gainR p c s) k)), V.i (withI (Prod.snd (gp p k)) (gi (gainR p c s) k))]) (row' := (fun k => [.i (gp (limL p (gainR p c s)) k).1, .i (gp (limL p (gainR p c s)) k).2])) (by kernel_rfl) (by kernel_rfl) (fun _ _ => rfl) ?_ ?_) ?_
  ·
   rw [limL_len]
  ·
   intro i hi
   rw [limL_gp hi]
  refine rP (V.tup [V.sl 2 (List.length (limL p (gainR p c s))) fun (k : Nat) => [V.i (Prod.fst (gp (limL p (gainR p c s)) k)), V.i (Prod.snd (gp (limL p (gainR p c s)) k))], V.i 0])
end Go.Proofs.YtepkjobndmmejaaGreatDoor

namespace Go.Proofs.YtepkjobndmmejaaGreatDoor
open Go.Ab Go.RowKit Go.Dw Go.Shelf
end Go.Proofs.YtepkjobndmmejaaGreatDoor

namespace Go.Proofs.YtepkjobndmmejaaGreatDoor
open Go.Ab Go.RowKit Go.Dw Go.Shelf
theorem gainAt_need {n : List Int} {s : Int} {t : Nat} : gainAt n s t ≤ gi n t := (gUp_le n s t n.length).1
theorem ckAt_ok {p : List Pt} {c s : Int} {g : List Int} {i : Nat} : ckAt p c s g i = 0 ↔ (0 ≤ gi g i ∧ gi g i ≤ 256) ∧ gi g i ≤ needI (gp p i) c ∧ (0 < i → absI (gi g i - gi g (i - 1)) ≤ s) := by
 unfold ckAt
 split
 ·
  rename_i h; simp; omega
 ·
  split
  ·
   rename_i h; simp; omega
  ·
   split
   ·
    rename_i h1 h2 h; simp; intro _ _ _; exact ⟨h.1, h.2⟩
   ·
    rename_i h1 h2 h; simp; refine ⟨by omega, by omega, fun h0 => ?_⟩; omega
theorem fair_gains {p : List Pt} {c s : Int} (h : gainE p c s = 0) : ckI p c s (gainR p c s) = ((p.length : Int), 0) := by
 obtain ⟨h1, h2⟩ := gainE_ok.1 h
 have hr := (gain_3 h1 h2).2
 have hl := gainR_len h
 rw [ck_4 h hl (fun j hj => ?_), hl]
 rw [hl] at hj
 have hj' : j < (needL p c).length := by rw [needL_len]; exact hj
 have b := gainR_bd h j
 refine ckAt_ok.2 ⟨b, ?_, fun h0 => ?_⟩
 ·
  rw [hr, gainL_gi hj', ← needL_gi hj]; exact gainAt_need
 ·
  rw [hr, gainL_gi hj', gainL_gi (by omega)]
  have a1 := gain_step (n := needL p c) h2.1 (t := j) (t' := j - 1) hj' (by omega)
  have a2 := gain_step (n := needL p c) h2.1 (t := j - 1) (t' := j) (by omega) (by omega)
  unfold absI
  omega
theorem ck_fair {p : List Pt} {c s : Int} {g : List Int} (h : gainE p c s = 0) (h2 : (ckI p c s g).2 = 0) : g.length = p.length ∧ (ckI p c s g).1 = (g.length : Int) ∧ ∀ j, j < g.length → ckAt p c s g j = 0 := by
 by_cases hl : g.length = p.length
 ·
  by_cases hc : ∃ i, i < g.length ∧ ckAt p c s g i ≠ 0
  ·
   obtain ⟨i, ⟨h3, h4⟩, h5⟩ := least _ hc
   rw [ck_3 h hl h3 h4 fun j hj => by
    by_cases e : ckAt p c s g j = 0
    ·
     exact e
    ·
     have := h5 j ⟨by omega, e⟩; omega] at h2
   exact absurd h2 h4
  ·
   have hall : ∀ j, j < g.length → ckAt p c s g j = 0 := fun j hj => by
    by_cases e : ckAt p c s g j = 0
    ·
     exact e
    ·
     exact absurd ⟨j, hj, e⟩ hc
   refine ⟨hl, ?_, hall⟩
   rw [ck_4 h hl hall]
 ·
  rw [ck_2 h hl] at h2; cases h2
theorem limited {p : Pt} {c g : Int} (hc : 1 ≤ c) (h0 : 0 ≤ amtS p) (hg : 0 ≤ g ∧ g ≤ 256) (h : g ≤ needI p c) : absI (withI p.1 g) ≤ c ∧ absI (withI p.2 g) ≤ c := by
 have := (needI_iff hc h0 hg).2 h
 unfold okG at this
 simp at this
 omega
end Go.Proofs.YtepkjobndmmejaaGreatDoor
