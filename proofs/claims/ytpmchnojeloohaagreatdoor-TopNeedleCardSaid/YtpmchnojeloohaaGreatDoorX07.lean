/-
  Several texts in one: The samples of extents: the walks of both copies. Conditions: told in each theorem. .. Plain laws of reading and sweeping: the two walks of a tip are an adjunction. No program in sight. No condition.
-/
import Derived.Test.YtpmchnojeloohaaGreatDoorX05
import Derived.Test.YtpmchnojeloohaaGreatDoorAbs42
import Derived.Test.YtpmchnojeloohaaGreatDoorX00
import Derived.Test.YtpmchnojeloohaaGreatDoorMC
import Derived.Test.YtpmchnojeloohaaGreatDoorMD
import Derived.Test.YtpmchnojeloohaaGreatDoorX03
import Derived.Test.YtpmchnojeloohaaGreatDoorX04
namespace Go.Proofs.YtpmchnojeloohaaGreatDoor
open Go.Ab Go.RowKit Go.Dw Go.Shelf
def IsFirst (p : Int → Bool) (F : Int) : Prop := -32767 ≤ F ∧ F ≤ 32768 ∧ (∀ n, -32767 ≤ n → n < F → p n = false) ∧ ∀ n, F ≤ n → n ≤ 32767 → p n = true
theorem tdiv_bd (x : Int) {m : Int} (hm : 0 < m) : (0 ≤ x → 0 ≤ x.tdiv m ∧ x.tdiv m ≤ x) ∧ (x < 0 → x ≤ x.tdiv m ∧ x.tdiv m ≤ 0) := by
 refine ⟨fun h => ?_, fun h => ?_⟩
 ·
  rw [Int.tdiv_eq_ediv_of_nonneg h]
  exact ⟨Int.ediv_nonneg h oM, Int.ediv_le_self _ h⟩
 ·
  have e : x.tdiv m = -((-x) / m) := by
   have := Int.neg_tdiv (a := -x) (b := m)
   rw [Int.neg_neg] at this
   rw [this, Int.tdiv_eq_ediv_of_nonneg oM]
  have h3 := Int.ediv_nonneg (a := -x) (b := m) oM oM
  have h4 := Int.ediv_le_self (a := -x) m oM
  omega
def edgeI (half gain n : Int) : Int := half + (n * gain).tdiv 1000
end Go.Proofs.YtpmchnojeloohaaGreatDoor

namespace Go.Proofs.YtpmchnojeloohaaGreatDoor
open Go.Ab Go.RowKit Go.Dw Go.Shelf
def rootN : Nat → Nat
 | 0 => 0
 | n + 1 => if (rootN n + 1) * (rootN n + 1) ≤ n + 1 then rootN n + 1 else rootN n
theorem rootN_spec (n : Nat) : rootN n * rootN n ≤ n ∧ n < (rootN n + 1) * (rootN n + 1) := by
 induction n with
 | zero => simp [rootN]
 | succ n ih =>
  rw [rootN]
  split
  ·
   have : (rootN n + 1 + 1) * (rootN n + 1 + 1) = (rootN n + 1) * (rootN n + 1) + 2 * (rootN n + 1) + 1 := by simp only [Nat.add_mul, Nat.mul_add]; omega
   omega
  ·
   omega
def rootI (n : Int) : Int := rootN n.toNat
theorem rootI_spec {n : Int} (h : 0 ≤ n) : 0 ≤ rootI n ∧ rootI n * rootI n ≤ n ∧ n < (rootI n + 1) * (rootI n + 1) := by
 obtain ⟨a, b⟩ := rootN_spec n.toNat
 have a' : ((rootN n.toNat * rootN n.toNat : Nat) : Int) ≤ (n.toNat : Int) := by exact_mod_cast a
 have b' : (n.toNat : Int) < (((rootN n.toNat + 1) * (rootN n.toNat + 1) : Nat) : Int) := by exact_mod_cast b
 rw [Int.toNat_of_nonneg h] at a' b'
 exact ⟨Int.natCast_nonneg _, by simpa [rootI] using a', by simpa [rootI] using b'⟩
theorem root_le {a b : Int} (ha : 0 ≤ a) (hb : 0 ≤ b) {n : Int} (h1 : a * a ≤ n) (h2 : n < (b + 1) * (b + 1)) : a ≤ b := by
 by_cases h : a ≤ b
 ·
  exact h
 ·
  have : (b + 1) * (b + 1) ≤ a * a := Int.mul_le_mul oM oM oM ha
  omega
theorem root_uniq {n s : Int} (hn : 0 ≤ n) (h0 : 0 ≤ s) (h1 : s * s ≤ n) (h2 : n < (s + 1) * (s + 1)) : s = rootI n := by
 obtain ⟨a, b, c⟩ := rootI_spec hn
 have := root_le h0 a h1 c
 have := root_le a h0 b h2
 omega
theorem sq_le {a m : Int} (h0 : 0 ≤ a) (h : a ≤ m) : 0 ≤ a * a ∧ a * a ≤ m * m := ⟨Int.mul_nonneg h0 h0, Int.mul_le_mul h h h0 oM⟩
def stepOf : Nat → Int
 | 0 => 4096 | 1 => 2048 | 2 => 1024 | 3 => 512 | 4 => 256 | 5 => 128 | 6 => 64 | 7 => 32 | 8 => 16 | 9 => 8 | 10 => 4 | 11 => 2 | 12 => 1 | _ => 0
theorem stepOf_next {k : Nat} (h : k ≤ 12) : 0 < stepOf k ∧ stepOf k ≤ 4096 ∧ (stepOf k).tdiv 2 = stepOf (k + 1) ∧ stepOf k = max 1 (2 * stepOf (k + 1)) := by
 have : k = 0 ∨ k = 1 ∨ k = 2 ∨ k = 3 ∨ k = 4 ∨ k = 5 ∨ k = 6 ∨ k = 7 ∨ k = 8 ∨ k = 9 ∨ k = 10 ∨ k = 11 ∨ k = 12 := by omega
 rcases this with rfl | rfl | rfl | rfl | rfl | rfl | rfl | rfl | rfl | rfl | rfl | rfl | rfl <;> decide
set_option maxRecDepth 100000 in
theorem root_ac (n : Int) (hn : 0 ≤ n ∧ n ≤ 1048576) : AC Tryz.prog 75 [.i n] (.i (rootI n)) [] := by
 refine acI hTT hMX Tryz.func75 Tryz.ntmps75 fun C hC hF => ?_
 refine sX hTT 2 1 [] tI (sX hTT 3 1 [] tI (sK fun K hK => sX hTT 4 1 [] tI ?_))
 refine aw_block ?_
 refine w_loop (fun x : Nat × Int => [(0, .i n), (3, .i x.2), (4, .i (stepOf x.1))]) (fun _ => []) (fun x => x.1 ≤ 13 ∧ 0 ≤ x.2 ∧ x.2 * x.2 ≤ n ∧ n < (x.2 + max 1 (2 * stepOf x.1)) * (x.2 + max 1 (2 * stepOf x.1))) (fun x => 13 - x.1) (0, 0) ⟨by decide, by decide, by omega, by show n < (0 + max 1 (2 * 4096)) * (0 + max 1 (2 * 4096)); rw [show ((0:Int) + max 1 (2 * 4096)) = 8192 from by decide]; omega⟩ ?_ ?_
 ·
  show Le _ ⟨mkT [(0, .i n), (3, .i 0), (4, .i 4096)], mkS [], 1⟩
  refine le_ren [] (.cons kR (.cons kR (.cons kR .nil))) .nil kR kR
 rintro ⟨k, r⟩ ⟨hk, h0, h1, h2⟩
 simp only at hk h0 h1 h2 ⊢
 have h3 : r ≤ 1024 := root_le h0 (b := 1024) (by decide) h1 oM
 by_cases hk2 : k ≤ 12
 ·
  obtain ⟨q1, q2, q3, q4⟩ := stepOf_next hk2
  obtain ⟨p1, p2⟩ := sq_le (a := r + stepOf k) (m := 5120) oM oM
  have e2 : r + max 1 (2 * stepOf k) = r + stepOf k + stepOf k := by omega
  refine sK fun K hK => sX hTT 2 2 [] tI ?_
  refine w_cond (t := decide ((0 : Int) < stepOf k)) kR (fun c1 => ?_) (fun c1 => ?_)
  ·
   refine aw_skip ?_
   refine xt_n (hK _ ?_); clear hK K; refine sK fun K hK => ?_
   refine aw_block ?_
   refine sX hTT 3 9 [(2, .i (r + stepOf k)), (5, .i (r + stepOf k)), (6, .i ((r + stepOf k) * (r + stepOf k)))] ⟨oM, oM, oM, tI⟩ ?_
   refine w_cond (t := decide ((r + stepOf k) * (r + stepOf k) ≤ n)) kR (fun c2 => ?_) (fun c2 => ?_)
   ·
    simp at c2
    refine wR 4 (aX hTT 4 [(2, .i (r + stepOf k))] ⟨oM, tI⟩ (aops_nil (xb_n (xt_n (hK _ ?_))))); clear hK K; refine wR 5 (aX hTT 3 [(1, .c ((0 : Int) < (2 : Int) ∧ (-9223372036854775808 : Int) ≤ stepOf k ∧ stepOf k ≤ 9223372036854775807))] ⟨⟨oM, oM⟩, tI⟩ (aops_nil (xt_n ?_)))
    refine ⟨(k + 1, r + stepOf k), ⟨by simp only; omega, by simp only; omega, c2, ?_⟩, ?_, by simp only; omega⟩
    ·
     simp only
     rw [← q4, ← e2]
     exact h2
    ·
     show Le _ ⟨mkT [(0, .i n), (3, .i (r + stepOf k)), (4, .i (stepOf (k + 1)))], mkS [], 1⟩
     rw [← q3]
     refine le_ren [] (.cons kR (.cons kR (.cons kR .nil))) .nil kR kR
   ·
    simp at c2
    refine aw_skip ?_
    refine xb_n (xt_n (hK _ ?_)); clear hK K; refine wR 4 (aX hTT 3 [(1, .c ((0 : Int) < (2 : Int) ∧ (-9223372036854775808 : Int) ≤ stepOf k ∧ stepOf k ≤ 9223372036854775807))] ⟨⟨oM, oM⟩, tI⟩ (aops_nil (xt_n ?_)))
    refine ⟨(k + 1, r), ⟨by simp only; omega, h0, h1, ?_⟩, ?_, by simp only; omega⟩
    ·
     simp only
     rw [← q4]
     exact c2
    ·
     show Le _ ⟨mkT [(0, .i n), (3, .i r), (4, .i (stepOf (k + 1)))], mkS [], 1⟩
     rw [← q3]
     refine le_ren [] (.cons kR (.cons kR (.cons kR .nil))) .nil kR kR
  ·
   simp at c1
   omega
 ·
  obtain rfl : k = 13 := by omega
  refine sK fun K hK => sX hTT 2 2 [] tI (w_false (t := false) kR rfl ?_)
  refine aw_exit ?_
  refine xt_x ?_; refine xt_x ?_
  refine xb_same ?_
  refine xt_n ?_; clear hK K; refine hK _ ?_; clear hK K; refine sX hTT 3 2 [] tI ?_
  refine aw_ret ?_
  rw [← root_uniq hn.1 h0 h1 (by have h5 := h2; rw [show r + max 1 (2 * stepOf 13) = r + 1 by simp [stepOf]; omega] at h5; exact h5)]
  refine rP (V.i r)
end Go.Proofs.YtpmchnojeloohaaGreatDoor

namespace Go.Proofs.YtpmchnojeloohaaGreatDoor
open Go.Ab Go.RowKit Go.Dw Go.Shelf
def sqI (r a : Int) (k : Nat) : Int := r * r - (k * a) * (k * a)
def elt (r a : Int) (up : Bool) (k : Nat) : Int := r - (rootI (sqI r a k) + if !up && !decide (rootI (sqI r a k) * rootI (sqI r a k) = sqI r a k) then 1 else 0)
def eltN (r a : Int) : Nat := (r.tdiv a).toNat + 1
def eltL (r a : Int) (up : Bool) : List Int := (List.range (eltN r a)).map (elt r a up)
theorem eltL_len (r a : Int) (up : Bool) : (eltL r a up).length = eltN r a := by simp [eltL]
theorem eltL_gi {r a : Int} {up : Bool} {k : Nat} (h : k < eltN r a) : gi (eltL r a up) k = elt r a up k := by simp [eltL, gi, h]
theorem mul_le_of_tdiv {r a k : Int} (hr : 0 ≤ r) (ha : 1 ≤ a) (h0 : 0 ≤ k) (h : k ≤ r.tdiv a) : 0 ≤ k * a ∧ k * a ≤ r := by
 refine ⟨Int.mul_nonneg h0 oM, ?_⟩
 rw [Int.tdiv_eq_ediv_of_nonneg hr] at h
 exact Int.le_trans (Int.mul_le_mul_of_nonneg_right h oM) (Int.ediv_mul_le r oM)
theorem sqI_bd {r a : Int} {k : Nat} (hr : 0 ≤ r ∧ r ≤ 1024) (h : 0 ≤ (k : Int) * a ∧ (k : Int) * a ≤ r) : 0 ≤ sqI r a k ∧ sqI r a k ≤ 1048576 ∧ 0 ≤ r * r ∧ r * r ≤ 1048576 ∧ 0 ≤ (k : Int) * a * ((k : Int) * a) ∧ (k : Int) * a * ((k : Int) * a) ≤ 1048576 := by
 obtain ⟨a1, a2⟩ := sq_le hr.1 hr.2
 obtain ⟨b1, b2⟩ := sq_le h.1 h.2
 unfold sqI
 omega
theorem root_bd {n : Int} (h : 0 ≤ n ∧ n ≤ 1048576) : 0 ≤ rootI n ∧ rootI n ≤ 1024 ∧ 0 ≤ rootI n * rootI n ∧ rootI n * rootI n ≤ n := by
 obtain ⟨a, b, c⟩ := rootI_spec h.1
 exact ⟨a, root_le a (b := 1024) (by decide) b oM, Int.mul_nonneg a a, b⟩
def arrI (F : Nat → Int) : List V := (List.range 64).map fun k => V.i (F k)
theorem arrI_len (F : Nat → Int) : (arrI F).length = 64 := by simp [arrI]
theorem arrI_ren (g : Nat → Nat) (F : Nat → Int) : V.renL g (arrI F) = arrI F := by kernel_rfl
theorem arrI_row {F : Nat → Int} {i : Nat} (h : i < 64) : ((arrI F).drop (i * 1)).take 1 = [V.i (F i)] := by
 rw [Nat.mul_one, List.drop_eq_getElem_cons (by rw [arrI_len]; exact h)]
 simp [arrI]
theorem arrI_set {F G : Nat → Int} {i : Nat} {x : Int} (h : i < 64) (hx : G i = x) (hG : ∀ k, k ≠ i → G k = F k) : (arrI F).set i (V.i x) = arrI G := by
 subst hx
 refine List.ext_getElem (by simp [arrI]) fun k h1 h2 => ?_
 by_cases hk : k = i
 ·
  subst hk; simp [arrI]
 ·
  rw [List.getElem_set_ne (Ne.symm hk)]; simp [arrI, hG k hk]
set_option maxRecDepth 100000 in
theorem round_many (r a : Int) (up : Bool) (hr : 0 ≤ r ∧ r ≤ 1024) (ha : 1 ≤ a ∧ a ≤ 4194304) (hN : 64 < eltN r a) : AC Tryz.prog 39 [.i r, .i a, .b up] (.tup [.agg [.nil], .i 6]) [] := by
 have h1 := (tdiv_bd r (m := a) oM).1 hr.1
 unfold eltN at hN
 refine acI hTT hMX Tryz.func39 Tryz.ntmps39 fun C hC hF => ?_
 refine sX hTT 2 2 [(0, .r (pn 6 (V.ref 100006 0) (100006 : Nat) (Ob.box 51 [V.nil])))] tI (sX hTT 3 1 [(0, .r (pn 8 (V.ref 200008 0) (200008 : Nat) (Ob.box 150 (List.replicate 64 (V.i 0)))))] tI (sX hTT 4 5 [(2, .c ((0 : Int) < a ∧ (-9223372036854775808 : Int) ≤ r ∧ r ≤ 9223372036854775807)), (3, .i (Int.tdiv r a + 1))] ⟨⟨oM, oM⟩, oM, tI⟩ (sK fun K hK => sX hTT 5 2 [] tI ?_)))
 refine w_cond (t := decide ((64 : Int) < Int.tdiv r a + 1)) kR (fun c1 => ?_) (fun c1 => ?_)
 ·
  refine sK fun K hK => ?_
  refine wR 6 (aX hTT 3 [(1, .r (pw ((0 : Nat) + (1 : Nat) ≤ (1 : Nat)) (100006 : Nat) (Ob.box 51 [V.nil])))] ⟨oM, tI⟩ (nK hK ?_)); clear hK K
  refine aw_ret ?_
  refine xt_r ?_
  refine rP (V.tup [V.agg [V.nil], V.i 6])
 ·
  simp at c1
  omega
abbrev yyPAb210 : Ob := Ob.box 150 (List.replicate 64 (V.i 0))
set_option maxRecDepth 100000 in
theorem round_ac (r a : Int) (up : Bool) (hr : 0 ≤ r ∧ r ≤ 1024) (ha : 1 ≤ a ∧ a ≤ 4194304) (hN : eltN r a ≤ 64) : AC Tryz.prog 39 [.i r, .i a, .b up] (.tup [.agg [V.ints (eltL r a up)], .i 0]) [] := by
 have h1 := (tdiv_bd r (m := a) oM).1 hr.1
 have hN' := hN
 unfold eltN at hN'
 refine acI hTT hMX Tryz.func39 Tryz.ntmps39 fun C hC hF => ?_
 refine sX hTT 2 2 [(0, .r (pn 6 (V.ref 100006 0) (100006 : Nat) (Ob.box 51 [V.nil])))] tI (sX hTT 3 1 [(0, .r (pn 8 (V.ref 200008 0) (200008 : Nat) (yyPAb210)))] tI (sX hTT 4 5 [(2, .c ((0 : Int) < a ∧ (-9223372036854775808 : Int) ≤ r ∧ r ≤ 9223372036854775807)), (3, .i (Int.tdiv r a + 1))] ⟨⟨oM, oM⟩, oM, tI⟩ (sK fun K hK => sX hTT 5 2 [] tI ?_)))
 refine w_cond (t := decide ((64 : Int) < Int.tdiv r a + 1)) kR (fun c1 => ?_) (fun c1 => ?_)
 ·
  simp at c1
  omega
 refine aw_skip ?_
 refine xt_n (hK _ ?_); clear hK K; refine sK fun K hK => sX hTT 6 2 [] tI ?_
 refine aw_block ?_
 refine w_loop (ι := Nat × List V) (fun x => [(0, .i r), (1, .i a), (2, .b up), (6, .ref 6 0), (8, .ref 8 0), (9, .i (r.tdiv a + 1)), (22, .i (r.tdiv a + 1)), (23, .i x.1)])
  (fun x => [(6, .box 51 [.nil]), (8, .box 150 x.2)]) (fun x => x.1 ≤ eltN r a ∧ x.2 = arrI (fun k => if k < x.1 then elt r a up k else 0)) (fun x => eltN r a - x.1) (0, arrI fun _ => 0) ⟨by simp, by simp⟩ ?_ ?_
 ·
  show Le _ ⟨mkT [(0, .i r), (1, .i a), (2, .b up), (6, .ref 6 0), (8, .ref 8 0), (9, .i (r.tdiv a + 1)), (22, .i (r.tdiv a + 1)), (23, .i 0)], mkS [(6, .box 51 [.nil]), (8, .box 150 (arrI fun _ => 0))], 1⟩
  refine le_ren (sl := [(6, Ob.box 51 [V.nil]), (8, yyPAb210)]) [(6, 100006), (8, 200008)] (.cons kR (.cons kR (.cons kR (.cons kR (.cons kR (.cons kR (.cons kR (.cons kR .nil)))))))) (.cons ⟨Ob.box 51 [V.nil], kR, .box kR⟩ (.cons ⟨yyPAb210, kR, .box kR⟩ .nil)) kR kR
 rintro ⟨k, cs⟩ ⟨hk, hcs⟩
 simp only at hk hcs ⊢
 have hlen : cs.length = 64 := by rw [hcs, arrI_len]
 unfold eltN at hk
 refine sX hTT 2 1 [] tI (sK fun K hK => ?_)
 refine w_cond (t := decide ((↑k : Int) < Int.tdiv r a + 1)) kR (fun c2 => ?_) (fun c2 => ?_)
 ·
  simp at c2
  have h2 := mul_le_of_tdiv (k := k) hr.1 ha.1 oM oM
  have h3 := sqI_bd hr h2
  have h4 := root_bd (n := sqI r a k) ⟨h3.1, h3.2.1⟩
  refine aw_skip ?_
  refine xt_n (hK _ ?_); clear hK K; refine sK fun K hK => ?_
  refine aw_block ?_
  refine sX hTT 3 2 [] tI (sX hTT 4 4 [(2, .i ((↑k : Int) * a))] ⟨oM, tI⟩ (sX hTT 5 8 [(2, .i (r * r)), (5, .i ((↑k : Int) * a * ((↑k : Int) * a))), (6, .i (r * r - (↑k : Int) * a * ((↑k : Int) * a)))] ⟨oM, oM, oM, tI⟩ (sK fun K hK => wR 6 (aX hTT 1 [] tI ?_))))
  refine eC (root_ac (sqI r a k) ⟨h3.1, h3.2.1⟩) ?_
  refine aX hTT 1 [] tI (nK hK ?_); clear hK K; refine sK fun K hK => ?_; refine sX hTT 7 9 [(3, .c (gA ((!up) == true) True)), (4, .c (gA ((!up) == true) True)), (5, .c (gC ((!up) == true) ((-9223372036854775808 : Int) ≤ rootI (sqI r a k) * rootI (sqI r a k) ∧ rootI (sqI r a k) * rootI (sqI r a k) ≤ 9223372036854775807))), (6, .c (gA ((!up) == true) True)), (7, .c (gC ((!up) == true) True)), (8, .c (((!up) = true → ((!up) == true) = true) ∧ True))] ⟨⟨⟨tI, tI⟩, (fun _ => tI)⟩, ⟨⟨tI, tI⟩, (fun _ => tI)⟩, ⟨⟨(by (exact fun h => h)), ⟨(by (exact fun h => h)), tI⟩⟩, (by (intro hg; simp at hg; omega))⟩, ⟨⟨tI, tI⟩, (fun _ => tI)⟩, ⟨⟨(by (exact fun h => h)), ⟨(by (exact fun h => h)), tI⟩⟩, (fun _ => tI)⟩, ⟨(by (intro h; rw [h]; rfl)), tI⟩, tI⟩ ?_
  refine w_cond (t := !up && !decide (rootI (sqI r a k) * rootI (sqI r a k) = r * r - (↑k : Int) * a * ((↑k : Int) * a))) kR (fun c3 => ?_) (fun c3 => ?_)
  ·
   have he : elt r a up k = r - (rootI (sqI r a k) + 1) := by rw [elt, if_pos (by exact c3)]
   have hset : cs.set k (V.i (r - (rootI (sqI r a k) + 1))) = arrI (fun j => if j < k + 1 then elt r a up j else 0) := by
    rw [hcs, arrI_set (G := fun j => if j < k + 1 then elt r a up j else 0) oM (by simp [he]) (fun j hj => by simp [show j < k + 1 ↔ j < k by omega])]
   refine wR 8 (aX hTT 3 [(1, .i (rootI (sqI r a k) + 1))] ⟨oM, tI⟩ (nK hK ?_)); clear hK K; refine wR 9 (aX hTT 6 [(3, .i (r - (rootI (sqI r a k) + 1))), (4, .c ((0 : Int) ≤ (↑k : Int) ∧ (↑k : Int) < (↑(64 : Nat) : Int))), (5, .r (pw ((0 : Nat) + k * 1 + (1 : Nat) ≤ List.length cs) (8 : Nat) (Ob.box 150 (setCells cs ((0 : Nat) + k * 1) [V.c (Value.int IntKind.i64 (r - (rootI (sqI r a k) + 1)))]))))] ⟨oM, oM, oM, tI⟩ (aops_nil (xb_n (xt_n (hK _ ?_))))); clear hK K; refine wR 10 (aX hTT 2 [(0, .i ((↑k : Int) + 1))] ⟨oM, tI⟩ (aops_nil (xt_n ?_)))
   refine ⟨(k + 1, cs.set k (V.i (r - (rootI (sqI r a k) + 1)))), ⟨by simp only [eltN]; omega, ?_⟩, ?_, by simp only [eltN]; omega⟩
   ·
    exact hset
   ·
    show Le _ ⟨mkT [(0, .i r), (1, .i a), (2, .b up), (6, .ref 6 0), (8, .ref 8 0), (9, .i (r.tdiv a + 1)), (22, .i (r.tdiv a + 1)), (23, .i ((k + 1 : Nat) : Int))], mkS [(6, .box 51 [.nil]), (8, .box 150 (cs.set k (V.i (r - (rootI (sqI r a k) + 1)))))], 1⟩
    refine le_ren (tl := [(0, V.i r), (1, V.i a), (2, V.b up), (6, V.ref 6 0), (8, V.ref 8 0), (9, V.i (Int.tdiv r a + 1)), (22, V.i (Int.tdiv r a + 1)), (23, V.i (↑(k + 1) : Int))]) (sl := [(6, Ob.box 51 [V.nil]), (8, Ob.box 150 (List.set cs k (V.i (r - (rootI (sqI r a k) + 1)))))]) [(6, 6), (8, 8)] (.cons kR (.cons kR (.cons kR (.cons kR (.cons kR (.cons kR (.cons kR (.cons kR .nil)))))))) (.cons ⟨Ob.box 51 [V.nil], kR, .box kR⟩ (.cons ⟨Ob.box 150 (setCells cs ((0 : Nat) + k * 1) [V.c (Value.int IntKind.i64 (r - (rootI (sqI r a k) + 1)))]), kR, .box ?_⟩ .nil)) kR kR
    rw [hset, arrI_ren, ← hset, Nat.zero_add, Nat.mul_one]
    rfl
  ·
   have he : elt r a up k = r - rootI (sqI r a k) := by
    have c3' : (!up && !decide (rootI (sqI r a k) * rootI (sqI r a k) = sqI r a k)) = false := c3
    rw [elt, if_neg (by rw [c3']; decide), Int.add_zero]
   have hset : cs.set k (V.i (r - rootI (sqI r a k))) = arrI (fun j => if j < k + 1 then elt r a up j else 0) := by
    rw [hcs, arrI_set (G := fun j => if j < k + 1 then elt r a up j else 0) oM (by simp [he]) (fun j hj => by simp [show j < k + 1 ↔ j < k by omega])]
   refine aw_skip ?_
   refine xt_n (hK _ ?_); clear hK K; refine wR 8 (aX hTT 6 [(3, .i (r - rootI (sqI r a k))), (4, .c ((0 : Int) ≤ (↑k : Int) ∧ (↑k : Int) < (↑(64 : Nat) : Int))), (5, .r (pw ((0 : Nat) + k * 1 + (1 : Nat) ≤ List.length cs) (8 : Nat) (Ob.box 150 (setCells cs ((0 : Nat) + k * 1) [V.c (Value.int IntKind.i64 (r - rootI (sqI r a k)))]))))] ⟨oM, oM, oM, tI⟩ (aops_nil (xb_n (xt_n (hK _ ?_))))); clear hK K; refine wR 9 (aX hTT 2 [(0, .i ((↑k : Int) + 1))] ⟨oM, tI⟩ (aops_nil (xt_n ?_)))
   refine ⟨(k + 1, cs.set k (V.i (r - rootI (sqI r a k)))), ⟨by simp only [eltN]; omega, ?_⟩, ?_, by simp only [eltN]; omega⟩
   ·
    exact hset
   ·
    show Le _ ⟨mkT [(0, .i r), (1, .i a), (2, .b up), (6, .ref 6 0), (8, .ref 8 0), (9, .i (r.tdiv a + 1)), (22, .i (r.tdiv a + 1)), (23, .i ((k + 1 : Nat) : Int))], mkS [(6, .box 51 [.nil]), (8, .box 150 (cs.set k (V.i (r - rootI (sqI r a k)))))], 1⟩
    refine le_ren (tl := [(0, V.i r), (1, V.i a), (2, V.b up), (6, V.ref 6 0), (8, V.ref 8 0), (9, V.i (Int.tdiv r a + 1)), (22, V.i (Int.tdiv r a + 1)), (23, V.i (↑(k + 1) : Int))]) (sl := [(6, Ob.box 51 [V.nil]), (8, Ob.box 150 (List.set cs k (V.i (r - rootI (sqI r a k)))))]) [(6, 6), (8, 8)] (.cons kR (.cons kR (.cons kR (.cons kR (.cons kR (.cons kR (.cons kR (.cons kR .nil)))))))) (.cons ⟨Ob.box 51 [V.nil], kR, .box kR⟩ (.cons ⟨Ob.box 150 (setCells cs ((0 : Nat) + k * 1) [V.c (Value.int IntKind.i64 (r - rootI (sqI r a k)))]), kR, .box ?_⟩ .nil)) kR kR
    rw [hset, arrI_ren, ← hset, Nat.zero_add, Nat.mul_one]
    rfl
 ·
  simp at c2
  have hk2 : k = eltN r a := by unfold eltN; omega
  rw [hcs]
  refine w_le (le_freezeBox (t := (150 : Nat)) (cs := (arrI fun j => if j < k then elt r a up j else 0)) 8 kR kR) ?_
  refine aw_exit ?_
  refine xt_x ?_; refine xt_x ?_
  refine xb_same ?_
  refine xt_n ?_; clear hK K; refine hK _ ?_; clear hK K; refine sX hTT 3 5 [(1, .r (PR.mk (some (56 : Nat)) (some ((0 : Int) ≤ Int.tdiv r a + 1 ∧ Int.tdiv r a + 1 ≤ Int.tdiv r a + 1 ∧ Int.tdiv r a + 1 ≤ (1099511627776 : Int))) (V.own 200056) [((200056 : Nat), some (Ob.row 2 1 (Int.toNat (Int.tdiv r a + 1)) fun (x : Nat) => [V.c (Value.int IntKind.i64 0)]))] false)), (3, .r (pn 14 (V.ref 200014 0) (200014 : Nat) (Ob.box 51 [V.nil]))), (4, .r (pw ((0 : Nat) + (1 : Nat) ≤ (1 : Nat)) (200014 : Nat) (Ob.box 51 [V.own 200056])))] ⟨⟨oM, oM⟩, oM, tI⟩ (sK fun K hK => wD 4 (aX hTT 4 [(1, .c ((0 : Nat) ≤ (1 : Nat))), (3, .r (PR.mk (some (61 : Nat)) (some ((0 : Nat) < Int.toNat (Int.tdiv r a + 1) ∧ (0 : Nat) < (64 : Nat))) (V.i (↑(min (64 : Nat) (Int.toNat (Int.tdiv r a + 1))) : Int)) [((200056 : Nat), some (Ob.row 2 1 (Int.toNat (Int.tdiv r a + 1)) fun (j : Nat) => if j < min (64 : Nat) (Int.toNat (Int.tdiv r a + 1)) then List.take (1 : Nat) (List.drop (j * 1) (arrI fun j => if j < k then elt r a up j else 0)) else [V.c (Value.int IntKind.i64 0)]))] false))] ⟨oM, oM, tI⟩ (aops_nil ⟨kR, (xt_n (hK _ ?_))⟩))); clear hK K; refine sX hTT 5 3 [(0, .c ((0 : Nat) ≤ (1 : Nat))), (1, .r (pw ((0 : Nat) + (1 : Nat) ≤ (1 : Nat)) (6 : Nat) (Ob.box 51 [V.own 200056])))] ⟨oM, oM, tI⟩ ?_
  refine aw_ret ?_
  refine ret_of_le (le_freezeIn 200056 (e := (2 : Nat)) (sz := (1 : Nat)) (n := Int.toNat (Int.tdiv r a + 1)) (n' := (eltL r a up).length) (row := fun (j : Nat) => if j < min (64 : Nat) (Int.toNat (Int.tdiv r a + 1)) then List.take (1 : Nat) (List.drop (j * 1) (arrI fun j => if j < k then elt r a up j else 0)) else [V.c (Value.int IntKind.i64 0)]) (row' := (fun k => [.i (gi (eltL r a up) k)])) kR (fun _ => rfl) ?_ ?_) ?_
  ·
   rw [eltL_len]
   unfold eltN
   omega
  ·
   intro i hi
   have hi2 : i < eltN r a := by unfold eltN; omega
   rw [if_pos oM]
   refine (arrI_row (F := fun j => if j < k then elt r a up j else 0) (i := i) oM).trans ?_
   rw [if_pos oM, eltL_gi hi2]
  refine rP (V.tup [V.agg [V.sl 1 (List.length (eltL r a up)) fun (k : Nat) => [V.i (gi (eltL r a up) k)]], V.i 0])
end Go.Proofs.YtpmchnojeloohaaGreatDoor

namespace Go.Proofs.YtpmchnojeloohaaGreatDoor
open Go.Ab Go.RowKit Go.Dw Go.Shelf
def roundE (r a : Int) : Int := if r < 0 ∨ 1024 < r ∨ a < 1 ∨ 4194304 < a then 3 else if 64 < eltN r a then 6 else 0
theorem roundE_ok {r a : Int} : roundE r a = 0 ↔ 0 ≤ r ∧ r ≤ 1024 ∧ 1 ≤ a ∧ a ≤ 4194304 ∧ eltN r a ≤ 64 := by
 unfold roundE
 split
 ·
  simp; omega
 ·
  split
  ·
   simp; omega
  ·
   simp; omega
set_option maxRecDepth 100000 in
theorem Round_ok (r a : Int) (up : Bool) (h : roundE r a = 0) : AC Tryz.prog 16 [.i r, .i a, .b up] (.tup [.agg [V.ints (eltL r a up)], .i 0]) [] := by
 obtain ⟨h1, h2, h3, h4, h5⟩ := roundE_ok.1 h
 refine acI hTT hMX Tryz.func16 Tryz.ntmps16 fun C hC hF => ?_
 refine sX hTT 2 2 [(0, .r (pn 6 (V.ref 100006 0) (100006 : Nat) (Ob.box 51 [V.nil])))] tI (sK fun K hK => ?_); refine sX hTT 3 14 [(3, .c (gA (decide (r < 0) == false) True)), (4, .c (gD (decide (r < 0) == false) True)), (5, .c (True ∧ (decide (r < 0) = false → (decide (r < 0) == false) = true))), (7, .c (gA ((decide (r < 0) || decide ((1024 : Int) < r)) == false) True)), (8, .c (gD ((decide (r < 0) || decide ((1024 : Int) < r)) == false) True)), (9, .c (True ∧ ((decide (r < 0) || decide ((1024 : Int) < r)) = false → ((decide (r < 0) || decide ((1024 : Int) < r)) == false) = true))), (11, .c (gA ((decide (r < 0) || decide ((1024 : Int) < r) || decide (a < 1)) == false) True)), (12, .c (gD ((decide (r < 0) || decide ((1024 : Int) < r) || decide (a < 1)) == false) True)), (13, .c (True ∧ ((decide (r < 0) || decide ((1024 : Int) < r) || decide (a < 1)) = false → ((decide (r < 0) || decide ((1024 : Int) < r) || decide (a < 1)) == false) = true)))] ⟨⟨⟨tI, tI⟩, (fun _ => tI)⟩, ⟨⟨(by (exact fun h => h)), ⟨tI, tI⟩⟩, (fun _ => tI)⟩, ⟨tI, (by (intro h; rw [h]; rfl))⟩, ⟨⟨tI, tI⟩, (fun _ => tI)⟩, ⟨⟨(by (exact fun h => h)), ⟨tI, tI⟩⟩, (fun _ => tI)⟩, ⟨tI, (by (intro h; rw [h]; rfl))⟩, ⟨⟨tI, tI⟩, (fun _ => tI)⟩, ⟨⟨(by (exact fun h => h)), ⟨tI, tI⟩⟩, (fun _ => tI)⟩, ⟨tI, (by (intro h; rw [h]; rfl))⟩, tI⟩ ?_
 refine w_cond (t := decide (r < 0) || decide ((1024 : Int) < r) || decide (a < 1) || decide ((4194304 : Int) < a)) kR (fun c1 => ?_) (fun c1 => ?_)
 ·
  simp at c1
  omega
 refine aw_skip ?_
 refine xt_n (hK _ ?_); clear hK K; refine sK fun K hK => wR 4 (aX hTT 3 [] tI ?_)
 refine eC (round_ac r a up ⟨h1, h2⟩ ⟨h3, h4⟩ h5) ?_
 refine aX hTT 4 [(2, .r (pw ((0 : Nat) + (1 : Nat) ≤ (1 : Nat)) (100006 : Nat) (Ob.box 51 [V.sl 1 (List.length (eltL r a up)) fun (k : Nat) => [V.i (gi (eltL r a up) k)]])))] ⟨oM, tI⟩ (nK hK ?_); clear hK K
 refine aw_ret ?_
 refine rP (V.tup [V.agg [V.sl 1 (List.length (eltL r a up)) fun (k : Nat) => [V.i (gi (eltL r a up) k)]], V.i 0])
set_option maxRecDepth 100000 in
theorem Round_no (r a : Int) (up : Bool) (h : ¬ roundE r a = 0) : AC Tryz.prog 16 [.i r, .i a, .b up] (.tup [.agg [.nil], .i (roundE r a)]) [] := by
 refine acI hTT hMX Tryz.func16 Tryz.ntmps16 fun C hC hF => ?_
 refine sX hTT 2 2 [(0, .r (pn 6 (V.ref 100006 0) (100006 : Nat) (Ob.box 51 [V.nil])))] tI (sK fun K hK => ?_); refine sX hTT 3 14 [(3, .c (gA (decide (r < 0) == false) True)), (4, .c (gD (decide (r < 0) == false) True)), (5, .c (True ∧ (decide (r < 0) = false → (decide (r < 0) == false) = true))), (7, .c (gA ((decide (r < 0) || decide ((1024 : Int) < r)) == false) True)), (8, .c (gD ((decide (r < 0) || decide ((1024 : Int) < r)) == false) True)), (9, .c (True ∧ ((decide (r < 0) || decide ((1024 : Int) < r)) = false → ((decide (r < 0) || decide ((1024 : Int) < r)) == false) = true))), (11, .c (gA ((decide (r < 0) || decide ((1024 : Int) < r) || decide (a < 1)) == false) True)), (12, .c (gD ((decide (r < 0) || decide ((1024 : Int) < r) || decide (a < 1)) == false) True)), (13, .c (True ∧ ((decide (r < 0) || decide ((1024 : Int) < r) || decide (a < 1)) = false → ((decide (r < 0) || decide ((1024 : Int) < r) || decide (a < 1)) == false) = true)))] ⟨⟨⟨tI, tI⟩, (fun _ => tI)⟩, ⟨⟨(by (exact fun h => h)), ⟨tI, tI⟩⟩, (fun _ => tI)⟩, ⟨tI, (by (intro h; rw [h]; rfl))⟩, ⟨⟨tI, tI⟩, (fun _ => tI)⟩, ⟨⟨(by (exact fun h => h)), ⟨tI, tI⟩⟩, (fun _ => tI)⟩, ⟨tI, (by (intro h; rw [h]; rfl))⟩, ⟨⟨tI, tI⟩, (fun _ => tI)⟩, ⟨⟨(by (exact fun h => h)), ⟨tI, tI⟩⟩, (fun _ => tI)⟩, ⟨tI, (by (intro h; rw [h]; rfl))⟩, tI⟩ ?_
 refine w_cond (t := decide (r < 0) || decide ((1024 : Int) < r) || decide (a < 1) || decide ((4194304 : Int) < a)) kR (fun c1 => ?_) (fun c1 => ?_)
 ·
  simp at c1
  refine sX hTT 4 3 [(1, .r (pw ((0 : Nat) + (1 : Nat) ≤ (1 : Nat)) (100006 : Nat) (Ob.box 51 [V.nil])))] ⟨oM, tI⟩ ?_
  refine aw_ret ?_
  refine xt_r ?_
  rw [show roundE r a = 3 by rw [roundE, if_pos oM]]
  refine rP (V.tup [V.agg [V.nil], V.i 3])
 simp at c1
 have h6 : 64 < eltN r a := by
  have := roundE_ok (r := r) (a := a)
  omega
 have e6 : roundE r a = 6 := by rw [roundE, if_neg oM, if_pos h6]
 refine aw_skip ?_
 refine xt_n (hK _ ?_); clear hK K; refine sK fun K hK => wR 4 (aX hTT 3 [] tI ?_)
 refine eC (round_many r a up ⟨by omega, by omega⟩ ⟨by omega, by omega⟩ h6) ?_
 refine aX hTT 4 [(2, .r (pw ((0 : Nat) + (1 : Nat) ≤ (1 : Nat)) (100006 : Nat) (Ob.box 51 [V.nil])))] ⟨oM, tI⟩ (nK hK ?_); clear hK K
 refine aw_ret ?_
 rw [e6]
 refine rP (V.tup [V.agg [V.nil], V.i 6])
end Go.Proofs.YtpmchnojeloohaaGreatDoor

namespace Go.Proofs.YtpmchnojeloohaaGreatDoor
open Go.Ab Go.RowKit Go.Dw Go.Shelf
set_option maxHeartbeats 1000000 in
theorem near_iter' (p1 p2 p3 : Addr) (i n r : Nat) (hi : i ≤ 65536) (hn : n ≤ 65536) (hr : r ≤ 65536) (w : World) (R : Nat → Prop) (l1 : p1.block < w.heap.size) (l2 : p2.block < w.heap.size) (l3 : p3.block < w.heap.size)
  (h1 : w.cell? p1 = some (.int .i64 i)) (h2 : w.cell? p2 = some (.int .i64 r)) (h3 : w.cell? p3 = some (.int .i64 n)) (r1 : ¬ R p1.block) (r2 : ¬ R p2.block) (r3 : ¬ R p3.block) :
  Iter Tryz.prog 104 #[.pointer (some p1), .pointer (some p2), .pointer (some p3)] (nearEs i n r) R w := by
 intro l J Jx W hT hl hlW hJ hJx hY h0
 have hb : ∀ wr, Tch (fun k => R k ∨ k = l) W wr → wr.cell? p1 = some (.int .i64 i) ∧ wr.cell? p2 = some (.int .i64 r) ∧ wr.cell? p3 = some (.int .i64 n) := fun wr ht =>
  ⟨((ht.cell (Nat.lt_of_lt_of_le l1 hT.size) (by rintro (e | e); exact r1 e; omega)).trans (hT.cell l1 r1)).trans h1, ((ht.cell (Nat.lt_of_lt_of_le l2 hT.size) (by rintro (e | e); exact r2 e; omega)).trans (hT.cell l2 r2)).trans h2,
   ((ht.cell (Nat.lt_of_lt_of_le l3 hT.size) (by rintro (e | e); exact r3 e; omega)).trans (hT.cell l3 r3)).trans h3⟩
 obtain ⟨c1, c2, c3⟩ := hb W (Tch.refl _ _)
 have e1 : max (0 : Int) ((i : Int) - (r : Int) + 1) = ((nearLo i r : Nat) : Int) := by unfold nearLo; omega
 refine callsIn_of_wp Tryz.func104 rfl trivial ?_ rfl
 simp only [Tryz.ntmps104, List.size_toArray, List.length_cons, List.length_nil, Nat.reduceAdd, Nat.reduceSub, Array.replicate_succ, Array.replicate_zero, List.push_toArray, List.append_toArray, List.nil_append, List.cons_append]
 gi_wp2
 gi_loopw [5] (fun u wr => ∃ k : Nat, k ≤ nearN i n r ∧ u = .int .i64 ((nearLo i r : Int) + (k : Int)) ∧ J k wr ∧ Tch (fun k => R k ∨ k = l) W wr) (fun u wr => n - (intOf u).toNat)
 case atStart => exact ⟨0, Nat.zero_le _, rfl, h0, Tch.refl _ _⟩
 case round =>
  obtain ⟨k, hk, rfl, hJk, hTk⟩ := hrel
  obtain ⟨d1, d2, d3⟩ := hb wr hTk
  have e2 : min (n : Int) ((i : Int) + (r : Int)) = ((min n (i + r) : Nat) : Int) := by omega
  by_cases hlt : k < nearN i n r
  ·
   obtain ⟨fn, tmps, assign, body, hy, hR⟩ := hY k (nearE i r k) wr (by simp [nearEs, hlt]) hTk.size hJk
   have e3 : max ((nearLo i r : Int) + (k : Int) - (i : Int)) ((i : Int) - ((nearLo i r : Int) + (k : Int))) = ((dist (nearLo i r + k) i : Nat) : Int) := by unfold dist; omega
   have hlt' : nearLo i r + k < min n (i + r) := by unfold nearN at hlt; omega
   unfold nearE at hy
   gi_wp2
   refine hR.mono ?_
   rintro e W2 ⟨bb, rfl, hT2, hJ2, hJ3⟩
   cases bb
   rotate_left
   ·
    gi_wp2
    go_roundw
    case rel => exact ⟨k + 1, by omega, by go_num, hJ2 (by simp), hTk.trans hT2⟩
    case measure => simp [intOf]; omega
   ·
    gi_wp2
    refine bodyPost_ret (results_none rfl _ _ _) rfl ?_
    exact ⟨⟨_, rfl⟩, .inr ⟨k, by simpa [nearEs] using hlt, hJ3 (by simp)⟩⟩
  ·
   have hge : min n (i + r) ≤ nearLo i r + k := by unfold nearN at hlt; omega
   have hk2 : k = nearN i n r := by omega
   subst hk2
   gi_wp2
   go_end0
   exact ⟨⟨_, rfl⟩, .inl (by simpa [nearEs] using hJk)⟩
def nearV (i n r : Nat) : List (List V) := (List.range (nearN i n r)).map fun k : Nat => [V.i ((nearLo i r : Int) + (k : Int)), V.i ((dist (nearLo i r + k) i : Nat) : Int)]
theorem near_ac (i n r : Int) : AC Tryz.prog 76 [.i i, .i n, .i r] (.fn (.func 104) [] [.ptr [.i i], .ptr [.i r], .ptr [.i n]]) [] := by
 refine ac_of_calls (enters_of Tryz.func76 kR rfl) fun L w vs hL hvs => ?_
 obtain ⟨vs⟩ := vs
 obtain ⟨x1, e1, q1⟩ := hvs.get (i := 0) rfl
 obtain ⟨x2, e2, q2⟩ := hvs.get (i := 1) rfl
 obtain ⟨x3, e3, q3⟩ := hvs.get (i := 2) rfl
 have hn := hvs.1
 obtain rfl : vs = [.int .i64 i, .int .i64 n, .int .i64 r] := by
  have := q1.c_inv; have := q2.c_inv; have := q3.c_inv
  subst x1 x2 x3
  match vs, hn with
  | [a, b, c], _ => simp at e1 e2 e3; subst e1 e2 e3; rfl
 refine (near_calls i n r w).mono ?_
 rintro e w' ⟨rfl, b1, b2, b3, hb, hs⟩
 refine ⟨_, rfl, hb, fun b => w.heap.size ≤ b ∧ b < w'.heap.size, fun b h => h, R.fn' .nil (.cons (R.ptr' (.inr ⟨Nat.le_refl _, b1.lt⟩) ?_) (.cons (R.ptr' (.inr ⟨by omega, b2.lt⟩) ?_) (.cons (R.ptr' (.inr ⟨by omega, b3.lt⟩) ?_) .nil)))⟩
 ·
  intro j u hu
  cases j with
  | zero => simp at hu; subst hu; exact ⟨_, b1.cell 0, rfl, .c _ _⟩
  | succ j => simp at hu
 ·
  intro j u hu
  cases j with
  | zero => simp at hu; subst hu; exact ⟨_, b2.cell 0, rfl, .c _ _⟩
  | succ j => simp at hu
 ·
  intro j u hu
  cases j with
  | zero => simp at hu; subst hu; exact ⟨_, b3.cell 0, rfl, .c _ _⟩
  | succ j => simp at hu
theorem near_aiter (i n r : Nat) (hi : i ≤ 65536) (hn : n ≤ 65536) (hr : r ≤ 65536) : AIter Tryz.prog 104 [.ptr [.i i], .ptr [.i r], .ptr [.i n]] (nearV i n r) := by
 refine ⟨enters_of Tryz.func104 kR rfl, fun L w lb hL hlb => ?_⟩
 refine ⟨nearEs i n r, by simp [nearEs, nearV], fun k v x hv hx => ?_, fun R hR => ?_⟩
 ·
  simp only [nearV, nearEs, List.getElem?_map, Option.map_eq_some_iff] at hv hx
  obtain ⟨k1, h1, rfl⟩ := hv
  obtain ⟨k2, h2, rfl⟩ := hx
  rw [h1] at h2; injection h2 with h2; subst h2
  exact .cons (.c _ _) (.cons (.c _ _) .nil)
 ·
  obtain ⟨lb⟩ := lb
  obtain ⟨x1, e1, q1⟩ := hlb.get (i := 0) rfl
  obtain ⟨x2, e2, q2⟩ := hlb.get (i := 1) rfl
  obtain ⟨x3, e3, q3⟩ := hlb.get (i := 2) rfl
  obtain ⟨b1, o1, rfl, hb1, hc1⟩ := q1.ptr_inv
  obtain ⟨b2, o2, rfl, hb2, hc2⟩ := q2.ptr_inv
  obtain ⟨b3, o3, rfl, hb3, hc3⟩ := q3.ptr_inv
  obtain ⟨y1, g1, _, t1⟩ := hc1 0 _ rfl
  obtain ⟨y2, g2, _, t2⟩ := hc2 0 _ rfl
  obtain ⟨y3, g3, _, t3⟩ := hc3 0 _ rfl
  rw [t1.c_inv] at g1
  rw [t2.c_inv] at g2
  rw [t3.c_inv] at g3
  have hlen := hlb.1
  obtain rfl : lb = [.pointer (some ⟨b1, o1, none⟩), .pointer (some ⟨b2, o2, none⟩), .pointer (some ⟨b3, o3, none⟩)] := by
   match lb, hlen with
   | [a, b, c], _ => simp at e1 e2 e3; subst e1 e2 e3; rfl
  exact near_iter' _ _ _ i n r hi hn hr w R (hL b1 hb1) (hL b2 hb2) (hL b3 hb3) g1 g2 g3 (fun h => (hR _ h).2 hb1) (fun h => (hR _ h).2 hb2) (fun h => (hR _ h).2 hb3)
end Go.Proofs.YtpmchnojeloohaaGreatDoor

namespace Go.Proofs.YtpmchnojeloohaaGreatDoor
open Go.Ab Go.RowKit Go.Dw Go.Shelf
theorem eFPAb2 {x c : Bool} (h : x = c) : (x == c) = true := by rw [h]; cases c <;> rfl
def missB (t : List Int) (l : List Pt) (i u : Nat) : Bool := decide (dist u i < t.length) && (decide ((gp l i).2 > (gp l u).2 + gi t (dist u i)) || decide ((gp l i).1 < (gp l u).1 - gi t (dist u i)))
def missRow (t : List Int) (l : List Pt) (i : Nat) : Option Nat := (List.range l.length).find? (missB t l i)
def missP (t : List Int) (l : List Pt) : Option (Nat × Nat) := (List.range l.length).findSome? fun i => (missRow t l i).map fun u => (i, u)
theorem find_first {p : Nat → Bool} {n k : Nat} (hk : k < n) (hp : p k = true) (h : ∀ j, j < k → p j = false) : (List.range n).find? p = some k := by
 rw [List.find?_range_eq_some]
 exact ⟨hp, by simpa using hk, fun j hj => by simp [h j hj]⟩
theorem find_none {p : Nat → Bool} {n : Nat} (h : ∀ j, j < n → p j = false) : (List.range n).find? p = none := by
 rw [List.find?_eq_none]
 intro x hx
 simp [h x (by simpa using hx)]
theorem findSome_first {β : Type} {f : Nat → Option β} {n k : Nat} {y : β} (hk : k < n) (hp : f k = some y) (h : ∀ j, j < k → f j = none) : (List.range n).findSome? f = some y := by
 induction n with
 | zero => omega
 | succ n ih =>
  rw [List.range_succ, List.findSome?_append]
  by_cases he : k = n
  ·
   subst he
   have : (List.range k).findSome? f = none := by
    rw [List.findSome?_eq_none_iff]
    intro x hx
    exact h x (by simpa using hx)
   simp [this, hp]
  ·
   simp [ih oM]
theorem findSome_none {β : Type} {f : Nat → Option β} {n : Nat} (h : ∀ j, j < n → f j = none) : (List.range n).findSome? f = none := by
 rw [List.findSome?_eq_none_iff]
 intro x hx
 exact h x (by simpa using hx)
def missI (t : List Int) (l : List Pt) : Int × Int × Int := match missP t l with
 | some p => ((p.1 : Int), (p.2 : Int), 0)
 | none => (0, 0, 5)
theorem missI_some {t : List Int} {l : List Pt} {i u : Nat} (hi : i < l.length) (hu : u < l.length) (h : missB t l i u = true) (h1 : ∀ j, j < u → missB t l i j = false) (h2 : ∀ j, j < i → missRow t l j = none) : missI t l = ((i : Int), (u : Int), 0) := by
 have e1 : missRow t l i = some u := find_first hu h h1
 have e2 : missP t l = some (i, u) := findSome_first hi (by rw [e1]; rfl) fun j hj => by rw [h2 j hj]; rfl
 rw [missI, e2]
theorem missI_none {t : List Int} {l : List Pt} (h2 : ∀ j, j < l.length → missRow t l j = none) : missI t l = (0, 0, 5) := by
 have e2 : missP t l = none := findSome_none fun j hj => by rw [h2 j hj]; rfl
 rw [missI, e2]
theorem gp_bd {l : List Pt} (h : ∀ p ∈ l, -4194304 ≤ p.1 ∧ p.1 ≤ 4194304 ∧ -4194304 ≤ p.2 ∧ p.2 ≤ 4194304) (k : Nat) : -4194304 ≤ (gp l k).1 ∧ (gp l k).1 ≤ 4194304 ∧ -4194304 ≤ (gp l k).2 ∧ (gp l k).2 ≤ 4194304 := by
 by_cases hk : k < l.length
 ·
  exact h _ (gp_mem hk)
 ·
  simp [gp, List.getD_eq_getElem?_getD, List.getElem?_eq_none (Nat.le_of_not_lt hk)]
theorem gi_bd {l : List Int} (h : ∀ x ∈ l, 0 ≤ x ∧ x ≤ 4194304) (k : Nat) : 0 ≤ gi l k ∧ gi l k ≤ 4194304 := by
 by_cases hk : k < l.length
 ·
  exact h _ (gi_mem hk)
 ·
  simp [gi, List.getD_eq_getElem?_getD, List.getElem?_eq_none (Nat.le_of_not_lt hk)]
theorem nearV_get {i n r j : Nat} {x : List V} (h : (nearV i n r)[j]? = some x) : j < nearN i n r ∧ [V.i ((nearLo i r : Int) + (j : Int)), V.i ((dist (nearLo i r + j) i : Nat) : Int)] = x := by
 unfold nearV at h
 rw [List.getElem?_map] at h
 by_cases hk : j < nearN i n r
 ·
  rw [List.getElem?_range hk] at h; exact ⟨hk, by simpa using h⟩
 ·
  rw [List.getElem?_eq_none (by simpa using hk)] at h; cases h
abbrev yyPAb20 (t : List Int) : V := V.sl 1 (List.length t) fun (k : Nat) => [V.i (gi t k)]
abbrev wb2B0 (j : Nat) (k : Nat) (l : List Pt) (t : List Int) : Bool := decide (Prod.snd (gp l (nearLo k (List.length t) + j)) + gi t (dist (nearLo k (List.length t) + j) k) < Prod.snd (gp l k)) == false
set_option maxRecDepth 100000 in
theorem miss_ac (t : List Int) (l : List Pt) (h0 : checkBoth t l = 0) : AC Tryz.prog 40 [.agg [V.ints t], V.pts l] (.tup [.i (missI t l).1, .i (missI t l).2.1, .i (missI t l).2.2]) [] := by
 obtain ⟨k1, k2⟩ := checkBoth_ok h0
 obtain ⟨m1, m2, _, _, m3⟩ := checkTip_ok k1
 obtain ⟨m4, m5⟩ := checkPts_ok k2
 refine acI hTT hMX Tryz.func40 Tryz.ntmps40 fun C hC hF => ?_
 refine sX hTT 2 5 [(2, .r (pn 4 (V.ref 100004 0) (100004 : Nat) (Ob.box 3 [V.i 0]))), (3, .r (pn 5 (V.ref 100005 0) (100005 : Nat) (Ob.box 3 [V.i 0]))), (4, .r (pn 6 (V.ref 100006 0) (100006 : Nat) (Ob.box 35 [V.i 0])))] tI (sK fun K hK => sX hTT 3 3 [] tI ?_)
 refine aw_block ?_
 refine w_loop (fun k : Nat => [(2, .ptr [V.ints t]), (3, .ptr [V.pts l]), (4, .ref 4 0), (5, .ref 5 0), (6, .ref 6 0), (11, V.pts l), (12, .i l.length), (13, .i k)]) (fun k => [(4, .box 3 [.i 0]), (5, .box 3 [.i 0]), (6, .box 35 [.i 0])]) (fun k => k ≤ l.length ∧ ∀ i, i < k → missRow t l i = none) (fun k => l.length - k) 0 ⟨Nat.zero_le _, fun i hi => by omega⟩ ?_ ?_
 ·
  exact le_ren [(4, _), (5, _), (6, _)] (.cons rfl (.cons rfl (.cons rfl (.cons rfl (.cons rfl (.cons rfl (.cons rfl (.cons rfl .nil)))))))) (.cons ⟨_, rfl, .box rfl⟩ (.cons ⟨_, rfl, .box rfl⟩ (.cons ⟨_, rfl, .box rfl⟩ .nil))) rfl rfl
 rintro k ⟨hk, hrow⟩
 refine sX hTT 2 1 [] tI (sK fun K hK => ?_)
 refine w_cond rfl (fun h => ?_) (fun h => ?_)
 ·
  simp at h
  refine aw_skip ?_
  refine xt_n (hK _ ?_); clear hK K; refine sK fun K hK => ?_
  refine aw_block ?_
  refine sX hTT 3 7 [(1, .c ((0 : Int) ≤ (↑k : Int) ∧ (↑k : Int) < (↑(List.length l) : Int))), (3, .r (pn 7 (V.ref 200007 0) (200007 : Nat) (Ob.box 3 [V.i 0]))), (4, .r (pn 8 (V.ref 200008 0) (200008 : Nat) (Ob.box 61 [V.i 0, V.i 0]))), (5, .r (pw ((0 : Nat) + (1 : Nat) ≤ (1 : Nat)) (200007 : Nat) (Ob.box 3 [V.i (↑k : Int)]))), (6, .r (pw ((0 : Nat) + (2 : Nat) ≤ (2 : Nat)) (200008 : Nat) (Ob.box 61 [V.i (Prod.fst (gp l k)), V.i (Prod.snd (gp l k))])))] ⟨oM, oM, oM, tI⟩ (sK fun K hK => wR 4 (aX hTT 6 [(0, .c ((0 : Nat) ≤ (1 : Nat)))] ⟨oM, tI⟩ ?_))
  refine e_call (near_ac k l.length t.length) rfl rfl rfl rfl rfl ?_
  refine nK hK ?_; clear hK K
  refine aw_block ?_
  refine w_le (le_freezeBox (t := 3) (cs := [V.i k]) 200007 rfl rfl) ?_
  refine w_le (le_freezeBox (t := 61) (cs := [V.i (gp l k).1, V.i (gp l k).2]) 200008 rfl rfl) ?_
  refine w_range hF hC (near_aiter k l.length t.length oM oM oM) rfl rfl ?_ rfl [504, 505, 506] [(504, 4), (505, 5), (506, 6)]
   [(2, .ptr [V.ints t]), (3, .ptr [V.pts l]), (4, .ref 504 0), (5, .ref 505 0), (6, .ref 506 0), (7, .ptr [.i k]), (8, .ptr [.i (gp l k).1, .i (gp l k).2]), (11, V.pts l), (12, .i l.length), (13, .i k)]
   (fun j => ∀ j', j' < j → missB t l k (nearLo k t.length + j') = false) (fun _ => [.box 3 [.i 0], .box 3 [.i 0], .box 35 [.i 0]])
   (fun j c sx => c = .ret ∧ ∃ u, u < l.length ∧ missB t l k u = true ∧ (∀ j', j' < u → missB t l k j' = false) ∧ sx = [.box 3 [.i k], .box 3 [.i u], .box 35 [.i 0]])
   (fun j' hj => by omega) rfl rfl rfl ?_ ?_ rfl ?_ ?_ ?_ ?_ ?_
  ·
   intro x hx
   simp only [nearV, List.mem_map] at hx
   obtain ⟨j, _, rfl⟩ := hx
   rfl
  ·
   exact .cons rfl (.cons rfl (.cons rfl (.cons rfl (.cons rfl (.cons rfl (.cons rfl (.cons rfl (.cons rfl (.cons rfl .nil)))))))))
  ·
   exact .cons ⟨_, rfl, .box rfl⟩ (.cons ⟨_, rfl, .box rfl⟩ (.cons ⟨_, rfl, .box rfl⟩ .nil))
  ·
   intro _ o ho
   simp at ho
   rcases ho with rfl | rfl | rfl <;> rfl
  ·
   rintro j c sx ⟨_, u, _, _, _, rfl⟩ o ho
   simp at ho
   rcases ho with rfl | rfl | rfl <;> rfl
  ·
   rintro C' ⟨lx, hF'⟩ j x hx hok
   obtain ⟨hj, rfl⟩ := nearV_get hx
   have hu : nearLo k t.length + j < l.length := by unfold nearN at hj; omega
   have hd : dist (nearLo k t.length + j) k < t.length := by unfold nearN nearLo dist at *; omega
   have b0 := gp_bd m5 k
   have b1 := gp_bd m5 (nearLo k t.length + j)
   have b2 := gi_bd m3 (dist (nearLo k t.length + j) k)
   refine sX hTT 2 1 [] tI (wR 3 (aX hTT 1 [] tI (aops_nil (xt_n ?_))))
   refine aw_block ?_
   refine sK fun K hK => wD 4 ?_
   refine aops_n hTT (M := []) (n := 30) [pv 27 (V.ptr [V.i (Prod.snd (gp l k))]), pv 28 (V.i (Prod.snd (gp l k))), pv 29 (V.sl 2 (List.length l) fun (k : Nat) => [V.i (Prod.fst (gp l k)), V.i (Prod.snd (gp l k))]), pv 30 (V.i ((↑(nearLo k (List.length t)) : Int) + (↑j : Int))), pc 31 ((0 : Int) ≤ (↑(nearLo k (List.length t)) : Int) + (↑j : Int) ∧ (↑(nearLo k (List.length t)) : Int) + (↑j : Int) < (↑(List.length l) : Int)) (V.ptr [V.i (Prod.fst (gp l (nearLo k (List.length t) + j))), V.i (Prod.snd (gp l (nearLo k (List.length t) + j)))]), pv 32 (V.ptr [V.i (Prod.snd (gp l (nearLo k (List.length t) + j)))]), pv 33 (V.i (Prod.snd (gp l (nearLo k (List.length t) + j)))), pv 34 (V.ptr [(yyPAb20 t)]), pv 35 ((yyPAb20 t)), pv 36 (V.i (↑(dist (nearLo k (List.length t) + j) k) : Int)), pc 37 ((0 : Int) ≤ (↑(dist (nearLo k (List.length t) + j) k) : Int) ∧ (↑(dist (nearLo k (List.length t) + j) k) : Int) < (↑(List.length t) : Int)) (V.ptr [V.i (gi t (dist (nearLo k (List.length t) + j) k))]), pv 38 (V.i (gi t (dist (nearLo k (List.length t) + j) k))), pc 39 ((-9223372036854775808 : Int) ≤ Prod.snd (gp l (nearLo k (List.length t) + j)) + gi t (dist (nearLo k (List.length t) + j) k) ∧ Prod.snd (gp l (nearLo k (List.length t) + j)) + gi t (dist (nearLo k (List.length t) + j) k) ≤ 9223372036854775807) (V.i (Prod.snd (gp l (nearLo k (List.length t) + j)) + gi t (dist (nearLo k (List.length t) + j) k))), pv 40 (V.b (decide (Prod.snd (gp l (nearLo k (List.length t) + j)) + gi t (dist (nearLo k (List.length t) + j) k) < Prod.snd (gp l k)))), pv 41 (V.b (decide (Prod.snd (gp l (nearLo k (List.length t) + j)) + gi t (dist (nearLo k (List.length t) + j) k) < Prod.snd (gp l k)))), pc 42 ((True ∧ True) ∧ ((wb2B0 j k l t) = true → True)) (V.gd (wb2B0 j k l t) (V.ptr [V.i (Prod.fst (gp l k)), V.i (Prod.snd (gp l k))])), pc 43 ((((wb2B0 j k l t) = true → (wb2B0 j k l t) = true) ∧ True) ∧ ((wb2B0 j k l t) = true → True)) (V.gd (wb2B0 j k l t) (V.i (Prod.fst (gp l k)))), pc 44 ((True ∧ True) ∧ ((wb2B0 j k l t) = true → True)) (V.gd (wb2B0 j k l t) (V.sl 2 (List.length l) fun (k : Nat) => [V.i (Prod.fst (gp l k)), V.i (Prod.snd (gp l k))])), pc 45 ((True ∧ True) ∧ ((wb2B0 j k l t) = true → True)) (V.gd (wb2B0 j k l t) (V.i ((↑(nearLo k (List.length t)) : Int) + (↑j : Int)))), pc 46 ((((wb2B0 j k l t) = true → (wb2B0 j k l t) = true) ∧ ((wb2B0 j k l t) = true → (wb2B0 j k l t) = true) ∧ True) ∧ ((wb2B0 j k l t) = true → (0 : Int) ≤ (↑(nearLo k (List.length t)) : Int) + (↑j : Int) ∧ (↑(nearLo k (List.length t)) : Int) + (↑j : Int) < (↑(List.length l) : Int))) (V.gd (wb2B0 j k l t) (V.ptr [V.i (Prod.fst (gp l (nearLo k (List.length t) + j))), V.i (Prod.snd (gp l (nearLo k (List.length t) + j)))])), pc 47 ((((wb2B0 j k l t) = true → (wb2B0 j k l t) = true) ∧ True) ∧ ((wb2B0 j k l t) = true → True)) (V.gd (wb2B0 j k l t) (V.ptr [V.i (Prod.fst (gp l (nearLo k (List.length t) + j))), V.i (Prod.snd (gp l (nearLo k (List.length t) + j)))])), pc 48 ((((wb2B0 j k l t) = true → (wb2B0 j k l t) = true) ∧ True) ∧ ((wb2B0 j k l t) = true → True)) (V.gd (wb2B0 j k l t) (V.i (Prod.fst (gp l (nearLo k (List.length t) + j))))), pc 49 ((True ∧ True) ∧ ((wb2B0 j k l t) = true → True)) (V.gd (wb2B0 j k l t) (V.ptr [(yyPAb20 t)])), pc 50 ((((wb2B0 j k l t) = true → (wb2B0 j k l t) = true) ∧ True) ∧ ((wb2B0 j k l t) = true → True)) (V.gd (wb2B0 j k l t) ((yyPAb20 t))), pc 51 ((True ∧ True) ∧ ((wb2B0 j k l t) = true → True)) (V.gd (wb2B0 j k l t) (V.i (↑(dist (nearLo k (List.length t) + j) k) : Int))), pc 52 ((((wb2B0 j k l t) = true → (wb2B0 j k l t) = true) ∧ ((wb2B0 j k l t) = true → (wb2B0 j k l t) = true) ∧ True) ∧ ((wb2B0 j k l t) = true → (0 : Int) ≤ (↑(dist (nearLo k (List.length t) + j) k) : Int) ∧ (↑(dist (nearLo k (List.length t) + j) k) : Int) < (↑(List.length t) : Int))) (V.gd (wb2B0 j k l t) (V.ptr [V.i (gi t (dist (nearLo k (List.length t) + j) k))])), pc 53 ((((wb2B0 j k l t) = true → (wb2B0 j k l t) = true) ∧ True) ∧ ((wb2B0 j k l t) = true → True)) (V.gd (wb2B0 j k l t) (V.i (gi t (dist (nearLo k (List.length t) + j) k)))), pc 54 ((((wb2B0 j k l t) = true → (wb2B0 j k l t) = true) ∧ ((wb2B0 j k l t) = true → (wb2B0 j k l t) = true) ∧ True) ∧ ((wb2B0 j k l t) = true → (-9223372036854775808 : Int) ≤ Prod.fst (gp l (nearLo k (List.length t) + j)) - gi t (dist (nearLo k (List.length t) + j) k) ∧ Prod.fst (gp l (nearLo k (List.length t) + j)) - gi t (dist (nearLo k (List.length t) + j) k) ≤ 9223372036854775807)) (V.gd (wb2B0 j k l t) (V.i (Prod.fst (gp l (nearLo k (List.length t) + j)) - gi t (dist (nearLo k (List.length t) + j) k)))), pc 55 ((((wb2B0 j k l t) = true → (wb2B0 j k l t) = true) ∧ ((wb2B0 j k l t) = true → (wb2B0 j k l t) = true) ∧ True) ∧ ((wb2B0 j k l t) = true → True)) (V.gd (wb2B0 j k l t) (V.b (decide (Prod.fst (gp l k) < Prod.fst (gp l (nearLo k (List.length t) + j)) - gi t (dist (nearLo k (List.length t) + j) k))))), pc 56 (True ∧ (decide (Prod.snd (gp l (nearLo k (List.length t) + j)) + gi t (dist (nearLo k (List.length t) + j) k) < Prod.snd (gp l k)) = false → (wb2B0 j k l t) = true)) (V.b (decide (Prod.snd (gp l (nearLo k (List.length t) + j)) + gi t (dist (nearLo k (List.length t) + j) k) < Prod.snd (gp l k)) || decide (Prod.fst (gp l k) < Prod.fst (gp l (nearLo k (List.length t) + j)) - gi t (dist (nearLo k (List.length t) + j) k))))] kR kR ⟨oM, oM, oM, ⟨⟨tI, tI⟩, (fun _ => tI)⟩, ⟨⟨(by (exact fun h => h)), tI⟩, (fun _ => tI)⟩, ⟨⟨tI, tI⟩, (fun _ => tI)⟩, ⟨⟨tI, tI⟩, (fun _ => tI)⟩, ⟨⟨(by (exact fun h => h)), ⟨(by (exact fun h => h)), tI⟩⟩, (by (intro hg; simp at hg; omega))⟩, ⟨⟨(by (exact fun h => h)), tI⟩, (fun _ => tI)⟩, ⟨⟨(by (exact fun h => h)), tI⟩, (fun _ => tI)⟩, ⟨⟨tI, tI⟩, (fun _ => tI)⟩, ⟨⟨(by (exact fun h => h)), tI⟩, (fun _ => tI)⟩, ⟨⟨tI, tI⟩, (fun _ => tI)⟩, ⟨⟨(by (exact fun h => h)), ⟨(by (exact fun h => h)), tI⟩⟩, (by (intro hg; simp at hg; omega))⟩, ⟨⟨(by (exact fun h => h)), tI⟩, (fun _ => tI)⟩, ⟨⟨(by (exact fun h => h)), ⟨(by (exact fun h => h)), tI⟩⟩, (by (intro hg; simp at hg; omega))⟩, ⟨⟨(by (exact fun h => h)), ⟨(by (exact fun h => h)), tI⟩⟩, (fun _ => tI)⟩, ⟨tI, eFPAb2⟩, tI⟩ ?_
   refine aops_nil ⟨kR, (xt_n (hK _ ?_))⟩; clear hK K
   refine w_cond rfl (fun hc => ?_) (fun hc => ?_)
   ·
    refine sX hTT 5 5 [(2, .r (pw ((0 : Nat) + (1 : Nat) ≤ (1 : Nat)) (504 : Nat) (Ob.box 3 [V.i (↑k : Int)]))), (3, .r (pw ((0 : Nat) + (1 : Nat) ≤ (1 : Nat)) (505 : Nat) (Ob.box 3 [V.i ((↑(nearLo k (List.length t)) : Int) + (↑j : Int))]))), (4, .r (pw ((0 : Nat) + (1 : Nat) ≤ (1 : Nat)) (506 : Nat) (Ob.box 35 [V.i 0])))] ⟨oM, oM, oM, tI⟩ ?_
    refine aw_ret ?_
    refine xb_r ?_
    refine ⟨_, ⟨rfl, nearLo k t.length + j, hu, ?_, fun j' hj' => ?_, rfl⟩, le_ren [] .nil (.cons ⟨_, rfl, .box rfl⟩ (.cons ⟨_, rfl, .box rfl⟩ (.cons ⟨_, rfl, .box rfl⟩ .nil))) rfl rfl⟩
    ·
     simp only [missB, hd, decide_true, Bool.true_and]
     exact hc
    ·
     by_cases hlo : j' < nearLo k t.length
     ·
      have : ¬ dist j' k < t.length := by unfold nearLo dist at *; omega
      simp [missB, this]
     ·
      have := hok (j' - nearLo k t.length) oM
      rwa [show nearLo k t.length + (j' - nearLo k t.length) = j' by omega] at this
   ·
    refine aw_skip ?_
    refine xb_n ?_
    refine ⟨fun j' hj' => ?_, le_ren [] .nil (.cons ⟨_, rfl, .box rfl⟩ (.cons ⟨_, rfl, .box rfl⟩ (.cons ⟨_, rfl, .box rfl⟩ .nil))) rfl rfl⟩
    by_cases he : j' = j
    ·
     subst he
     simp only [missB, hd, decide_true, Bool.true_and]
     exact hc
    ·
     exact hok j' oM
  ·
   intro hok
   have hlen : (nearV k l.length t.length).length = nearN k l.length t.length := by simp [nearV]
   rw [hlen] at hok
   have hr : missRow t l k = none := find_none fun u hu => by
    by_cases hlo : u < nearLo k t.length
    ·
     have : ¬ dist u k < t.length := by unfold nearLo dist at *; omega
     simp [missB, this]
    ·
     by_cases hhi : u < nearLo k t.length + nearN k l.length t.length
     ·
      have := hok (u - nearLo k t.length) oM
      rwa [show nearLo k t.length + (u - nearLo k t.length) = u by omega] at this
     ·
      have : ¬ dist u k < t.length := by unfold nearN nearLo dist at *; omega
      simp [missB, this]
   refine xb_n (xb_n (xt_n (hK _ ?_))); clear hK K; refine wR 2 (aX hTT 2 [(0, .i ((↑k : Int) + 1))] ⟨oM, tI⟩ (aops_nil (xt_n ?_)))
   refine ⟨k + 1, ⟨by omega, fun i hi => ?_⟩, le_ren [(4, 504), (5, 505), (6, 506)] (.cons rfl (.cons rfl (.cons rfl (.cons rfl (.cons rfl (.cons rfl (.cons rfl (.cons rfl .nil)))))))) (.cons ⟨_, rfl, .box rfl⟩ (.cons ⟨_, rfl, .box rfl⟩ (.cons ⟨_, rfl, .box rfl⟩ .nil))) rfl rfl, by omega⟩
   by_cases he : i = k
   ·
    subst he; exact hr
   ·
    exact hrow i oM
  ·
   rintro j c sx hj ⟨rfl, u, hu, hm, hu2, rfl⟩
   refine aw_ret ?_
   refine xb_r ?_
   refine xb_r ?_
   refine xt_r (xt_r ?_)
   refine xb_r ?_
   refine xt_r ?_
   rw [missI_some h hu hm hu2 hrow]
   refine ret_pure (.inr rfl) rfl rfl rfl
 ·
  simp at h
  refine aw_exit ?_
  refine xt_x ?_; refine xt_x ?_
  refine xb_same ?_
  refine xt_n ?_; clear hK K; refine hK _ ?_; clear hK K; refine sX hTT 3 3 [(0, .r (pw ((0 : Nat) + (1 : Nat) ≤ (1 : Nat)) (4 : Nat) (Ob.box 3 [V.i 0]))), (1, .r (pw ((0 : Nat) + (1 : Nat) ≤ (1 : Nat)) (5 : Nat) (Ob.box 3 [V.i 0]))), (2, .r (pw ((0 : Nat) + (1 : Nat) ≤ (1 : Nat)) (6 : Nat) (Ob.box 35 [V.i 5])))] ⟨oM, oM, oM, tI⟩ ?_
  refine aw_ret ?_
  rw [missI_none fun j hj => hrow j oM]
  refine ret_pure (.inr rfl) rfl rfl rfl
end Go.Proofs.YtpmchnojeloohaaGreatDoor

namespace Go.Proofs.YtpmchnojeloohaaGreatDoor
open Go.RowKit Go.Dw
def inK (a b : List Pt) (k : Nat) : Prop := (gp a k).2 ≤ (gp b k).2 ∧ (gp b k).1 ≤ (gp a k).1
def Inside (a b : List Pt) : Prop := a.length = b.length ∧ ∀ k, k < a.length → inK a b k
instance (a b : List Pt) : Decidable (Inside a b) := by unfold Inside inK; infer_instance
end Go.Proofs.YtpmchnojeloohaaGreatDoor

namespace Go.Proofs.YtpmchnojeloohaaGreatDoor
open Go.RowKit Go.Dw
def hts (b : Bool) (l : List Pt) : List Int := l.map (ofE b)
def LeL (a b : List Int) : Prop := a.length = b.length ∧ ∀ k, k < a.length → gi a k ≤ gi b k
theorem LeL.refl (a : List Int) : LeL a a := ⟨rfl, fun _ _ => Int.le_refl _⟩
theorem LeL.trans {a b c : List Int} (h : LeL a b) (k : LeL b c) : LeL a c := ⟨h.1.trans k.1, fun i hi => Int.le_trans (h.2 i hi) (k.2 i (by rw [← h.1]; exact hi))⟩
theorem list_ext_gi {a b : List Int} (hl : a.length = b.length) (h : ∀ k, k < a.length → gi a k = gi b k) : a = b := by
 refine List.ext_getElem hl fun i h1 h2 => ?_
 have := h i h1
 rwa [gi_eq h1, gi_eq h2] at this
theorem list_ext_gp {a b : List Pt} (hl : a.length = b.length) (h : ∀ k, k < a.length → gp a k = gp b k) : a = b := by
 refine List.ext_getElem hl fun i h1 h2 => ?_
 have := h i h1
 rwa [gp_eq h1, gp_eq h2] at this
theorem LeL.antisymm {a b : List Int} (h : LeL a b) (k : LeL b a) : a = b :=
 list_ext_gi h.1 fun i hi => Int.le_antisymm (h.2 i hi) (k.2 i (by rw [← h.1]; exact hi))
theorem foldB_le (x : Int) : ∀ (vs : List Int) (f : Int), x ≤ foldB false f vs ↔ x ≤ f ∧ ∀ y ∈ vs, x ≤ y
 | [], f => by simp [foldB]
 | v :: vs, f => by
  have e : foldB false f (v :: vs) = foldB false (min f v) vs := by simp [foldB, pickB]
  rw [e, foldB_le x vs]
  simp only [List.mem_cons, forall_eq_or_imp]
  constructor
  ·
   rintro ⟨h1, h2⟩; exact ⟨by omega, by omega, h2⟩
  ·
   rintro ⟨h1, h2, h3⟩; exact ⟨by omega, h3⟩
theorem foldB_ge (x : Int) : ∀ (vs : List Int) (f : Int), foldB true f vs ≤ x ↔ f ≤ x ∧ ∀ y ∈ vs, y ≤ x
 | [], f => by simp [foldB]
 | v :: vs, f => by
  have e : foldB true f (v :: vs) = foldB true (max f v) vs := by simp [foldB, pickB]
  rw [e, foldB_ge x vs]
  simp only [List.mem_cons, forall_eq_or_imp]
  constructor
  ·
   rintro ⟨h1, h2⟩; exact ⟨by omega, by omega, h2⟩
  ·
   rintro ⟨h1, h2, h3⟩; exact ⟨by omega, h3⟩
theorem dist_comm (i j : Nat) : dist i j = dist j i := by simp [dist, Nat.max_comm]
theorem near_at {i n r j : Nat} (hj : j < n) (hd : dist j i < r) : ∃ k, k < nearN i n r ∧ j = nearLo i r + k := by
 unfold dist at hd
 refine ⟨j - nearLo i r, ?_, ?_⟩
 ·
  unfold nearN nearLo; omega
 ·
  unfold nearLo; omega
theorem le_walkAt {t h : List Int} {i : Nat} {x : Int} : x ≤ walkAt t h false i ↔ x ≤ gi h i ∧ ∀ j, j < h.length → dist j i < t.length → x ≤ gi h j + gi t (dist j i) := by
 unfold walkAt
 rw [foldB_le]
 refine and_congr_right fun _ => ?_
 simp only [List.mem_map, List.mem_range]
 constructor
 ·
  intro hh j hj hd
  obtain ⟨k, hk, rfl⟩ := near_at hj hd
  exact hh _ ⟨k, hk, by simp⟩
 ·
  rintro hh y ⟨k, hk, rfl⟩
  obtain ⟨h1, h2⟩ := near_lt hk
  simpa using hh _ h1 h2
theorem walkAt_le {t h : List Int} {i : Nat} {x : Int} : walkAt t h true i ≤ x ↔ gi h i ≤ x ∧ ∀ j, j < h.length → dist j i < t.length → gi h j - gi t (dist j i) ≤ x := by
 unfold walkAt
 rw [foldB_ge]
 refine and_congr_right fun _ => ?_
 simp only [List.mem_map, List.mem_range]
 constructor
 ·
  intro hh j hj hd
  obtain ⟨k, hk, rfl⟩ := near_at hj hd
  have := hh _ ⟨k, hk, rfl⟩
  simp at this
  omega
 ·
  rintro hh y ⟨k, hk, rfl⟩
  obtain ⟨h1, h2⟩ := near_lt hk
  have := hh _ h1 h2
  simp
  omega
theorem gi_walkL {t h : List Int} {d : Bool} {i : Nat} (hi : i < h.length) : gi (walkL t h d) i = walkAt t h d i := by
 rw [gi_eq (by simp [walkL]; exact hi)]; simp [walkL]
theorem adj {t g h : List Int} (hl : g.length = h.length) : LeL g (walkL t h false) ↔ LeL (walkL t g true) h := by
 constructor
 ·
  rintro ⟨_, hh⟩
  refine ⟨by rw [walkL_length, hl], fun k hk => ?_⟩
  rw [walkL_length] at hk
  rw [gi_walkL hk, walkAt_le]
  have hk' : k < h.length := by omega
  refine ⟨?_, fun j hj hd => ?_⟩
  ·
   have := hh k hk
   rw [gi_walkL hk', le_walkAt] at this
   exact this.1
  ·
   have := hh j hj
   rw [gi_walkL oM, le_walkAt] at this
   have := this.2 k hk' (by rw [dist_comm]; exact hd)
   rw [dist_comm] at this
   omega
 ·
  rintro ⟨_, hh⟩
  refine ⟨by rw [walkL_length, hl], fun k hk => ?_⟩
  have hk' : k < h.length := by omega
  rw [gi_walkL hk', le_walkAt]
  refine ⟨?_, fun j hj hd => ?_⟩
  ·
   have := hh k (by rw [walkL_length]; exact hk)
   rw [gi_walkL hk, walkAt_le] at this
   exact this.1
  ·
   have := hh j (by rw [walkL_length]; omega)
   rw [gi_walkL oM, walkAt_le] at this
   have := this.2 k hk (by rw [dist_comm]; exact hd)
   rw [dist_comm] at this
   omega
theorem sweep_le (t h : List Int) : LeL (sweepT t h) h := (adj (by simp [walkL_length])).1 (LeL.refl _)
theorem le_sweep_read (t h : List Int) : LeL (readT t h) (sweepT t h) := by
 refine ⟨by simp [readT, sweepT, walkL_length], fun k hk => ?_⟩
 have hk' : k < (walkL t h false).length := hk
 show gi (readT t h) k ≤ gi (walkL t (walkL t h false) true) k
 rw [gi_walkL hk']
 exact (walkAt_le.1 (Int.le_refl _)).1
theorem hts_length (b : Bool) (l : List Pt) : (hts b l).length = l.length := by simp [hts]
theorem gi_hts {b : Bool} {l : List Pt} {k : Nat} (hk : k < l.length) : gi (hts b l) k = ofE b (gp l k) := by
 rw [gi_eq (by rw [hts_length]; exact hk), gp_eq hk]; simp [hts]
theorem pts_ext {a b : List Pt} (h : ∀ inn, hts inn a = hts inn b) : a = b := by
 have hl : a.length = b.length := by have := congrArg List.length (h true); simpa [hts_length] using this
 refine list_ext_gp hl fun k hk => ?_
 have h0 := congrArg (gi · k) (h true)
 have h1 := congrArg (gi · k) (h false)
 simp only [gi_hts hk, gi_hts (show k < b.length by omega), ofE] at h0 h1
 exact Prod.ext (by simpa using h0) (by simpa using h1)
theorem inside_iff {a b : List Pt} : Inside a b ↔ ∀ inn, LeL (hts inn a) (hts inn b) := by
 constructor
 ·
  rintro ⟨hl, h⟩ inn
  refine ⟨by simp [hts_length, hl], fun k hk => ?_⟩
  rw [hts_length] at hk
  have := h k hk
  unfold inK at this
  rw [gi_hts hk, gi_hts oM]
  cases inn <;> simp [ofE] <;> omega
 ·
  intro h
  have hl : a.length = b.length := by have := (h true).1; simpa [hts_length] using this
  refine ⟨hl, fun k hk => ?_⟩
  have h0 := (h true).2 k (by rw [hts_length]; exact hk)
  have h1 := (h false).2 k (by rw [hts_length]; exact hk)
  rw [gi_hts hk, gi_hts oM] at h0 h1
  simp [ofE] at h0 h1
  exact ⟨h1, h0⟩
theorem hts_walls {thr : List Int → List Int} {l : List Pt} (hthr : ∀ inn, (thr (hts inn l)).length = l.length) (b : Bool) : hts b (wallsT thr l) = thr (hts b l) := by
 have e0 : ∀ inn, gi ((thr (hts inn l)).map (backE inn)) = fun k => backE inn (gi (thr (hts inn l)) k) := by
  intro inn; funext k
  unfold gi
  simp only [List.getD_eq_getElem?_getD, List.getElem?_map]
  cases (thr (hts inn l))[k]? <;> cases inn <;> simp [backE]
 refine list_ext_gi (by rw [hts_length, hthr]; simp [wallsT, wallsP]) fun k hk => ?_
 have hk' : k < l.length := by simpa [hts_length, wallsT, wallsP] using hk
 rw [gi_hts (by simpa [wallsT, wallsP] using hk'), gp_eq (by simpa [wallsT, wallsP] using hk')]
 have e1 := congrFun (e0 true) k
 have e2 := congrFun (e0 false) k
 simp only [hts] at e1 e2
 cases b
 ·
  simp [wallsT, wallsP, ofE, e2, hts, backE]
 ·
  simp [wallsT, wallsP, ofE, e1, hts, backE]
theorem hts_readP (t : List Int) (l : List Pt) (b : Bool) : hts b (readP t l) = readT t (hts b l) := hts_walls (fun inn => by rw [readT, walkL_length, hts_length]) b
theorem hts_sweepP (t : List Int) (l : List Pt) (b : Bool) : hts b (sweepP t l) = sweepT t (hts b l) := hts_walls (fun inn => by rw [sweepT, walkL_length, walkL_length, hts_length]) b
theorem readP_length (t : List Int) (l : List Pt) : (readP t l).length = l.length := by simp [readP, wallsT, wallsP]
theorem checkBoth_of {t : List Int} {l : List Pt} (h : checkTip t = 0) (k : checkPts l = 0) : checkBoth t l = 0 := by rw [checkBoth, if_pos h]; exact k
theorem wallsR_eq {t : List Int} {l : List Pt} (h : checkBoth t l = 0) : wallsR t l = readP t l := by simp [wallsR, h]
theorem readP_in_sweepP (t : List Int) (l : List Pt) : Inside (readP t l) (sweepP t l) := inside_iff.2 fun inn => by rw [hts_readP, hts_sweepP]; exact le_sweep_read _ _
theorem sweepP_in (t : List Int) (l : List Pt) : Inside (sweepP t l) l := inside_iff.2 fun inn => by rw [hts_sweepP]; exact sweep_le _ _
end Go.Proofs.YtpmchnojeloohaaGreatDoor
