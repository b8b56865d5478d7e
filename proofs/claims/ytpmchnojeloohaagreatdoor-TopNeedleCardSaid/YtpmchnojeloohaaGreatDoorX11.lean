/-
  Several texts in one: The samples of points: the walks of both copies. Conditions: told in each theorem. .. Outermost cuts: the walk of the program. Conditions: told in each theorem.
-/
import Derived.Test.YtpmchnojeloohaaGreatDoorAbs42
import Derived.Test.YtpmchnojeloohaaGreatDoorX10
import Derived.Test.YtpmchnojeloohaaGreatDoorX04
import Derived.Test.YtpmchnojeloohaaGreatDoorX05
import Derived.Test.YtpmchnojeloohaaGreatDoorX01
import Derived.Test.YtpmchnojeloohaaGreatDoorX02
import Derived.Test.YtpmchnojeloohaaGreatDoorX00
namespace Go.Proofs.YtpmchnojeloohaaGreatDoor
open Go.Ab Go.RowKit Go.Dw Go.Shelf
def dstB (g d n : Int) : Bool := decide (gAmt d ≤ chE g n)
theorem chE_nn {g n : Int} (hg : 0 ≤ g) (hn : 0 ≤ n) : chE g n = n * g / 1000 := by
  unfold chE
  rw [Int.tdiv_eq_ediv_of_nonneg (Int.mul_nonneg hn hg)]
theorem chE_mono' {g m n : Int} (hg : 0 ≤ g) (h0 : 0 ≤ m) (h : m ≤ n) : chE g m ≤ chE g n := by
  rw [chE_nn hg h0, chE_nn hg oM]
  exact Int.ediv_le_ediv (by decide) (Int.mul_le_mul_of_nonneg_right h hg)
theorem dst_fst {g d : Int} (hg : 0 ≤ g) : ∃ F, IsFst (dstB g d) 32768 F := fst_exists (by decide) fun m n h0 hmn _ hm => by
  unfold dstB at hm ⊢
  rw [decide_eq_true_eq] at hm ⊢
  exact Int.le_trans hm (chE_mono' hg h0 hmn)
def rdN (d F : Int) : Int := if d < 0 then -F else F
set_option maxRecDepth 100000 in
theorem back11_ac (c : Cut) (d n : Int) (hc : cutE c = 0) (hd : -8388608 ≤ d ∧ d ≤ 8388608) (hn : 0 ≤ n ∧ n ≤ 32768) :
    AC Tryz.prog 46 [.i n, .ptr [.i c.half, .i c.gain, .i c.thin, .i c.wide, .i c.slope, .i c.jerk, .i c.sty], .ptr [.i d]] (.b (dstB c.gain d n)) [] := by
  obtain ⟨_, ⟨b1, b2⟩, _⟩ := cutE_ok.1 hc
  have m1 := gMul (m := 32768) (n := 100000) (a := n) (b := c.gain) oM oM
  refine acI hTT hMX Tryz.func46 Tryz.ntmps46 fun C hC hF => ?_
  refine sX hTT 2 1 [] tI (sK fun K hK => wD 3 (aX hTT 6 [(3, .i (n * Cut.gain c)), (4, .c ((0 : Int) < (1000 : Int) ∧ (-9223372036854775808 : Int) ≤ n * Cut.gain c ∧ n * Cut.gain c ≤ 9223372036854775807))] ⟨oM, ⟨oM, oM⟩, tI⟩ ?_))
  refine eC (gAmount_ac d oM) ?_
  refine aX hTT 2 [] tI (aops_nil ⟨kR, (xt_n (hK _ ?_))⟩); clear hK K
  refine aw_ret ?_
  refine rP (V.b (decide (gAmt d ≤ Int.tdiv (n * Cut.gain c) (1000 : Int))))
abbrev bkV (c : Cut) (d : Int) : V := .fn (.func 46) [] [.ptr [.i c.half, .i c.gain, .i c.thin, .i c.wide, .i c.slope, .i c.jerk, .i c.sty], .ptr [.i d]]
abbrev yyGA120 (c : Cut) (d : Int) : List V := [V.ptr [V.i (Cut.half c), V.i (Cut.gain c), V.i (Cut.thin c), V.i (Cut.wide c), V.i (Cut.slope c), V.i (Cut.jerk c), V.i (Cut.sty c)], V.ptr [V.i d]]
set_option maxRecDepth 100000 in
theorem first1B_ac (c : Cut) (d n : Int) (hc : cutE c = 0) (hd : -8388608 ≤ d ∧ d ≤ 8388608) (hn : 0 ≤ n ∧ n ≤ 32768) :
    AC Tryz.prog 82 [.i n, .ptr [bkV c d]] (.b (dstB c.gain d n)) [] := by
  refine acI hTT hMX Tryz.func82 Tryz.ntmps82 fun C hC hF => ?_
  refine sX hTT 2 1 [] tI (sK fun K hK => wR 3 (aX hTT 2 [] tI ?_))
  refine e_call (first := []) (caps := (yyGA120 c d)) (back11_ac c d n hc hd hn) kR kR kR kR kR ?_
  refine aX hTT 1 [] tI (nK hK ?_); clear hK K
  refine aw_ret ?_
  refine rP (V.b (dstB (Cut.gain c) d n))
abbrev yyGA121 (c : Cut) (d : Int) : List V := [V.ptr [V.fn (Fn.func (46 : Nat)) [] (yyGA120 c d)]]
set_option maxRecDepth 100000 in
theorem searchB_ac (c : Cut) (d F : Int) (hc : cutE c = 0) (hd : -8388608 ≤ d ∧ d ≤ 8388608) (hF' : IsFst (dstB c.gain d) 32768 F) :
    AC Tryz.prog 81 [.i 32768, .fn (.func 82) [] [.ptr [bkV c d]]] (.i F) [] := by
  have hFb := hF'.b
  refine acI hTT hMX Tryz.func81 Tryz.ntmps81 fun C hC hF => ?_
  refine sK fun K hK => wR 2 ?_
  refine aops_n hTT (M := []) (n := 1) [pv 4 (V.i 0)] kR kR tI ?_
  refine nK hK ?_; clear hK K; refine sK fun K hK => wR 3 ?_
  refine aops_n hTT (M := []) (n := 3) [pv 8 (V.i 32768), pv 5 (V.i 0), pv 6 (V.i 32768)] kR kR tI ?_
  refine nK hK ?_; clear hK K; refine sK fun K hK => ?_
  refine aw_block ?_
  refine w_loop (ι := Int × Int) (fun s => [(0, .i 32768), (1, .fn (.func 82) [] [.ptr [bkV c d]]), (5, .i s.1), (6, .i s.2)]) (fun _ => [])
    (fun s => 0 ≤ s.1 ∧ s.1 ≤ F ∧ F ≤ s.2 ∧ s.2 ≤ 32768) (fun s => (s.2 - s.1).toNat) (0, 32768) ⟨Int.le_refl _, hFb.1, hFb.2, Int.le_refl _⟩ ?_ ?_
  · refine le_ren [] (.cons kR (.cons kR (.cons kR (.cons kR .nil)))) .nil kR kR
  rintro ⟨i, j⟩ ⟨h1, h2, h3, h4⟩
  simp only at h1 h2 h3 h4
  refine sK fun K hK => sK fun K hK => wR 2 ?_
  refine aops_n hTT (M := []) (n := 3) [pv 9 (V.i i), pv 10 (V.i j), pv 11 (V.b (decide (i < j)))] kR kR tI ?_
  refine nK hK ?_; clear hK K
  refine w_cond (t := decide (i < j)) kR (fun c1 => ?_) (fun c1 => ?_)
  · have c1 : i < j := by simpa using c1
    obtain ⟨m, hm⟩ : ∃ m : Int, (i + j).fdiv ((2 : Int) ^ min (1 : Nat) (IntKind.bits IntKind.u64)) = m := ⟨_, rfl⟩
    have m1 : i ≤ m ∧ m < j := by
      have : (i + j).fdiv ((2 : Int) ^ min (1 : Nat) (IntKind.bits IntKind.u64)) = (i + j) / 2 := by
        rw [Int.fdiv_eq_ediv_of_nonneg _ (by decide)]; rfl
      omega
    refine aw_skip ?_
    refine xt_n (hK _ ?_); clear hK K
    refine aw_block ?_
    refine sK fun K hK => wR 3 ?_
    refine aops_n hTT (M := []) (n := 7) [pv 12 (V.i i), pv 13 (V.i j), pc 14 ((-9223372036854775808 : Int) ≤ i + j ∧ i + j ≤ 9223372036854775807) (V.i (i + j)), pc 15 ((0 : Int) ≤ i + j ∧ i + j ≤ 18446744073709551615) (V.c (Value.int IntKind.u64 (i + j))), pc 16 ((0 : Int) ≤ (1 : Int)) (V.c (Value.int IntKind.u64 (Int.fdiv (i + j) ((2 : Int) ^ min (1 : Nat) (IntKind.bits IntKind.u64))))), pc 17 ((-9223372036854775808 : Int) ≤ Int.fdiv (i + j) ((2 : Int) ^ min (1 : Nat) (IntKind.bits IntKind.u64)) ∧ Int.fdiv (i + j) ((2 : Int) ^ min (1 : Nat) (IntKind.bits IntKind.u64)) ≤ 9223372036854775807) (V.i (Int.fdiv (i + j) ((2 : Int) ^ min (1 : Nat) (IntKind.bits IntKind.u64)))), pv 7 (V.i (Int.fdiv (i + j) ((2 : Int) ^ min (1 : Nat) (IntKind.bits IntKind.u64))))] kR kR ⟨oM, oM, oM, oM, tI⟩ ?_
    refine nK hK ?_; clear hK K; refine sK fun K hK => ?_
    rw [hm]
    refine wR 4 ?_
    refine aops_n hTT (M := []) (n := 2) [pv 18 (V.fn (Fn.func (82 : Nat)) [] (yyGA121 c d)), pv 19 (V.i m)] kR kR tI ?_
    refine e_call (first := []) (caps := (yyGA121 c d)) (first1B_ac c d m hc hd oM) kR kR kR kR kR ?_
    refine aops_n hTT (M := []) (n := 1) [pv 21 (V.b !dstB (Cut.gain c) d m)] kR kR tI ?_
    refine nK hK ?_; clear hK K
    refine w_cond (t := !dstB (Cut.gain c) d m) kR (fun c2 => ?_) (fun c2 => ?_)
    · have q : dstB c.gain d m = false := by simpa using c2
      have m2 : m < F := by
        refine Int.not_le.1 fun h => ?_
        rw [hF'.hi m h oM] at q; cases q
      refine wR 5 ?_
      refine aops_n hTT (M := []) (n := 3) [pv 22 (V.i m), pc 23 ((-9223372036854775808 : Int) ≤ m + 1 ∧ m + 1 ≤ (9223372036854775807 : Int)) (V.i (m + 1)), pv 5 (V.i (m + 1))] kR kR ⟨oM, tI⟩ ?_
      refine aops_nil (xb_n (xt_n ?_))
      refine ⟨(m + 1, j), ⟨by show 0 ≤ m + 1; omega, by show m + 1 ≤ F; omega, h3, h4⟩, ?_, by show (j - (m + 1)).toNat < (j - i).toNat; omega⟩
      refine le_ren [] (.cons kR (.cons kR (.cons kR (.cons kR .nil)))) .nil kR kR
    · have q : dstB c.gain d m = true := by simpa using c2
      have m2 : F ≤ m := by
        refine Int.not_lt.1 fun h => ?_
        rw [hF'.lo m oM h] at q; cases q
      refine wR 5 ?_
      refine aops_n hTT (M := []) (n := 2) [pv 24 (V.i m), pv 6 (V.i m)] kR kR tI ?_
      refine aops_nil (xb_n (xt_n ?_))
      refine ⟨(i, m), ⟨h1, h2, m2, by show m ≤ 32768; omega⟩, ?_, by show (m - i).toNat < (j - i).toNat; omega⟩
      refine le_ren [] (.cons kR (.cons kR (.cons kR (.cons kR .nil)))) .nil kR kR
  · have c1 : j ≤ i := by simpa using c1
    obtain rfl : i = F := by omega
    refine aw_exit ?_
    refine xt_x ?_; refine xt_x ?_
    refine xb_same ?_
    refine xt_n ?_; clear hK K; refine hK _ ?_; clear hK K; refine sK fun K hK => wR 3 ?_
    refine aops_n hTT (M := []) (n := 2) [pv 25 (V.i i), pv 4 (V.i i)] kR kR tI ?_
    refine nK hK ?_; clear hK K
    refine aw_ret ?_
    refine rP (V.i i)
set_option maxRecDepth 100000 in
theorem firstB_ac (c : Cut) (d F : Int) (hc : cutE c = 0) (hd : -8388608 ≤ d ∧ d ≤ 8388608) (hF' : IsFst (dstB c.gain d) 32768 F) :
    AC Tryz.prog 45 [.i 32767, bkV c d] (.i F) [] := by
  have hFb := hF'.b
  refine acI hTT hMX Tryz.func45 Tryz.ntmps45 fun C hC hF => ?_
  refine sX hTT 2 2 [] tI (sK fun K hK => wR 3 (aX hTT 3 [(1, .i ((32767 : Int) + (1 : Int)))] ⟨oM, tI⟩ ?_))
  refine eC (searchB_ac c d F hc hd hF') ?_
  refine aX hTT 1 [] tI (nK hK ?_); clear hK K
  refine aw_ret ?_
  refine rP (V.i F)
set_option maxRecDepth 100000 in
theorem back1_ac (c : Cut) (d F : Int) (hc : cutE c = 0) (hd : -8388608 ≤ d ∧ d ≤ 8388608) (hF' : IsFst (dstB c.gain d) 32768 F) :
    AC Tryz.prog 44 [.i d, .ptr [.i c.half, .i c.gain, .i c.thin, .i c.wide, .i c.slope, .i c.jerk, .i c.sty]] (.i (rdN d F)) [] := by
  have hFb := hF'.b
  refine acI hTT hMX Tryz.func44 Tryz.ntmps44 fun C hC hF => ?_
  refine sX hTT 2 2 [] tI (sK fun K hK => wR 3 (aX hTT 1 [] tI ?_))
  refine eC (firstB_ac c d F hc hd hF') ?_
  refine aX hTT 1 [] tI (nK hK ?_); clear hK K; refine sK fun K hK => sX hTT 4 2 [] tI ?_
  refine w_cond (t := decide (d < 0)) kR (fun c1 => ?_) (fun c1 => ?_)
  · refine sK fun K hK => ?_
    refine wR 5 (aX hTT 3 [(1, .i (-F))] ⟨oM, tI⟩ (nK hK ?_)); clear hK K
    refine aw_ret ?_
    refine xt_r ?_
    rw [rdN, if_pos (by simpa using c1)]
    refine rP (V.i (-F))
  · refine aw_skip ?_
    refine xt_n (hK _ ?_); clear hK K; refine sX hTT 5 2 [] tI ?_
    refine aw_ret ?_
    rw [rdN, if_neg (by simpa using c1)]
    refine rP (V.i F)
def backR (c : Cut) (p : Pt) (F G : Int) : Pt × Int :=
  if cutE c = 0 ∧ gE p = true then (if sE (rdN (p.2 - c.half) F, rdN (p.1 + c.half) G) = true ∧ wallP c (rdN (p.2 - c.half) F, rdN (p.1 + c.half) G) = p then ((rdN (p.2 - c.half) F, rdN (p.1 + c.half) G), 0) else ((0, 0), 5)) else ((0, 0), 2)
theorem backR_1 {c : Cut} {p : Pt} {F G : Int} (h : ¬ (cutE c = 0 ∧ gE p = true)) : backR c p F G = ((0, 0), 2) := by rw [backR, if_neg h]
theorem backR_2 {c : Cut} {p : Pt} {F G : Int} (h : cutE c = 0 ∧ gE p = true) (h2 : ¬ (sE (rdN (p.2 - c.half) F, rdN (p.1 + c.half) G) = true ∧ wallP c (rdN (p.2 - c.half) F, rdN (p.1 + c.half) G) = p)) : backR c p F G = ((0, 0), 5) := by rw [backR, if_pos h, if_neg h2]
theorem backR_3 {c : Cut} {p : Pt} {F G : Int} (h : cutE c = 0 ∧ gE p = true) (h2 : sE (rdN (p.2 - c.half) F, rdN (p.1 + c.half) G) = true ∧ wallP c (rdN (p.2 - c.half) F, rdN (p.1 + c.half) G) = p) : backR c p F G = ((rdN (p.2 - c.half) F, rdN (p.1 + c.half) G), 0) := by rw [backR, if_pos h, if_pos h2]
structure BOk (c : Cut) (p : Pt) (F G : Int) : Prop where
  f : cutE c = 0 → gE p = true → IsFst (dstB c.gain (p.2 - c.half)) 32768 F
  g : cutE c = 0 → gE p = true → IsFst (dstB c.gain (p.1 + c.half)) 32768 G
theorem bOk_ex (c : Cut) (p : Pt) : ∃ F G, BOk c p F G := by
  by_cases h : cutE c = 0
  · obtain ⟨_, ⟨b1, b2⟩, _⟩ := cutE_ok.1 h
    obtain ⟨F, hF⟩ := dst_fst (d := p.2 - c.half) b1
    obtain ⟨G, hG⟩ := dst_fst (d := p.1 + c.half) b1
    exact ⟨F, G, fun _ _ => hF, fun _ _ => hG⟩
  · exact ⟨0, 0, fun a _ => absurd a h, fun a _ => absurd a h⟩
theorem rd_bd {d F : Int} (h : 0 ≤ F ∧ F ≤ 32768) : -32768 ≤ rdN d F ∧ rdN d F ≤ 32768 := by unfold rdN; split <;> omega
abbrev yyGA127 (c : Cut) : List V := [V.i (Cut.half c), V.i (Cut.gain c), V.i (Cut.thin c), V.i (Cut.wide c), V.i (Cut.slope c), V.i (Cut.jerk c), V.i (Cut.sty c)]
abbrev yyGA125 (c : Cut) : V := V.ptr (yyGA127 c)
abbrev yyGA124 (c : Cut) : List V := [(yyGA125 c)]
abbrev yyGA123 (c : Cut) : V := V.fn (Fn.func (44 : Nat)) [] (yyGA124 c)
abbrev yyGA126 (c : Cut) : V := V.agg (yyGA127 c)
abbrev yyGA1214 (c : Cut) (p : Pt) (F : Int) (G : Int) := (rdN (Prod.snd p - Cut.half c) F, rdN (Prod.fst p + Cut.half c) G)
abbrev yyGA128 (c : Cut) (p : Pt) (F : Int) (G : Int) := ((if sE (yyGA1214 c p F G) = true then (0 : Int) else (2 : Int)) = 0)
abbrev yyGA1213 (c : Cut) (p : Pt) (F : Int) (G : Int) := (wallP c (yyGA1214 c p F G))
abbrev yyGA129 (c : Cut) (p : Pt) (F : Int) (G : Int) := (Prod.fst (yyGA1213 c p F G) = Prod.fst p)
abbrev yyGA1210 (c : Cut) (p : Pt) (F : Int) (G : Int) := (Prod.snd (yyGA1213 c p F G) = Prod.snd p)
abbrev yyGA1212 (c : Cut) (p : Pt) (F : Int) (G : Int) : List V := [V.i (rdN (Prod.snd p - Cut.half c) F), V.i (rdN (Prod.fst p + Cut.half c) G)]
abbrev yyGA1211 (c : Cut) (p : Pt) (F : Int) (G : Int) : V := V.agg (yyGA1212 c p F G)
set_option maxRecDepth 100000 in
theorem Back_ac (c : Cut) (p : Pt) (F G : Int) (hb : BOk c p F G) : AC Tryz.prog 19 [c.v, .agg [.i p.1, .i p.2]] (.tup [.agg [.i (backR c p F G).1.1, .i (backR c p F G).1.2], .i (backR c p F G).2]) [] := by
  refine acI hTT hMX Tryz.func19 Tryz.ntmps19 fun C hC hF => ?_
  refine sK fun K hK => wR 2 ?_
  refine aops_n hTT (M := []) (n := 4) [pv 2 ((yyGA125 c)), pv 3 (V.ptr [V.i (Prod.fst p), V.i (Prod.snd p)]), pn 4 (V.ref 100004 0) (100004 : Nat) (Ob.box 57 [V.i 0, V.i 0]), pv 5 (V.i 0)] kR kR tI ?_
  refine nK hK ?_; clear hK K; refine sK fun K hK => sK fun K hK => wR 3 ?_
  refine aops_n hTT (M := []) (n := 1) [pv 9 ((yyGA126 c))] kR kR tI ?_
  refine eC (cutCheck_ac c) ?_
  refine aops_n hTT (M := []) (n := 1) [pv 6 (V.i (cutE c))] kR kR tI ?_
  refine nK hK ?_; clear hK K; refine sK fun K hK => wR 4 ?_
  refine aops_n hTT (M := []) (n := 2) [pv 11 (V.i (cutE c)), pv 12 (V.b !decide (cutE c = 0))] kR kR tI ?_
  refine nK hK ?_; clear hK K
  refine w_cond (t := !decide (cutE c = 0)) kR (fun c1 => ?_) (fun c1 => ?_)
  · have h : ¬ cutE c = 0 := by simpa using c1
    refine sK fun K hK => wR 5 ?_
    refine aops_n hTT (M := []) (n := 4) [pv 13 (V.agg [V.i 0, V.i 0]), pv 14 (V.i (cutE c)), pw ((0 : Nat) + (2 : Nat) ≤ (2 : Nat)) (100004 : Nat) (Ob.box 57 [V.i 0, V.i 0]), pv 5 (V.i (cutE c))] kR kR ⟨oM, tI⟩ ?_
    refine nK hK ?_; clear hK K
    refine aw_ret ?_
    refine xt_r ?_
    refine ret_of_le (le_freezeBox (t := (57 : Nat)) (cs := [V.i 0, V.i 0]) 100004 kR kR) ?_
    rw [backR_1 fun h2 => h h2.1, (cutE_cases c).resolve_left h]
    refine rP (V.tup [V.agg [V.i 0, V.i 0], V.i 2])
  have h : cutE c = 0 := by simpa using c1
  refine aw_skip ?_
  refine xt_n (hK _ ?_); clear hK K; refine sK fun K hK => sK fun K hK => wR 5 ?_
  refine aops_n hTT (M := []) (n := 1) [pv 15 (V.agg [V.i (Prod.fst p), V.i (Prod.snd p)])] kR kR tI ?_
  refine eC (gEdged_ac p) ?_
  refine aops_n hTT (M := []) (n := 1) [pv 17 (V.b !gE p)] kR kR tI ?_
  refine nK hK ?_; clear hK K
  refine w_cond (t := !gE p) kR (fun c2 => ?_) (fun c2 => ?_)
  · refine sK fun K hK => ?_
    refine wR 6 ?_
    refine aops_n hTT (M := []) (n := 3) [pv 18 (V.agg [V.i 0, V.i 0]), pw ((0 : Nat) + (2 : Nat) ≤ (2 : Nat)) (100004 : Nat) (Ob.box 57 [V.i 0, V.i 0]), pv 5 (V.i 2)] kR kR ⟨oM, tI⟩ ?_
    refine nK hK ?_; clear hK K
    refine aw_ret ?_
    refine xt_r ?_
    refine ret_of_le (le_freezeBox (t := (57 : Nat)) (cs := [V.i 0, V.i 0]) 100004 kR kR) ?_
    rw [backR_1 fun h2 => by rw [h2.2] at c2; cases c2]
    refine rP (V.tup [V.agg [V.i 0, V.i 0], V.i 2])
  have h2 : gE p = true := by simpa using c2
  have kf := hb.f h h2
  have kg := hb.g h h2
  obtain ⟨⟨a1, a2⟩, ⟨b1, b2⟩, _⟩ := cutE_ok.1 h
  have hp := gE_iff.1 h2
  have rL := rd_bd (d := p.2 - c.half) kf.b
  have rR := rd_bd (d := p.1 + c.half) kg.b
  obtain ⟨s, hs⟩ : ∃ s : Pt, s = (rdN (p.2 - c.half) F, rdN (p.1 + c.half) G) := ⟨_, rfl⟩
  have T := tCheckSamples_ac [s] (by simp)
  have Q := point_ac c s h (by rw [hs]; exact ⟨rL, rR⟩)
  rw [show sChk [s] = if sE s = true then 0 else 2 by simp [sChk]] at T
  rw [hs] at T Q
  refine aw_skip ?_
  refine xt_n (hK _ ?_); clear hK K; refine sK fun K hK => wR 6 ?_
  refine aops_n hTT (M := []) (n := 2) [pv 19 ((yyGA123 c)), pv 7 ((yyGA123 c))] kR kR tI ?_
  refine nK hK ?_; clear hK K; refine sK fun K hK => wD 7 ?_
  refine aops_n hTT (M := []) (n := 6) [pv 20 ((yyGA123 c)), pv 21 (V.ptr [V.i (Prod.snd p)]), pv 22 (V.i (Prod.snd p)), pv 23 ((yyGA125 c)), pv 24 (V.i (Cut.half c)), pc 25 ((-9223372036854775808 : Int) ≤ Prod.snd p - Cut.half c ∧ Prod.snd p - Cut.half c ≤ 9223372036854775807) (V.i (Prod.snd p - Cut.half c))] kR kR ⟨oM, tI⟩ ?_
  refine e_call (first := []) (caps := (yyGA124 c)) (back1_ac c (p.2 - c.half) F h oM kf) kR kR kR kR kR ?_
  refine aops_n hTT (M := []) (n := 6) [pv 27 ((yyGA123 c)), pv 28 (V.ptr [V.i (Prod.fst p), V.i (Prod.snd p)]), pv 29 (V.i (Prod.fst p)), pv 30 ((yyGA125 c)), pv 31 (V.i (Cut.half c)), pc 32 ((-9223372036854775808 : Int) ≤ Prod.fst p + Cut.half c ∧ Prod.fst p + Cut.half c ≤ 9223372036854775807) (V.i (Prod.fst p + Cut.half c))] kR kR ⟨oM, tI⟩ ?_
  refine e_call (first := []) (caps := (yyGA124 c)) (back1_ac c (p.1 + c.half) G h oM kg) kR kR kR kR kR ?_
  refine aops_n hTT (M := []) (n := 3) [pv 34 ((yyGA1211 c p F G)), pn 8 (V.ref 600008 0) (600008 : Nat) (Ob.box 57 [V.i 0, V.i 0]), pw ((0 : Nat) + (2 : Nat) ≤ (2 : Nat)) (600008 : Nat) (Ob.box 57 (yyGA1212 c p F G))] kR kR ⟨oM, tI⟩ ?_
  refine aops_nil ⟨kR, (xt_n (hK _ ?_))⟩; clear hK K; refine sK fun K hK => sK fun K hK => wD 8 ?_
  refine aops_n hTT (M := []) (n := 2) [pc 35 ((0 : Nat) ≤ (2 : Nat)) ((yyGA1211 c p F G)), pv 36 (V.sl 2 1 fun (i : Nat) => List.take (2 : Nat) (List.drop (i * 2) (yyGA1212 c p F G)))] kR kR ⟨oM, tI⟩ ?_
  refine eC (AC.conv (T) (args' := [V.sl 2 1 fun (i : Nat) => List.take (2 : Nat) (List.drop (i * 2) (yyGA1212 c p F G))]) ⟨?_, trivial⟩) ?_
  · exact RImp.rows rfl fun i hi => by obtain rfl : i = 0 := by omega
                                       rfl
  refine aops_n hTT (M := []) (n := 4) [pv 38 (V.b !decide (yyGA128 c p F G)), pv 39 (V.b !decide (yyGA128 c p F G)), pc 40 ((True ∧ True) ∧ (((!decide (yyGA128 c p F G)) == false) = true → True)) (V.gd ((!decide (yyGA128 c p F G)) == false) ((yyGA126 c))), pc 41 ((True ∧ True) ∧ (((!decide (yyGA128 c p F G)) == false) = true → (0 : Nat) ≤ (2 : Nat))) (V.gd ((!decide (yyGA128 c p F G)) == false) ((yyGA1211 c p F G)))] kR kR ⟨⟨⟨tI, tI⟩, (fun _ => tI)⟩, ⟨⟨tI, tI⟩, (by (intro _; simp; done))⟩, tI⟩ ?_
  refine eG 2 (g := (!decide (yyGA128 c p F G)) == false) (fun hh => Q) ?_
  refine aops_n hTT (M := []) (n := 3) [pc 43 ((True ∧ True) ∧ (((!decide (yyGA128 c p F G)) == false) = true → True)) (V.gd ((!decide (yyGA128 c p F G)) == false) (V.agg [V.i (Prod.fst p), V.i (Prod.snd p)])), pc 44 (((((!decide (yyGA128 c p F G)) == false) = true → ((!decide (yyGA128 c p F G)) == false) = true) ∧ (((!decide (yyGA128 c p F G)) == false) = true → ((!decide (yyGA128 c p F G)) == false) = true) ∧ True) ∧ (((!decide (yyGA128 c p F G)) == false) = true → True)) (V.gd ((!decide (yyGA128 c p F G)) == false) (V.b !(decide (yyGA129 c p F G) && (decide (yyGA1210 c p F G) && true)))), pc 45 (True ∧ ((!decide (yyGA128 c p F G)) = false → ((!decide (yyGA128 c p F G)) == false) = true)) (V.b (!decide (yyGA128 c p F G) || !(decide (yyGA129 c p F G) && (decide (yyGA1210 c p F G) && true))))] kR kR ⟨⟨⟨tI, tI⟩, (fun _ => tI)⟩, ⟨⟨(by (exact fun h => h)), ⟨(by (exact fun h => h)), tI⟩⟩, (fun _ => tI)⟩, ⟨tI, (by (intro h; rw [h]; rfl))⟩, tI⟩ ?_
  refine aops_nil ⟨kR, (xt_n (hK _ ?_))⟩; clear hK K
  refine w_cond (t := !decide ((if sE (rdN (Prod.snd p - Cut.half c) F, rdN (Prod.fst p + Cut.half c) G) = true then (0 : Int) else (2 : Int)) = 0) || !(decide (Prod.fst (wallP c (rdN (Prod.snd p - Cut.half c) F, rdN (Prod.fst p + Cut.half c) G)) = Prod.fst p) && (decide (Prod.snd (wallP c (rdN (Prod.snd p - Cut.half c) F, rdN (Prod.fst p + Cut.half c) G)) = Prod.snd p) && true))) kR (fun c3 => ?_) (fun c3 => ?_)
  · refine sK fun K hK => ?_
    refine wR 9 ?_
    refine aops_n hTT (M := []) (n := 3) [pv 46 (V.agg [V.i 0, V.i 0]), pw ((0 : Nat) + (2 : Nat) ≤ (2 : Nat)) (100004 : Nat) (Ob.box 57 [V.i 0, V.i 0]), pv 5 (V.i 5)] kR kR ⟨oM, tI⟩ ?_
    refine nK hK ?_; clear hK K
    refine aw_ret ?_
    refine xt_r ?_
    refine ret_of_le (le_freezeBox (t := (57 : Nat)) (cs := [V.i 0, V.i 0]) 100004 kR kR) ?_
    rw [backR_2 ⟨h, h2⟩ fun h3 => by
      obtain ⟨h3, h4⟩ := h3
      rw [h3, h4] at c3
      simp at c3]
    refine rP (V.tup [V.agg [V.i 0, V.i 0], V.i 5])
  · have h3 : sE (rdN (p.2 - c.half) F, rdN (p.1 + c.half) G) = true ∧ wallP c (rdN (p.2 - c.half) F, rdN (p.1 + c.half) G) = p := by
      simp at c3
      exact ⟨c3.1, Prod.ext c3.2.1 c3.2.2⟩
    refine aw_skip ?_
    refine xt_n (hK _ ?_); clear hK K; refine sK fun K hK => wR 9 ?_
    refine aops_n hTT (M := []) (n := 3) [pc 47 ((0 : Nat) ≤ (2 : Nat)) ((yyGA1211 c p F G)), pw ((0 : Nat) + (2 : Nat) ≤ (2 : Nat)) (100004 : Nat) (Ob.box 57 (yyGA1212 c p F G)), pv 5 (V.i 0)] kR kR ⟨oM, oM, tI⟩ ?_
    refine nK hK ?_; clear hK K
    refine aw_ret ?_
    refine ret_of_le (le_freezeBox (t := (57 : Nat)) (cs := (yyGA1212 c p F G)) 100004 kR kR) ?_
    rw [backR_3 ⟨h, h2⟩ h3]
    refine rP (V.tup [(yyGA1211 c p F G), V.i 0])
end Go.Proofs.YtpmchnojeloohaaGreatDoor

namespace Go.Proofs.YtpmchnojeloohaaGreatDoor
open Go.Ab Go.RowKit Go.Dw Go.Shelf
theorem chE_opp (g n : Int) : chE g (-n) = -chE g n := by unfold chE; rw [Int.neg_mul, Int.neg_tdiv]
theorem chE_ge0 {g n : Int} (hg : 0 ≤ g) (hn : 0 ≤ n) : 0 ≤ chE g n := by
 rw [chE_nn hg hn]; exact Int.ediv_nonneg (Int.mul_nonneg hn hg) (by decide)
theorem chE_abs {g n : Int} (hg : 0 ≤ g) : gAmt (chE g n) = chE g (gAmt n) := by
 rcases Int.le_total 0 n with h | h
 ·
  have e : gAmt n = n := by unfold gAmt; omega
  have := chE_ge0 hg h
  rw [e]; unfold gAmt; omega
 ·
  have e : gAmt n = -n := by unfold gAmt; omega
  have h2 := chE_ge0 hg (show 0 ≤ -n by omega)
  rw [chE_opp] at h2
  rw [e, chE_opp]; unfold gAmt; omega
theorem gAmt_rd {d F : Int} (h : 0 ≤ F) : gAmt (rdN d F) = F := by unfold rdN gAmt; split <;> omega
theorem chan_back {g x F : Int} (hg : 0 ≤ g ∧ g ≤ 100000) (hx : -32767 ≤ x ∧ x ≤ 32767) (hF : IsFst (dstB g (chE g x)) 32768 F) :
  F ≤ gAmt x ∧ chE g (rdN (chE g x) F) = chE g x ∧ (1000 ≤ g → rdN (chE g x) F = x) := by
 have hb := hF.b
 have ax : 0 ≤ gAmt x ∧ gAmt x ≤ 32767 := by unfold gAmt; omega
 have p1 : dstB g (chE g x) (gAmt x) = true := by unfold dstB; rw [chE_abs hg.1, decide_eq_true_eq]; exact Int.le_refl _
 have f1 : F ≤ gAmt x := (hF.iff ax.1 oM).1 p1
 have p2 := hF.hi F (Int.le_refl _) oM
 unfold dstB at p2
 rw [decide_eq_true_eq, chE_abs hg.1] at p2
 have e : chE g F = chE g (gAmt x) := Int.le_antisymm (chE_mono' hg.1 hb.1 f1) p2
 have ea := chE_abs (g := g) (n := x) hg.1
 have e0 := chE_ge0 (g := g) (n := gAmt x) hg.1 ax.1
 have e2 : chE g (rdN (chE g x) F) = chE g x := by
  unfold rdN
  split
  ·
   rw [chE_opp, e, ← ea]; unfold gAmt; omega
  ·
   rw [e, ← ea]; unfold gAmt; omega
 refine ⟨f1, e2, fun h1000 => ?_⟩
 have hFx : F = gAmt x := by
  refine Int.le_antisymm f1 (Int.not_lt.1 fun hlt => ?_)
  have s1 : chE g F + 1 ≤ chE g (F + 1) := by
   rw [chE_nn hg.1 hb.1, chE_nn hg.1 oM, Int.add_mul, Int.one_mul]
   omega
  have s2 := chE_mono' (g := g) (m := F + 1) (n := gAmt x) hg.1 oM oM
  omega
 have big : ∀ n, 0 ≤ n → n ≤ chE g n := fun n hn => by
  rw [chE_nn hg.1 hn]
  have : n * 1000 ≤ n * g := Int.mul_le_mul_of_nonneg_left h1000 hn
  omega
 rcases Int.le_total 0 x with h | h
 ·
  have := chE_ge0 hg.1 h
  unfold rdN
  rw [if_neg oM, hFx]; unfold gAmt; omega
 ·
  by_cases h0 : x = 0
  ·
   subst h0
   have : chE g 0 = 0 := by unfold chE; simp
   unfold rdN; rw [this, if_neg (by decide), hFx]; rfl
  ·
   have b := big (-x) oM
   rw [chE_opp] at b
   unfold rdN
   rw [if_pos oM, hFx]; unfold gAmt; omega
theorem back_of_wall {c : Cut} {s : Pt} {F G : Int} (hc : cutE c = 0) (hs : sE s = true) (hb : BOk c (wallP c s) F G) : ∃ t : Pt, backR c (wallP c s) F G = (t, 0) ∧ sE t = true ∧ wallP c t = wallP c s ∧ gAmt t.1 ≤ gAmt s.1 ∧ gAmt t.2 ≤ gAmt s.2 ∧ (1000 ≤ c.gain → t = s) := by
 obtain ⟨_, ⟨b1, b2⟩, _⟩ := cutE_ok.1 hc
 have hE := wallP_gE hc hs
 have s1 := sE_iff.1 hs
 have kf := hb.f hc hE
 have kg := hb.g hc hE
 have d1 : (wallP c s).2 - c.half = chE c.gain s.1 := by simp only [wallP]; omega
 have d2 : (wallP c s).1 + c.half = chE c.gain s.2 := by simp only [wallP]; omega
 have u1 := kf.b
 have u2 := kg.b
 rw [d1] at kf
 rw [d2] at kg
 obtain ⟨f1, f2, f3⟩ := chan_back ⟨b1, b2⟩ s1.1 kf
 obtain ⟨g1, g2, g3⟩ := chan_back ⟨b1, b2⟩ s1.2 kg
 have a1 : gAmt s.1 ≤ 32767 := by unfold gAmt; omega
 have a2 : gAmt s.2 ≤ 32767 := by unfold gAmt; omega
 have w : wallP c (rdN (chE c.gain s.1) F, rdN (chE c.gain s.2) G) = wallP c s := by
  unfold wallP
  simp only
  rw [f2, g2]
 have e : sE (rdN (chE c.gain s.1) F, rdN (chE c.gain s.2) G) = true := by
  rw [sE_iff]
  simp only [rdN]
  constructor <;> split <;> omega
 refine ⟨(rdN (chE c.gain s.1) F, rdN (chE c.gain s.2) G), ?_, e, w, ?_, ?_, fun h => ?_⟩
 ·
  have := backR_3 (c := c) (p := wallP c s) (F := F) (G := G) ⟨hc, hE⟩ (by rw [d1, d2]; exact ⟨e, w⟩)
  rw [this, d1, d2]
 ·
  simp only; rw [gAmt_rd u1.1]; exact f1
 ·
  simp only; rw [gAmt_rd u2.1]; exact g1
 ·
  rw [f3 h, g3 h]
end Go.Proofs.YtpmchnojeloohaaGreatDoor

namespace Go.Proofs.YtpmchnojeloohaaGreatDoor
open Go.Ab Go.RowKit Go.Dw Go.Shelf
def Bl.c (b : Bl) : List V := [.i b.per, .i b.rim, .i b.core, .i b.land, .i b.slow, .i b.fast]
abbrev Bl.v (b : Bl) : V := .agg b.c
def blE (b : Bl) : Int := if betB b.per 1 65536 && betB b.rim 0 4194304 && betB b.core 0 b.rim && betB b.land 0 65536 && betB b.fast 0 65536 && betB b.slow 0 b.fast then 0 else 2
theorem blE_ok {b : Bl} : blE b = 0 ↔ b.ok := by
 unfold blE Bl.ok
 constructor
 ·
  intro h
  split at h
  ·
   rename_i h1
   simp [betB] at h1
   omega
  ·
   cases h
 ·
  intro h
  rw [if_pos]
  simp [betB]
  omega
structure SOk (b : Bl) (l : List Pt) : Prop where
 b0 : blE b = 0
 l0 : gChk l = 0
theorem SOk.bl {b : Bl} {l : List Pt} (h : SOk b l) : b.ok := blE_ok.1 h.b0
theorem SOk.pt {b : Bl} {l : List Pt} (h : SOk b l) (k : Nat) (hk : k < l.length) : (-4194304 ≤ (gp l k).1 ∧ (gp l k).1 ≤ 4194304) ∧ -4194304 ≤ (gp l k).2 ∧ (gp l k).2 ≤ 4194304 := gE_iff.1 ((gChk_ok.1 h.l0).2 k hk)
theorem SOk.len {b : Bl} {l : List Pt} (h : SOk b l) : l.length ≤ 4096 := (gChk_ok.1 h.l0).1
end Go.Proofs.YtpmchnojeloohaaGreatDoor

namespace Go.Proofs.YtpmchnojeloohaaGreatDoor
open Go.Ab Go.RowKit Go.Dw Go.Shelf
end Go.Proofs.YtpmchnojeloohaaGreatDoor

namespace Go.Proofs.YtpmchnojeloohaaGreatDoor
open Go.Ab Go.RowKit Go.Dw Go.Shelf
structure E5 where
 r : Int
 a : Int
 f : Int
 t : Int
 w : Int
def E5.c (x : E5) : List V := [.i x.r, .i x.a, .i x.f, .i x.t, .i x.w]
def E5.of (e : BE) : E5 := ⟨e.rule, e.at', e.f, e.t, e.w⟩
end Go.Proofs.YtpmchnojeloohaaGreatDoor

namespace Go.Proofs.YtpmchnojeloohaaGreatDoor
open Go.Ab Go.RowKit Go.Dw Go.Shelf
end Go.Proofs.YtpmchnojeloohaaGreatDoor

namespace Go.Proofs.YtpmchnojeloohaaGreatDoor
open Go.Ab Go.RowKit Go.Dw Go.Shelf
def rnd (b : Bl) (l : List Pt) (k : Nat) : BS := BS.rounds (edgesL b l) (rimI b l) k
def mid (b : Bl) (l : List Pt) (k j : Nat) : BS := (rnd b l k).begin.to k (edgesL b l) j
section
variable {b : Bl} {l : List Pt}
theorem SOk.e1 (h : SOk b l) : EOk l.length (edgesL b l) ∧ ∀ e ∈ edgesL b l, e.f ≠ e.t := edges_ok h.bl.1.1
theorem SOk.w (h : SOk b l) : ∀ e ∈ edgesL b l, -8454144 ≤ e.w ∧ e.w ≤ 8454144 := by
 obtain ⟨⟨q1, q2⟩, ⟨q3, q4⟩, ⟨q5, q6⟩, ⟨q7, q8⟩, ⟨q9, q10⟩, q11, q12⟩ := h.bl
 intro e he
 rcases edgesL_mem.1 he with ⟨i, hi, ⟨h1, rfl⟩ | ⟨h1, rfl⟩⟩ | ⟨i, h1, h2, rfl⟩
 ·
  simp only [slowE]; omega
 ·
  have a := h.pt i hi
  have c := h.pt (i - b.per.toNat) oM
  simp only [landE]; omega
 ·
  simp only [fastE]; omega
theorem SOk.i (h : SOk b l) (v : Nat) (hv : v < l.length) : -8454144 ≤ rimI b l v ∧ rimI b l v ≤ 8454144 := by
 obtain ⟨⟨q1, q2⟩, ⟨q3, q4⟩, ⟨q5, q6⟩, ⟨q7, q8⟩, ⟨q9, q10⟩, q11, q12⟩ := h.bl
 have a := h.pt v hv
 unfold rimI
 omega
theorem SOk.inv (h : SOk b l) (k : Nat) {j : Nat} (hj : j ≤ (edgesL b l).length) : BInv l.length (edgesL b l) (rimI b l) k j (mid b l k j) := binv_at h.e1.1 h.e1.2 k hj
theorem SOk.bd (h : SOk b l) {k j : Nat} (hk : k ≤ 4097) (hj : j ≤ (edgesL b l).length) {v : Nat} (hv : v < l.length) : -1152921504606846976 ≤ (mid b l k j).r v ∧ (mid b l k j).r v ≤ 8454144 := by
 have h1 := low_at (M := 8454144) (i := rimI b l) (by decide) h.e1.1 (fun e he => (h.w e he).1) (fun v hv => (h.i v hv).1) k j hj hv
 have h2 := (h.inv k hj).le v hv
 have h3 := (h.i v hv).2
 have h4 := edgesL_len (b := b) (l := l)
 have h5 := h.len
 have h6 : (k + 1) * (edgesL b l).length ≤ 4098 * 12288 := Nat.mul_le_mul oM oM
 have h7 : 8454144 * ((1 + (k + 1) * (edgesL b l).length : Nat) : Int) ≤ 8454144 * ((1 + 4098 * 12288 : Nat) : Int) := Int.mul_le_mul_of_nonneg_left oM (by decide)
 have e : mid b l k j = (BS.rounds (edgesL b l) (rimI b l) k).begin.to k (edgesL b l) j := rfl
 rw [e] at h2 ⊢
 omega
end
end Go.Proofs.YtpmchnojeloohaaGreatDoor

namespace Go.Proofs.YtpmchnojeloohaaGreatDoor
open Go.Ab Go.RowKit Go.Dw Go.Shelf
section
variable {b : Bl} {l : List Pt}
end
end Go.Proofs.YtpmchnojeloohaaGreatDoor
