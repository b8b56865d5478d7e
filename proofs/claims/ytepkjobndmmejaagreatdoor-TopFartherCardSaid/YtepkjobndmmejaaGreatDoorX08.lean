/-
  Several texts in one: The fault of a groove: the walks of the reference. Conditions: told in each theorem. .. Curves and chains that are valid: both copies. Condition: as many elements as a slice can have.
-/
import Derived.Test.YtepkjobndmmejaaGreatDoorX07
import Derived.Test.YtepkjobndmmejaaGreatDoorAbs42
import Derived.Test.YtepkjobndmmejaaGreatDoorX02
import Derived.Test.YtepkjobndmmejaaGreatDoorMC
import Derived.Test.YtepkjobndmmejaaGreatDoorX01
namespace Go.Proofs.YtepkjobndmmejaaGreatDoor
open Go.Ab Go.RowKit Go.Dw Go.Shelf
theorem RImp.int {a b : Int} (h : a = b) : RImp (V.i a) (V.i b) := by subst h; exact RImp.refl _
end Go.Proofs.YtepkjobndmmejaaGreatDoor

namespace Go.Proofs.YtepkjobndmmejaaGreatDoor
open Go.Ab Go.RowKit Go.Dw Go.Shelf
def turnE (per : Int) : Int := if betB per 1 65536 then 0 else 3
theorem turnE_ok {per : Int} : turnE per = 0 ↔ 1 ≤ per ∧ per ≤ 65536 := by
 unfold turnE
 cases h : betB per 1 65536 <;> simp [betB] at h ⊢ <;> omega
theorem turnE_or (per : Int) : turnE per = 0 ∨ turnE per = 3 := by unfold turnE; split <;> simp
theorem plcE_turn {r per : Int} : plcE r per = if betB r 0 4194304 then turnE per else 3 := by
 unfold plcE turnE
 cases betB r 0 4194304 <;> simp
structure IsFst (p : Int → Bool) (M F : Int) : Prop where
 b : 0 ≤ F ∧ F ≤ M
 lo : ∀ n, 0 ≤ n → n < F → p n = false
 hi : ∀ n, F ≤ n → n < M → p n = true
theorem fst_exists {p : Int → Bool} {M : Int} (hM : 0 ≤ M) (hm : ∀ m n, 0 ≤ m → m ≤ n → n < M → p m = true → p n = true) : ∃ F, IsFst p M F := by
 have key : ∀ k : Nat, (k : Int) ≤ M → ∃ F, (0 ≤ F ∧ F ≤ (k : Int)) ∧ (∀ n, 0 ≤ n → n < F → p n = false) ∧ ∀ n, F ≤ n → n < (k : Int) → p n = true := by
  intro k
  induction k with
  | zero => exact fun _ => ⟨0, by omega, fun n h1 h2 => by omega, fun n h1 h2 => by omega⟩
  | succ k ih =>
   intro hk
   obtain ⟨F, h1, h2, h3⟩ := ih oM
   cases hp : p k with
   | true =>
    refine ⟨F, by omega, h2, fun n a b => ?_⟩
    by_cases he : n = k
    ·
     subst he; exact hp
    ·
     exact h3 n a oM
   | false =>
    refine ⟨(k : Int) + 1, by omega, fun n a b => ?_, fun n a b => by omega⟩
    cases hn : p n with
    | false => rfl
    | true =>
     have := hm n k a oM oM hn
     rw [hp] at this; cases this
 obtain ⟨F, h1, h2, h3⟩ := key M.toNat oM
 exact ⟨F, by omega, h2, fun n a b => h3 n a oM⟩
theorem IsFst.iff {p : Int → Bool} {M F n : Int} (h : IsFst p M F) (h0 : 0 ≤ n) (hM : n < M) : p n = true ↔ F ≤ n := by
 constructor
 ·
  intro hp
  refine Int.not_lt.1 fun hl => ?_
  rw [h.lo n h0 hl] at hp; cases hp
 ·
  exact fun hl => h.hi n hl hM
end Go.Proofs.YtepkjobndmmejaaGreatDoor

namespace Go.Proofs.YtepkjobndmmejaaGreatDoor
open Go.Ab Go.RowKit Go.Dw Go.Shelf
def fitB (c : Cut) (l : List Pt) (per r : Int) : Bool := decide ((faultR c l r per).2 = 0)
abbrev TB (k : Nat) : Ob := .box 95 [.ref k 0]
theorem fault_am (c : Cut) (l : List Pt) (r per : Int) (hc : cutE c = 0) (hl : gChk l = 0) (hp : Plc r per) : AM Tryz.prog 119 [.ref 500 0] [TrO c l r per] (.tup [.i (faultR c l r per).1, .i (faultR c l r per).2]) [some (TrO c l r per)] [] :=
 AC.box (P := Tryz.prog) (fault_ac c l r per hc hl hp) 97 kR kR kR kR
abbrev RBL (k : Nat) : Ob := .box 32 [.fn (.func 118) [] [.ref k 0]]
abbrev HBL (a b : Nat) : Ob := .box 120 [.fn (.func 132) [] [.ref a 0, .ref b 0]]
abbrev zzGA80 : V := V.fn (Fn.func (132 : Nat)) [] [V.ref 501 0, V.ref 502 0]
abbrev zzGA81 : V := V.fn (Fn.func (132 : Nat)) [] [V.ref 500 0, V.ref 501 0]
abbrev qGA80 : Prop := (0 : Nat) ≤ (1 : Nat)
theorem qGA80_ : qGA80 := oM
abbrev yyGA80 (c : Cut) (l : List Pt) (r : Int) (per : Int) : Ob := Ob.box 97 [V.i (Cut.half c), V.i (Cut.gain c), V.i (Cut.thin c), V.i (Cut.wide c), V.i (Cut.slope c), V.i (Cut.jerk c), V.i (Cut.sty c), V.sl 2 (List.length l) fun (k : Nat) => [V.i (Prod.fst (gp l k)), V.i (Prod.snd (gp l k))], V.i r, V.i per]
set_option maxRecDepth 100000 in
theorem rightL_am (c : Cut) (l : List Pt) (r per : Int) (hc : cutE c = 0) (hl : gChk l = 0) (hp : Plc r per) :
  AM Tryz.prog 118 [.ref 500 0] [TB 501, TrO c l r per] (.b (fitB c l per r)) [some (TB 501), some (TrO c l r per)] [] := by
 refine am_intro hTT hMX (fn := Tryz.f118) (N := _) ⟨Tryz.func118, rfl, Tryz.ntmps118, kR⟩ (by simp) rfl (by simp) (by simp) fun C hF => ?_
 refine sK fun K hK => wR 2 ?_; refine aX hTT 1 [] tI ?_; refine nK hK ?_; clear hK K; refine sK fun K hK => wR 3 ?_; refine aX hTT 1 [(0, .c qGA80)] ⟨qGA80_, tI⟩ ?_
 refine aops_callR [501] (first := []) (caps := []) (ins' := [(yyGA80 c l r per)]) (v' := V.tup [V.i (Prod.fst (faultR c l r per)), V.i (Prod.snd (faultR c l r per))]) (δ := []) (kp := [501]) (fault_am c l r per hc hl hp) kR kR kR kR kR kR kR rfl kR kR ⟨kR, tI⟩ kR kR kR ?_
 refine aX hTT 5 [] tI ?_; refine nK hK ?_; clear hK K; refine sK fun K hK => wR 4 ?_; refine aX hTT 3 [] tI ?_; refine nK hK ?_; clear hK K
 refine aw_ret ?_
 refine retM (v' := V.b (decide (Prod.snd (faultR c l r per) = 0))) [] [(1, V.b (decide (Prod.snd (faultR c l r per) = 0)))] (.inr rfl) (.cons kR .nil) (.cons ⟨Ob.box 95 [V.ref 501 0], kR, .box kR⟩ (.cons ⟨(yyGA80 c l r per), kR, .box kR⟩ .nil)) kR kR kR kR kR kR kR
abbrev yyGA81 (c : Cut) (l : List Pt) (r' : Int) (per : Int) : Ob := Ob.box 97 [V.i (Cut.half c), V.i (Cut.gain c), V.i (Cut.thin c), V.i (Cut.wide c), V.i (Cut.slope c), V.i (Cut.jerk c), V.i (Cut.sty c), V.sl 2 (List.length l) fun (k : Nat) => [V.i (Prod.fst (gp l k)), V.i (Prod.snd (gp l k))], V.i r', V.i per]
set_option maxRecDepth 100000 in
theorem least1L_am (c : Cut) (l : List Pt) (r r' per : Int) (hc : cutE c = 0) (hl : gChk l = 0) (hp : Plc r' per) :
  AM Tryz.prog 132 [.i r', .ref 500 0, .ref 501 0] [TB 502, RBL 503, TrO c l r per, TB 502] (.b (fitB c l per r')) [some (TB 502), some (RBL 503), some (TrO c l r' per), some (TB 502)] [] := by
 refine am_intro hTT hMX (fn := Tryz.f132) (N := _) ⟨Tryz.func132, rfl, Tryz.ntmps132, kR⟩ (by simp) rfl (by simp) (by simp) fun C hF => ?_
 refine sK fun K hK => wR 2 ?_; refine aX hTT 1 [] tI ?_; refine nK hK ?_; clear hK K; refine sK fun K hK => wR 3 ?_; refine aX hTT 5 [(0, .c qGA80), (4, .r (pw ((8 : Nat) + (1 : Nat) ≤ (10 : Nat)) (502 : Nat) ((yyGA81 c l r' per))))] ⟨qGA80_, oM, tI⟩ ?_; refine nK hK ?_; clear hK K; refine sK fun K hK => wR 4 ?_; refine aX hTT 1 [(0, .c qGA80)] ⟨qGA80_, tI⟩ ?_
 refine aops_callR [503, 502] (first := []) (caps := [V.ref 503 0]) (ins' := [Ob.box 95 [V.ref 502 0], (yyGA81 c l r' per)]) (v' := V.b (fitB c l per r')) (δ := []) (kp := [503, 502]) (rightL_am c l r' per hc hl hp) kR kR kR kR kR kR kR rfl kR kR ⟨kR, ⟨kR, tI⟩⟩ kR kR kR ?_
 refine aX hTT 1 [] tI ?_; refine nK hK ?_; clear hK K
 refine aw_ret ?_
 refine retM (v' := V.b (fitB c l per r')) [] [(4, V.b (fitB c l per r'))] (.inr rfl) (.cons kR .nil) (.cons ⟨Ob.box 95 [V.ref 502 0], kR, .box kR⟩ (.cons ⟨Ob.box 32 [V.fn (Fn.func (118 : Nat)) [] [V.ref 503 0]], kR, .box kR⟩ (.cons ⟨(yyGA81 c l r' per), kR, .box kR⟩ (.cons ⟨Ob.box 95 [V.ref 502 0], kR, .box kR⟩ .nil)))) kR kR kR kR kR kR kR
abbrev yyGA82 : Ob := Ob.box 32 [V.fn (Fn.func (118 : Nat)) [] [V.ref 504 0]]
set_option maxRecDepth 100000 in
theorem first1L_am (c : Cut) (l : List Pt) (r r' per : Int) (hc : cutE c = 0) (hl : gChk l = 0) (hp : Plc r' per) :
  AM Tryz.prog 90 [.i r', .ref 500 0] [HBL 501 502, TB 503, RBL 504, TrO c l r per, TB 503] (.b (fitB c l per r')) [some (HBL 501 502), some (TB 503), some (RBL 504), some (TrO c l r' per), some (TB 503)] [] := by
 refine am_intro hTT hMX (fn := Tryz.f90) (N := _) ⟨Tryz.func90, rfl, Tryz.ntmps90, kR⟩ (by simp) rfl (by simp) (by simp) fun C hF => ?_
 refine sK fun K hK => wR 2 ?_; refine aX hTT 1 [] tI ?_; refine nK hK ?_; clear hK K; refine sK fun K hK => wR 3 ?_; refine aX hTT 2 [(0, .c qGA80)] ⟨qGA80_, tI⟩ ?_
 refine aops_callM [501, 502, 503, 504] (first := []) (caps := [V.ref 501 0, V.ref 502 0]) (ins' := [Ob.box 95 [V.ref 503 0], yyGA82, Ob.box 97 [V.i (Cut.half c), V.i (Cut.gain c), V.i (Cut.thin c), V.i (Cut.wide c), V.i (Cut.slope c), V.i (Cut.jerk c), V.i (Cut.sty c), V.sl 2 (List.length l) fun (k : Nat) => [V.i (Prod.fst (gp l k)), V.i (Prod.snd (gp l k))], V.i r, V.i per], Ob.box 95 [V.ref 503 0]]) (v' := V.b (fitB c l per r')) (δ := [(501, Option.some (Ob.box 95 [V.ref 503 0])), (502, Option.some (yyGA82)), (503, Option.some ((yyGA81 c l r' per))), (504, Option.some (Ob.box 95 [V.ref 503 0]))]) (kp := [501, 502, 503, 504]) (least1L_am c l r r' per hc hl hp) kR kR kR kR kR kR rfl rfl kR (.box kR kR (.box kR kR (.box kR kR (.box kR kR .nil)))) kR kR kR ?_
 refine aX hTT 1 [] tI ?_; refine nK hK ?_; clear hK K
 refine aw_ret ?_
 refine retM (v' := V.b (fitB c l per r')) [] [(3, V.b (fitB c l per r'))] (.inr rfl) (.cons kR .nil) (.cons ⟨Ob.box 120 [zzGA80], kR, .box kR⟩ (.cons ⟨Ob.box 95 [V.ref 503 0], kR, .box kR⟩ (.cons ⟨yyGA82, kR, .box kR⟩ (.cons ⟨(yyGA81 c l r' per), kR, .box kR⟩ (.cons ⟨Ob.box 95 [V.ref 503 0], kR, .box kR⟩ .nil))))) kR kR kR kR kR kR kR
abbrev yyGA83 (l : List Pt) : V := V.sl 2 (List.length l) fun (k : Nat) => [V.i (Prod.fst (gp l k)), V.i (Prod.snd (gp l k))]
abbrev yyGA84 := (502, yyGA82)
set_option maxRecDepth 100000 in
theorem searchL_am (c : Cut) (l : List Pt) (r0 per F : Int) (hc : cutE c = 0) (hl : gChk l = 0) (hp : 1 ≤ per ∧ per ≤ 65536) (hF' : IsFst (fitB c l per) 4194305 F) :
  AM Tryz.prog 89 [.i 4194305, .fn (.func 90) [] [.ref 500 0]] [HBL 501 502, TB 503, RBL 504, TrO c l r0 per, TB 503] (.i F) [none, none, none, none, none] [] := by
 have hFb := hF'.b
 refine am_intro hTT hMX (fn := Tryz.f89) (N := _) ⟨Tryz.func89, rfl, Tryz.ntmps89, kR⟩ (by simp) rfl (by simp) (by simp) fun C hF => ?_
 refine sK fun K hK => wR 2 ?_
 refine aops_n hTT (M := []) (n := 1) [pv 4 (V.i 0)] kR kR tI ?_
 refine nK hK ?_; clear hK K; refine sK fun K hK => wR 3 ?_
 refine aops_n hTT (M := []) (n := 3) [pv 8 (V.i 4194305), pv 5 (V.i 0), pv 6 (V.i 4194305)] kR kR tI ?_
 refine nK hK ?_; clear hK K; refine sK fun K hK => ?_
 refine aw_block ?_
 refine w_loop (ι := Int × Int × Int) (fun s => [(0, .i 4194305), (1, .fn (.func 90) [] [.ref 500 0]), (5, .i s.1), (6, .i s.2.1)]) (fun s => [(500, HBL 501 502), (501, TB 503), (502, RBL 504), (503, TrO c l s.2.2 per), (504, TB 503)])
  (fun s => 0 ≤ s.1 ∧ s.1 ≤ F ∧ F ≤ s.2.1 ∧ s.2.1 ≤ 4194305) (fun s => (s.2.1 - s.1).toNat) (0, 4194305, r0) ⟨Int.le_refl _, hFb.1, hFb.2, Int.le_refl _⟩ ?_ ?_
 ·
  refine le_ren (sl := [(500, Ob.box 120 [zzGA80]), (501, Ob.box 95 [V.ref 503 0]), yyGA84, (503, Ob.box 97 [V.i (Cut.half c), V.i (Cut.gain c), V.i (Cut.thin c), V.i (Cut.wide c), V.i (Cut.slope c), V.i (Cut.jerk c), V.i (Cut.sty c), (yyGA83 l), V.i (Prod.snd ((4194305 : Int), r0)), V.i per]), (504, Ob.box 95 [V.ref 503 0])]) [] (.cons kR (.cons kR (.cons kR (.cons kR .nil)))) (.cons ⟨Ob.box 120 [zzGA80], kR, .box kR⟩ (.cons ⟨Ob.box 95 [V.ref 503 0], kR, .box kR⟩ (.cons ⟨yyGA82, kR, .box kR⟩ (.cons ⟨Ob.box 97 [V.i (Cut.half c), V.i (Cut.gain c), V.i (Cut.thin c), V.i (Cut.wide c), V.i (Cut.slope c), V.i (Cut.jerk c), V.i (Cut.sty c), (yyGA83 l), V.i r0, V.i per], kR, .box kR⟩ (.cons ⟨Ob.box 95 [V.ref 503 0], kR, .box kR⟩ .nil))))) kR kR
 rintro ⟨i, j, r⟩ ⟨h1, h2, h3, h4⟩
 simp only at h1 h2 h3 h4
 refine sK fun K hK => ?_; refine sK fun K hK => wR 2 ?_
 refine aops_n hTT (M := []) (n := 3) [pv 9 (V.i i), pv 10 (V.i (Prod.fst (j, r))), pv 11 (V.b (decide (i < j)))] kR kR tI ?_
 refine nK hK ?_; clear hK K
 refine w_cond (t := decide (i < j)) kR (fun c1 => ?_) (fun c1 => ?_)
 ·
  have c1 : i < j := by simpa using c1
  obtain ⟨m, hm⟩ : ∃ m : Int, (i + j).fdiv ((2 : Int) ^ min (1 : Nat) (IntKind.bits IntKind.u64)) = m := ⟨_, rfl⟩
  have m1 : i ≤ m ∧ m < j := by
   have : (i + j).fdiv ((2 : Int) ^ min (1 : Nat) (IntKind.bits IntKind.u64)) = (i + j) / 2 := by
    rw [Int.fdiv_eq_ediv_of_nonneg _ (by decide)]; rfl
   omega
  refine aw_skip ?_
  refine xt_n (hK _ ?_); clear hK K
  refine aw_block ?_
  refine sK fun K hK => wR 3 ?_
  refine aops_n hTT (M := []) (n := 7) [pv 12 (V.i i), pv 13 (V.i (Prod.fst (j, r))), pc 14 ((-9223372036854775808 : Int) ≤ i + j ∧ i + j ≤ 9223372036854775807) (V.i (i + j)), pc 15 ((0 : Int) ≤ i + j ∧ i + j ≤ 18446744073709551615) (V.c (Value.int IntKind.u64 (i + j))), pc 16 ((0 : Int) ≤ (1 : Int)) (V.c (Value.int IntKind.u64 (Int.fdiv (i + j) ((2 : Int) ^ min (1 : Nat) (IntKind.bits IntKind.u64))))), pc 17 ((-9223372036854775808 : Int) ≤ Int.fdiv (i + j) ((2 : Int) ^ min (1 : Nat) (IntKind.bits IntKind.u64)) ∧ Int.fdiv (i + j) ((2 : Int) ^ min (1 : Nat) (IntKind.bits IntKind.u64)) ≤ 9223372036854775807) (V.i (Int.fdiv (i + j) ((2 : Int) ^ min (1 : Nat) (IntKind.bits IntKind.u64)))), pv 7 (V.i (Int.fdiv (i + j) ((2 : Int) ^ min (1 : Nat) (IntKind.bits IntKind.u64))))] kR kR ⟨oM, oM, oM, oM, tI⟩ ?_
  refine nK hK ?_; clear hK K; refine sK fun K hK => ?_
  rw [hm]
  refine wR 4 ?_
  refine aops_n hTT (M := []) (n := 2) [pv 18 (V.fn (Fn.func (90 : Nat)) [] [V.ref 500 0]), pv 19 (V.i m)] kR kR tI ?_
  refine aops_callM [500, 501, 502, 503, 504] (first := []) (caps := [V.ref 500 0]) (ins' := [Ob.box 120 [zzGA80], Ob.box 95 [V.ref 503 0], yyGA82, Ob.box 97 [V.i (Cut.half c), V.i (Cut.gain c), V.i (Cut.thin c), V.i (Cut.wide c), V.i (Cut.slope c), V.i (Cut.jerk c), V.i (Cut.sty c), (yyGA83 l), V.i (Prod.snd (j, r)), V.i per], Ob.box 95 [V.ref 503 0]]) (v' := V.b (fitB c l per m)) (δ := [(500, Option.some (Ob.box 120 [zzGA80])), (501, Option.some (Ob.box 95 [V.ref 503 0])), (502, Option.some (yyGA82)), (503, Option.some (Ob.box 97 [V.i (Cut.half c), V.i (Cut.gain c), V.i (Cut.thin c), V.i (Cut.wide c), V.i (Cut.slope c), V.i (Cut.jerk c), V.i (Cut.sty c), (yyGA83 l), V.i m, V.i per])), (504, Option.some (Ob.box 95 [V.ref 503 0]))]) (kp := [500, 501, 502, 503, 504]) (first1L_am c l r m per hc hl ⟨by omega, hp⟩) kR kR kR kR kR kR rfl rfl kR (.box kR kR (.box kR kR (.box kR kR (.box kR kR (.box kR kR .nil))))) kR kR kR ?_
  refine aops_n hTT (M := []) (n := 1) [pv 21 (V.b !fitB c l per m)] kR kR tI ?_
  refine nK hK ?_; clear hK K
  refine w_cond (t := !fitB c l per m) kR (fun c2 => ?_) (fun c2 => ?_)
  ·
   have q : fitB c l per m = false := by simpa using c2
   have m2 : m < F := by
    refine Int.not_le.1 fun h => ?_
    rw [hF'.hi m h oM] at q; cases q
   refine wR 5 ?_
   refine aops_n hTT (M := []) (n := 3) [pv 22 (V.i m), pc 23 ((-9223372036854775808 : Int) ≤ m + 1 ∧ m + 1 ≤ (9223372036854775807 : Int)) (V.i (m + 1)), pv 5 (V.i (m + 1))] kR kR ⟨oM, tI⟩ ?_
   refine aops_nil ?_; refine xb_n ?_; refine xt_n ?_
   refine ⟨(m + 1, j, m), ⟨by show 0 ≤ m + 1; omega, by show m + 1 ≤ F; omega, h3, h4⟩, ?_, by show (j - (m + 1)).toNat < (j - i).toNat; omega⟩
   refine le_ren (sl := [(500, Ob.box 120 [zzGA80]), (501, Ob.box 95 [V.ref 503 0]), yyGA84, (503, Ob.box 97 [V.i (Cut.half c), V.i (Cut.gain c), V.i (Cut.thin c), V.i (Cut.wide c), V.i (Cut.slope c), V.i (Cut.jerk c), V.i (Cut.sty c), (yyGA83 l), V.i (Prod.snd (j, m)), V.i per]), (504, Ob.box 95 [V.ref 503 0])]) [] (.cons kR (.cons kR (.cons kR (.cons kR .nil)))) (.cons ⟨Ob.box 120 [zzGA80], kR, .box kR⟩ (.cons ⟨Ob.box 95 [V.ref 503 0], kR, .box kR⟩ (.cons ⟨yyGA82, kR, .box kR⟩ (.cons ⟨Ob.box 97 [V.i (Cut.half c), V.i (Cut.gain c), V.i (Cut.thin c), V.i (Cut.wide c), V.i (Cut.slope c), V.i (Cut.jerk c), V.i (Cut.sty c), (yyGA83 l), V.i m, V.i per], kR, .box kR⟩ (.cons ⟨Ob.box 95 [V.ref 503 0], kR, .box kR⟩ .nil))))) kR kR
  ·
   have q : fitB c l per m = true := by simpa using c2
   have m2 : F ≤ m := by
    refine Int.not_lt.1 fun h => ?_
    rw [hF'.lo m oM h] at q; cases q
   refine wR 5 ?_
   refine aops_n hTT (M := []) (n := 2) [pv 24 (V.i m), pv 6 (V.i m)] kR kR tI ?_
   refine aops_nil ?_; refine xb_n ?_; refine xt_n ?_
   refine ⟨(i, m, m), ⟨h1, h2, m2, by show m ≤ 4194305; omega⟩, ?_, by show (m - i).toNat < (j - i).toNat; omega⟩
   refine le_ren (sl := [(500, Ob.box 120 [zzGA80]), (501, Ob.box 95 [V.ref 503 0]), yyGA84, (503, Ob.box 97 [V.i (Cut.half c), V.i (Cut.gain c), V.i (Cut.thin c), V.i (Cut.wide c), V.i (Cut.slope c), V.i (Cut.jerk c), V.i (Cut.sty c), (yyGA83 l), V.i (Prod.snd (m, m)), V.i per]), (504, Ob.box 95 [V.ref 503 0])]) [] (.cons kR (.cons kR (.cons kR (.cons kR .nil)))) (.cons ⟨Ob.box 120 [zzGA80], kR, .box kR⟩ (.cons ⟨Ob.box 95 [V.ref 503 0], kR, .box kR⟩ (.cons ⟨yyGA82, kR, .box kR⟩ (.cons ⟨Ob.box 97 [V.i (Cut.half c), V.i (Cut.gain c), V.i (Cut.thin c), V.i (Cut.wide c), V.i (Cut.slope c), V.i (Cut.jerk c), V.i (Cut.sty c), (yyGA83 l), V.i m, V.i per], kR, .box kR⟩ (.cons ⟨Ob.box 95 [V.ref 503 0], kR, .box kR⟩ .nil))))) kR kR
 ·
  have c1 : j ≤ i := by simpa using c1
  obtain rfl : i = F := by omega
  refine aw_exit ?_
  refine xt_x ?_; refine xt_x ?_
  refine xb_same ?_
  refine xt_n ?_; clear hK K; refine hK _ ?_; clear hK K; refine sK fun K hK => wR 3 ?_
  refine aops_n hTT (M := []) (n := 2) [pv 25 (V.i i), pv 4 (V.i i)] kR kR tI ?_
  refine nK hK ?_; clear hK K
  refine aw_ret ?_
  refine retM (v' := V.i i) [] [(4, V.i i)] (.inr rfl) (.cons kR .nil) .nil kR kR kR kR kR kR kR
set_option maxRecDepth 100000 in
theorem firstL_am (c : Cut) (l : List Pt) (r0 per F : Int) (hc : cutE c = 0) (hl : gChk l = 0) (hp : 1 ≤ per ∧ per ≤ 65536) (hF' : IsFst (fitB c l per) 4194305 F) :
  AM Tryz.prog 60 [.i 4194304, .fn (.func 132) [] [.ref 500 0, .ref 501 0]] [TB 502, RBL 503, TrO c l r0 per, TB 502] (.i F) [none, none, none, none] [] := by
 have hFb := hF'.b
 refine am_intro hTT hMX (fn := Tryz.f60) (N := _) ⟨Tryz.func60, rfl, Tryz.ntmps60, kR⟩ (by simp) rfl (by simp) (by simp) fun C hF => ?_
 refine sK fun K hK => wR 2 ?_
 refine aops_x (M := [3]) hTT 2 [(0, .r (pn 3 (V.ref 100003 0) (100003 : Nat) (Ob.box 120 [zzGA81])))] tI ?_
 refine nK hK ?_; clear hK K; refine sK fun K hK => wR 3 ?_
 refine aops_x (M := [3]) hTT 3 [(1, .i ((4194304 : Int) + (1 : Int)))] ⟨oM, tI⟩ ?_
 refine aops_callM [100003, 500, 501, 502, 503] (first := []) (caps := []) (ins' := [Ob.box 120 [zzGA81], Ob.box 95 [V.ref 502 0], Ob.box 32 [V.fn (Fn.func (118 : Nat)) [] [V.ref 503 0]], Ob.box 97 [V.i (Cut.half c), V.i (Cut.gain c), V.i (Cut.thin c), V.i (Cut.wide c), V.i (Cut.slope c), V.i (Cut.jerk c), V.i (Cut.sty c), V.sl 2 (List.length l) fun (k : Nat) => [V.i (Prod.fst (gp l k)), V.i (Prod.snd (gp l k))], V.i r0, V.i per], Ob.box 95 [V.ref 502 0]]) (v' := V.i F) (δ := [(100003, Option.none), (500, Option.none), (501, Option.none), (502, Option.none), (503, Option.none)]) (kp := [100003, 500, 501, 502, 503]) (searchL_am c l r0 per F hc hl hp hF') kR kR kR kR kR kR rfl rfl kR (.box kR kR (.box kR kR (.box kR kR (.box kR kR (.box kR kR .nil))))) kR kR kR ?_
 refine aX hTT 1 [] tI ?_; refine nK hK ?_; clear hK K
 refine aw_ret ?_
 refine retM (v' := V.i F) [] [(4, V.i F)] (.inr rfl) (.cons kR .nil) .nil kR kR kR kR kR kR kR
abbrev yyGA85 (c : Cut) (l : List Pt) (r0 : Int) (per : Int) : Ob := Ob.box 97 [V.i (Cut.half c), V.i (Cut.gain c), V.i (Cut.thin c), V.i (Cut.wide c), V.i (Cut.slope c), V.i (Cut.jerk c), V.i (Cut.sty c), (yyGA83 l), V.i r0, V.i per]
set_option maxRecDepth 100000 in
theorem leastIL_am (c : Cut) (l : List Pt) (r0 p0 per F : Int) (hc : cutE c = 0) (hl : gChk l = 0) (hp : 1 ≤ per ∧ per ≤ 65536) (hF' : IsFst (fitB c l per) 4194305 F) :
  AM Tryz.prog 117 [.ref 500 0, .i per, .fn (.func 118) [] [.ref 501 0]] [TrO c l r0 p0, TB 500] (.tup [.i (if F ≤ 4194304 then F else 0), .i (if F ≤ 4194304 then 0 else 14)]) [none, none] [] := by
 have hFb := hF'.b
 refine am_intro hTT hMX (fn := Tryz.f117) (N := _) ⟨Tryz.func117, rfl, Tryz.ntmps117, kR⟩ (by simp) rfl (by simp) (by simp) fun C hF => ?_
 refine sK fun K hK => wR 2 ?_
 refine aops_x (M := [3, 5]) hTT 4 [(0, .r (pn 3 (V.ref 100003 0) (100003 : Nat) (Ob.box 95 [V.ref 500 0]))), (1, .r (pn 5 (V.ref 100005 0) (100005 : Nat) (Ob.box 32 [V.fn (Fn.func (118 : Nat)) [] [V.ref 501 0]])))] tI ?_
 refine nK hK ?_; clear hK K; refine sK fun K hK => wR 3 ?_
 refine aops_x (M := [3, 5]) hTT 5 [(0, .c qGA80), (4, .r (pw ((9 : Nat) + (1 : Nat) ≤ (10 : Nat)) (500 : Nat) ((yyGA85 c l r0 per))))] ⟨qGA80_, oM, tI⟩ ?_
 refine nK hK ?_; clear hK K; refine sK fun K hK => wR 4 ?_
 refine aops_x (M := [3, 5]) hTT 1 [] tI ?_
 refine aops_callM [100003, 100005, 500, 501] (first := []) (caps := []) (ins' := [Ob.box 95 [V.ref 500 0], Ob.box 32 [V.fn (Fn.func (118 : Nat)) [] [V.ref 501 0]], (yyGA85 c l r0 per), Ob.box 95 [V.ref 500 0]]) (v' := V.i F) (δ := [(100003, Option.none), (100005, Option.none), (500, Option.none), (501, Option.none)]) (kp := [100003, 100005, 500, 501]) (firstL_am c l r0 per F hc hl hp hF') kR kR kR kR kR kR rfl rfl kR (.box kR kR (.box kR kR (.box kR kR (.box kR kR .nil)))) kR kR kR ?_
 refine aX hTT 1 [] tI ?_; refine nK hK ?_; clear hK K; refine sK fun K hK => ?_; refine sK fun K hK => wR 5 ?_; refine aX hTT 2 [] tI ?_; refine nK hK ?_; clear hK K
 refine w_cond (t := decide ((4194304 : Int) < F)) kR (fun c1 => ?_) (fun c1 => ?_)
 ·
  refine sK fun K hK => ?_
  refine wR 6 ?_; refine aX hTT 2 [] tI ?_; refine nK hK ?_; clear hK K
  refine aw_ret ?_
  refine xt_r ?_
  rw [if_neg (by simp at c1; omega), if_neg (by simp at c1; omega)]
  refine retM (v' := V.tup [V.i 0, V.i 14]) [] [(6, V.i 0), (7, V.i 14)] (.inr rfl) (.cons kR (.cons kR .nil)) .nil kR kR kR kR kR kR kR
 ·
  refine aw_skip ?_
  refine xt_n (hK _ ?_); clear hK K; refine sK fun K hK => wR 6 ?_; refine aX hTT 3 [] tI ?_; refine nK hK ?_; clear hK K
  refine aw_ret ?_
  rw [if_pos (by simp at c1; omega), if_pos (by simp at c1; omega)]
  refine retM (v' := V.tup [V.i F, V.i 0]) [] [(6, V.i F), (7, V.i 0)] (.inr rfl) (.cons kR (.cons kR .nil)) .nil kR kR kR kR kR kR kR
end Go.Proofs.YtepkjobndmmejaaGreatDoor

namespace Go.Proofs.YtepkjobndmmejaaGreatDoor
open Go.Ab Go.RowKit Go.Dw Go.Shelf
theorem gRule_zero {c : Cut} {l : List Pt} {r per : Int} {i : Nat} : gRule c l r per i = 0 ↔ ∀ k, 1 ≤ k → k ≤ 5 → ruleB c r per (nb l i) (gp l i) (na l i) k = false := by
 constructor
 ·
  intro h k h1 h5
  cases hk : ruleB c r per (nb l i) (gp l i) (na l i) k with
  | false => rfl
  | true =>
   exfalso
   obtain ⟨m, ⟨m1, m2⟩, m3, m4⟩ : ∃ m : Nat, (1 ≤ m ∧ m ≤ 5) ∧ ruleB c r per (nb l i) (gp l i) (na l i) m = true ∧ ∀ j, 1 ≤ j → j < m → ruleB c r per (nb l i) (gp l i) (na l i) j = false := by
    have ex : ∃ m : Nat, (1 ≤ m ∧ m ≤ 5) ∧ ruleB c r per (nb l i) (gp l i) (na l i) m = true := ⟨k, ⟨h1, h5⟩, hk⟩
    obtain ⟨m, hm, hl⟩ := least _ ex
    refine ⟨m, hm.1, hm.2, fun j a b => ?_⟩
    cases hj : ruleB c r per (nb l i) (gp l i) (na l i) j with
    | false => rfl
    | true => have := hl j ⟨⟨a, by omega⟩, hj⟩; omega
   rw [gRule, ruleP_at m1 m2 m4 m3] at h
   omega
 ·
  intro h
  exact ruleP_no h
theorem gArc_mono {r r' per : Int} (hr : 0 ≤ r) (h : r ≤ r') (hp : 1 ≤ per) : gArc r per ≤ gArc r' per := by
 unfold gArc
 have h1 : 0 ≤ 710 * r * (710 * r) := Int.mul_nonneg oM oM
 have h2 : 710 * r * (710 * r) ≤ 710 * r' * (710 * r') := Int.mul_le_mul oM oM oM oM
 rw [Int.tdiv_eq_ediv_of_nonneg h1, Int.tdiv_eq_ediv_of_nonneg oM]
 have h3 : 0 < 113 * per * (113 * per) := Int.mul_pos oM oM
 exact Int.ediv_le_ediv h3 h2
theorem ruleB_mono {c : Cut} {r r' per : Int} {b : Option Pt} {h : Pt} {a : Option Pt} {k : Nat} (hc : cutE c = 0) (hr : 0 ≤ r) (hrr : r ≤ r') (hp : 1 ≤ per) (h1 : ruleB c r per b h a k = false) : ruleB c r' per b h a k = false := by
 obtain ⟨c1, c2, c3, c4, c5, c6, c7⟩ := cutE_ok.1 hc
 have m1 : 710 * r * c.slope ≤ 710 * r' * c.slope := Int.mul_le_mul_of_nonneg_right oM c5.1
 have m2 := gArc_mono hr hrr hp
 unfold ruleB at h1 ⊢
 split at h1 <;> rename_i e
 ·
  exact h1
 ·
  exact h1
 ·
  simp only [steepB, decide_eq_false_iff_not] at h1 ⊢; omega
 ·
  exact h1
 ·
  simp only [sharpB, decide_eq_false_iff_not] at h1 ⊢; omega
theorem gRule_mono {c : Cut} {l : List Pt} {r r' per : Int} {i : Nat} (hc : cutE c = 0) (hr : 0 ≤ r) (hrr : r ≤ r') (hp : 1 ≤ per) (h : gRule c l r per i = 0) : gRule c l r' per i = 0 :=
 gRule_zero.2 fun k h1 h5 => ruleB_mono hc hr hrr hp (gRule_zero.1 h k h1 h5)
theorem fitB_iff {c : Cut} {l : List Pt} {per r : Int} : fitB c l per r = true ↔ ∀ i, i < l.length → gRule c l r per i = 0 := by
 unfold fitB
 rw [decide_eq_true_eq]
 constructor
 ·
  intro h
  cases hf : faultN c l r per with
  | none => exact faultN_none.1 hf
  | some i =>
   rw [faultR, hf] at h
   have := (faultN_some.1 hf).2.1
   simp only at h
   omega
 ·
  intro h
  rw [faultR_none h]
theorem fit_fst {c : Cut} (l : List Pt) {per : Int} (hc : cutE c = 0) (hp : 1 ≤ per) : ∃ F, IsFst (fitB c l per) 4194305 F :=
 fst_exists (by decide) fun m n h0 hmn _ hm => fitB_iff.2 fun i hi => gRule_mono hc h0 hmn hp (fitB_iff.1 hm i hi)
def leastR (c : Cut) (l : List Pt) (per F : Int) : Int × Int :=
 if gErr c l = 0 then (if turnE per = 0 then (if F ≤ 4194304 then (F, 0) else (0, 14)) else (0, 3)) else (0, gErr c l)
theorem leastR_1 {c : Cut} {l : List Pt} {per F : Int} (h : ¬ gErr c l = 0) : leastR c l per F = (0, gErr c l) := by rw [leastR, if_neg h]
theorem leastR_2 {c : Cut} {l : List Pt} {per F : Int} (h : gErr c l = 0) (h2 : ¬ turnE per = 0) : leastR c l per F = (0, 3) := by rw [leastR, if_pos h, if_neg h2]
theorem leastR_3 {c : Cut} {l : List Pt} {per F : Int} (h : gErr c l = 0) (h2 : turnE per = 0) : leastR c l per F = (if F ≤ 4194304 then F else 0, if F ≤ 4194304 then 0 else 14) := by
 rw [leastR, if_pos h, if_pos h2]; split <;> rfl
theorem plcE_0 (per : Int) : plcE 0 per = turnE per := by
 rw [plcE_turn, if_pos (by decide)]
def FstOk (c : Cut) (l : List Pt) (per F : Int) : Prop := gErr c l = 0 → turnE per = 0 → IsFst (fitB c l per) 4194305 F
abbrev yyGA90 (c : Cut) (l : List Pt) : Ob := Ob.box 97 [V.i (Cut.half c), V.i (Cut.gain c), V.i (Cut.thin c), V.i (Cut.wide c), V.i (Cut.slope c), V.i (Cut.jerk c), V.i (Cut.sty c), V.sl 2 (List.length l) fun (k : Nat) => [V.i (Prod.fst (gp l k)), V.i (Prod.snd (gp l k))], V.i 0, V.i 0]
abbrev yyGA91 (F : Int) : V := V.tup [V.i (if F ≤ 4194304 then F else (0 : Int)), V.i (if F ≤ 4194304 then (0 : Int) else (14 : Int))]
set_option maxRecDepth 100000 in
theorem Least_ac (c : Cut) (l : List Pt) (per F : Int) (hl : l.length ≤ 4611686018427387904) (hF' : FstOk c l per F) : AC Tryz.prog 95 [c.v, V.pts l, .i per] (.tup [.i (leastR c l per F).1, .i (leastR c l per F).2]) [] := by
 have P0 := checkPlace_ac 0 per
 rw [plcE_0] at P0
 refine acI hTT hMX Tryz.func95 Tryz.ntmps95 fun C hC hF => ?_
 by_cases h : gErr c l = 0
 ·
  obtain ⟨q1, q2⟩ := gErr_ok h
  refine sK fun K hK => wR 2 ?_; refine aX hTT 3 [] tI ?_; refine nK hK ?_; clear hK K; refine sK fun K hK => wR 3 ?_; refine aX hTT 2 [] tI ?_
  refine e_callO (first := []) (caps := []) (k := 200013) (v' := V.tup [V.ref 200013 0, V.i 0]) (ob' := (yyGA90 c l)) (newTrack_ok c l hl h) kR kR kR kR kR kR kR ?_
  refine aX hTT 6 [(3, .r (pn 8 (V.ref 200008 0) (200008 : Nat) (Ob.box 95 [V.c (Value.pointer none)]))), (4, .r (pw ((0 : Nat) + (1 : Nat) ≤ (1 : Nat)) (200008 : Nat) (Ob.box 95 [V.ref 200013 0])))] ⟨oM, tI⟩ ?_; refine nK hK ?_; clear hK K; refine sK fun K hK => ?_; refine sK fun K hK => wR 4 ?_; refine aX hTT 2 [] tI ?_; refine nK hK ?_; clear hK K; refine w_true (t := true) kR rfl ?_; refine wR 5 ?_; refine aX hTT 1 [] tI ?_
  refine eC (P0) ?_
  refine aX hTT 1 [] tI ?_; refine nK hK ?_; clear hK K; refine sK fun K hK => ?_; refine sK fun K hK => wR 6 ?_; refine aX hTT 2 [] tI ?_; refine nK hK ?_; clear hK K
  refine w_cond (t := !decide (turnE per = 0)) kR (fun c1 => ?_) (fun c1 => ?_)
  ·
   have h2 : ¬ turnE per = 0 := by simpa using c1
   refine sK fun K hK => wR 7 ?_; refine aX hTT 3 [] tI ?_; refine nK hK ?_; clear hK K
   refine aw_ret ?_
   refine xt_r ?_
   rw [leastR_2 h h2, (turnE_or per).resolve_left h2]
   refine rP (V.tup [V.i 0, V.i 3])
  ·
   have h2 : turnE per = 0 := by simpa using c1
   refine aw_skip ?_
   refine xt_n (hK _ ?_); clear hK K; refine sK fun K hK => wR 7 ?_; refine aX hTT 3 [(0, .c ((0 : Nat) ≤ (1 : Nat)))] ⟨oM, tI⟩ ?_
   refine aops_callM [200013, 200008] (first := []) (caps := []) (ins' := [(yyGA90 c l), Ob.box 95 [V.ref 200013 0]]) (v' := (yyGA91 F)) (δ := [(200013, Option.none), (200008, Option.none)]) (kp := [200013, 200008]) (leastIL_am c l 0 0 per F q1 q2 (turnE_ok.1 h2) (hF' h h2)) kR kR kR kR kR kR rfl rfl kR (.box kR kR (.box kR kR .nil)) kR kR kR ?_
   refine aX hTT 4 [] tI ?_; refine nK hK ?_; clear hK K
   refine aw_ret ?_
   rw [leastR_3 h h2]
   refine rP ((yyGA91 F))
 ·
  refine sK fun K hK => ?_
  refine wR 2 ?_; refine aX hTT 3 [] tI ?_; refine nK hK ?_; clear hK K; refine sK fun K hK => wR 3 ?_; refine aX hTT 2 [] tI ?_
  refine eC (newTrack_no c l hl h) ?_
  refine aX hTT 6 [(3, .r (pn 8 (V.ref 200008 0) (200008 : Nat) (Ob.box 95 [V.c (Value.pointer none)]))), (4, .r (pw ((0 : Nat) + (1 : Nat) ≤ (1 : Nat)) (200008 : Nat) (Ob.box 95 [V.c (Value.pointer none)])))] ⟨oM, tI⟩ ?_; refine nK hK ?_; clear hK K; refine sK fun K hK => ?_; refine sK fun K hK => wR 4 ?_; refine aX hTT 2 [] tI ?_; refine nK hK ?_; clear hK K
  refine w_cond (t := decide (gErr c l = 0)) kR (fun c1 => ?_) (fun c1 => ?_)
  ·
   simp at c1
   exact absurd c1 h
  refine aw_skip ?_
  refine xt_n (hK _ ?_); clear hK K; refine sK fun K hK => ?_; refine sK fun K hK => wR 5 ?_; refine aX hTT 2 [] tI ?_; refine nK hK ?_; clear hK K
  refine w_cond (t := !decide (gErr c l = 0)) kR (fun c1 => ?_) (fun c1 => ?_)
  ·
   refine sK fun K hK => ?_
   refine wR 6 ?_; refine aX hTT 3 [] tI ?_; refine nK hK ?_; clear hK K
   refine aw_ret ?_
   refine xt_r ?_
   rw [leastR_1 h]
   refine rP (V.tup [V.i 0, V.i (gErr c l)])
  ·
   simp at c1
   exact absurd c1 h
end Go.Proofs.YtepkjobndmmejaaGreatDoor

namespace Go.Proofs.YtepkjobndmmejaaGreatDoor
open Go.Ab Go.RowKit Go.Dw Go.Shelf
end Go.Proofs.YtepkjobndmmejaaGreatDoor

namespace Go.Proofs.YtepkjobndmmejaaGreatDoor
open Go.Ab Go.RowKit Go.Dw Go.Shelf
def exC : Cut := ⟨400, 2000, 200, 2000, 1000, 1000, 100⟩
theorem fit_at {c : Cut} {l : List Pt} {per F : Int} (hc : cutE c = 0) (hp : 1 ≤ per) (h0 : 0 < F) (hF : F ≤ 4194304) (h1 : fitB c l per (F - 1) = false) (h2 : fitB c l per F = true) : IsFst (fitB c l per) 4194305 F := by
 obtain ⟨G, hG⟩ := fit_fst l hc hp
 have a := (hG.iff (n := F) oM oM).1 h2
 have b : ¬ G ≤ F - 1 := fun h => by
  have := (hG.iff (n := F - 1) oM oM).2 h
  rw [h1] at this; cases this
 obtain rfl : F = G := by omega
 exact hG
def ex3 : List Pt := [(-400, 400), (-200, 600), (-400, 400)]
theorem exC_ok : cutE exC = 0 := by decide
theorem ex3_fst : IsFst (fitB exC ex3 1000) 4194305 31831 := fit_at exC_ok (by decide) (by decide) (by decide) (by decide +kernel) (by decide +kernel)
theorem ex3_least : leastR exC ex3 1000 31831 = (31831, 0) := by decide +kernel
theorem ex3_cut : cutR exC [(0, 0), (100, 100), (0, 0)] = (ex3, 0) := by decide +kernel
theorem gLit3 {row : Nat → List V} {x y z : Pt} (h0 : row 0 = [.i x.1, .i x.2]) (h1 : row 1 = [.i y.1, .i y.2]) (h2 : row 2 = [.i z.1, .i z.2]) : RImp (.sl 2 3 row) (V.pts [x, y, z]) := by
 refine RImp.rows rfl fun i hi => ?_
 rcases (by omega : i = 0 ∨ i = 1 ∨ i = 2) with rfl | rfl | rfl
 ·
  exact h0
 ·
  exact h1
 ·
  exact h2
theorem exL_ac : AC Tryz.prog 95 [exC.v, V.pts ex3, .i 1000] (.tup [.i 31831, .i 0]) [] := by
 have A := Least_ac exC ex3 1000 31831 (by decide) (fun _ _ => ex3_fst)
 rw [ex3_least] at A
 exact A
theorem exCut_ac : AC Tryz.prog 11 [exC.v, V.pts [(0, 0), (100, 100), (0, 0)]] (.tup [V.pts ex3, .i 0]) [] := by
 have A := Cut_ac exC [(0, 0), (100, 100), (0, 0)] (by decide)
 rw [ex3_cut] at A
 exact A
end Go.Proofs.YtepkjobndmmejaaGreatDoor

namespace Go.Proofs.YtepkjobndmmejaaGreatDoor
open Go.Ab Go.RowKit Go.Dw Go.Shelf
def bigL : Nat := 4611686018427387904
theorem tdiv_ediv (n d : Int) (hd : 1 ≤ d) : n / d = if n.tmod d < 0 then n.tdiv d - 1 else n.tdiv d := by
 have h1 := Int.mul_tdiv_add_tmod n d
 by_cases h0 : 0 ≤ n
 ·
  have h2 : 0 ≤ n.tmod d := Int.tmod_nonneg d h0
  rw [if_neg oM, Int.tdiv_eq_ediv_of_nonneg h0]
 ·
  have h2 : n.tmod d ≤ 0 := by
   have h4 := Int.tmod_nonneg (a := -n) d oM
   rw [Int.neg_tmod] at h4
   omega
  have h3 : -d < n.tmod d := by
   have h4 := Int.tmod_lt_of_pos (-n) (b := d) oM
   rw [Int.neg_tmod] at h4
   omega
  split
  ·
   rename_i h
   refine Int.ediv_eq_iff_of_pos oM |>.2 ?_
   rw [Int.sub_mul, Int.mul_comm (n.tdiv d) d]
   omega
  ·
   rename_i h
   refine Int.ediv_eq_iff_of_pos oM |>.2 ?_
   rw [Int.mul_comm (n.tdiv d) d]
   omega
theorem down_ac (n d : Int) (hn : -4611686018427387904 ≤ n ∧ n ≤ 4611686018427387904) (hd : 1 ≤ d) : AC Tryz.prog 186 [.i n, .i d] (.i (n / d)) [] := by
 refine acI hTT hMX Tryz.func186 Tryz.ntmps186 fun C hC hF => ?_
 have hb : -4611686018427387904 ≤ n.tdiv d ∧ n.tdiv d ≤ 4611686018427387904 := by
  by_cases h0 : 0 ≤ n
  ·
   rw [Int.tdiv_eq_ediv_of_nonneg h0]
   have h1 := Int.ediv_nonneg h0 (show 0 ≤ d by omega)
   have h2 := Int.ediv_le_self d h0
   omega
  ·
   have e : n.tdiv d = -((-n) / d) := by
    rw [← Int.tdiv_eq_ediv_of_nonneg oM, Int.neg_tdiv]; omega
   have h1 := Int.ediv_nonneg (a := -n) oM (show 0 ≤ d by omega)
   have h2 := Int.ediv_le_self (a := -n) d oM
   omega
 refine sK fun K hK => wR 2 ?_; refine aX hTT 1 [] tI ?_; refine nK hK ?_; clear hK K; refine sK fun K hK => wR 3 ?_; refine aX hTT 4 [(2, .c ((0 : Int) < d ∧ (-9223372036854775808 : Int) ≤ n ∧ n ≤ 9223372036854775807))] ⟨⟨oM, oM⟩, tI⟩ ?_; refine nK hK ?_; clear hK K; refine sK fun K hK => ?_; refine sK fun K hK => wR 4 ?_; refine aX hTT 4 [(2, .c (d ≠ 0))] ⟨oM, tI⟩ ?_; refine nK hK ?_; clear hK K
 refine w_cond (t := decide (Int.tmod n d < 0)) kR (fun c1 => ?_) (fun c1 => ?_)
 ·
  simp at c1
  refine wR 5 ?_; refine aX hTT 3 [(1, .i (Int.tdiv n d - 1))] ⟨oM, tI⟩ ?_; refine nK hK ?_; clear hK K; refine sK fun K hK => wR 6 ?_; refine aX hTT 2 [] tI ?_; refine nK hK ?_; clear hK K
  refine aw_ret ?_
  rw [tdiv_ediv n d hd, if_pos c1]
  refine rP (V.i (Int.tdiv n d - 1))
 ·
  simp at c1
  refine aw_skip ?_
  refine xt_n (hK _ ?_); clear hK K; refine sK fun K hK => wR 5 ?_; refine aX hTT 2 [] tI ?_; refine nK hK ?_; clear hK K
  refine aw_ret ?_
  rw [tdiv_ediv n d hd, if_neg oM]
  refine rP (V.i (Int.tdiv n d))
theorem beyond_ac (n m : Int) (hm : 0 ≤ m ∧ m ≤ 4611686018427387904) : AC Tryz.prog 142 [.i n, .i m] (.b (bey n m)) [] := by
 refine acI hTT hMX Tryz.func142 Tryz.ntmps142 fun C hC hF => ?_
 refine sK fun K hK => wR 2 ?_; refine aX hTT 1 [] tI ?_; refine nK hK ?_; clear hK K; refine sK fun K hK => wR 3 ?_; refine aX hTT 10 [(2, .i (-m)), (5, .c (gA (decide (n < -m) == false) True)), (6, .c (gA (decide (n < -m) == false) True)), (7, .c (gC (decide (n < -m) == false) True)), (8, .c (True ∧ (decide (n < -m) = false → (decide (n < -m) == false) = true)))] ⟨oM, ⟨⟨tI, tI⟩, (fun _ => tI)⟩, ⟨⟨tI, tI⟩, (fun _ => tI)⟩, ⟨⟨(by (exact fun h => h)), ⟨(by (exact fun h => h)), tI⟩⟩, (fun _ => tI)⟩, ⟨tI, (by (intro h; rw [h]; rfl))⟩, tI⟩ ?_; refine nK hK ?_; clear hK K
 refine aw_ret ?_
 unfold bey
 refine rP (V.b (decide (n < -m) || decide (m < n)))
set_option maxRecDepth 100000 in
theorem anyBeyond1_ac (n m : Int) (hm : 0 ≤ m ∧ m ≤ 4611686018427387904) : AC Tryz.prog 185 [.i n, .ptr [.i m]] (.b (bey n m)) [] := by
 refine acI hTT hMX Tryz.func185 Tryz.ntmps185 fun C hC hF => ?_
 refine sK fun K hK => wR 2 ?_; refine aX hTT 1 [] tI ?_; refine nK hK ?_; clear hK K; refine sK fun K hK => wR 3 ?_; refine aX hTT 2 [] tI ?_
 refine eC (beyond_ac n m hm) ?_
 refine aX hTT 1 [] tI ?_; refine nK hK ?_; clear hK K
 refine aw_ret ?_
 refine rP (V.b (bey n m))
theorem idx_any (l : List Int) (m : Int) : (∃ k, k < l.length ∧ bey (gi l k) m = true ∧ ∀ j, j < k → bey (gi l j) m = false) ∨ ∀ k, k < l.length → bey (gi l k) m = false := by
 by_cases h : ∃ k, k < l.length ∧ bey (gi l k) m = true
 ·
  obtain ⟨k, ⟨h1, h2⟩, h3⟩ := least _ h
  refine .inl ⟨k, h1, h2, fun j hj => ?_⟩
  cases hb : bey (gi l j) m with
  | false => rfl
  | true => have := h3 j ⟨by omega, hb⟩; omega
 ·
  refine .inr fun k hk => ?_
  cases hb : bey (gi l k) m with
  | false => rfl
  | true => exact absurd ⟨k, hk, hb⟩ h
def firstB (l : List Int) (m : Int) : Int := match (List.range l.length).find? fun k => bey (gi l k) m with
 | some k => (k : Int)
 | none => -1
theorem firstB_some {l : List Int} {m : Int} {k : Nat} (hk : k < l.length) (h : bey (gi l k) m = true) (hj : ∀ j, j < k → bey (gi l j) m = false) : firstB l m = k := by
 have : (List.range l.length).find? (fun k => bey (gi l k) m) = some k := by
  rw [List.find?_range_eq_some]
  exact ⟨h, by simpa using hk, fun j hjk => by simp [hj j hjk]⟩
 rw [firstB, this]
theorem firstB_none {l : List Int} {m : Int} (h : ∀ k, k < l.length → bey (gi l k) m = false) : firstB l m = -1 := by
 have : (List.range l.length).find? (fun k => bey (gi l k) m) = none := by
  rw [List.find?_eq_none]
  intro x hx
  simp [h x (by simpa using hx)]
 rw [firstB, this]
theorem any_gi {l : List Int} {m : Int} : (l.any fun n => bey n m) = true ↔ ∃ k, k < l.length ∧ bey (gi l k) m = true := by
 rw [List.any_eq_true]
 constructor
 ·
  rintro ⟨x, hx, h⟩
  obtain ⟨k, hk, rfl⟩ := List.getElem_of_mem hx
  exact ⟨k, hk, by rw [gi_eq hk]; exact h⟩
 ·
  rintro ⟨k, hk, h⟩
  exact ⟨l[k], List.getElem_mem _, by rw [← gi_eq hk]; exact h⟩
theorem firstB_any (l : List Int) (m : Int) : decide (0 ≤ firstB l m) = l.any fun n => bey n m := by
 rcases idx_any l m with ⟨k, hk, h, hj⟩ | h
 ·
  rw [firstB_some hk h hj, any_gi.2 ⟨k, hk, h⟩]; simp
 ·
  rw [firstB_none h]
  cases ha : l.any fun n => bey n m with
  | false => rfl
  | true =>
   obtain ⟨k, hk, hb⟩ := any_gi.1 ha
   rw [h k hk] at hb; cases hb
set_option maxRecDepth 100000 in
theorem indexBeyond_ac (l : List Int) (m : Int) (hl : l.length ≤ bigL) (hm : 0 ≤ m ∧ m ≤ 4611686018427387904) : AC Tryz.prog 198 [V.ints l, .fn (.func 185) [] [.ptr [.i m]]] (.i (firstB l m)) [] := by
 unfold bigL at hl
 refine acI hTT hMX Tryz.func198 Tryz.ntmps198 fun C hC hF => ?_
 refine sK fun K hK => wR 2 ?_; refine aX hTT 1 [] tI ?_; refine nK hK ?_; clear hK K; refine sK fun K hK => ?_; refine sK fun K hK => wR 3 ?_; refine aX hTT 3 [] tI ?_; refine nK hK ?_; clear hK K
 refine aw_block ?_
 refine w_loop (ι := Nat) (fun k => [(0, V.ints l), (1, .fn (.func 185) [] [.ptr [.i m]]), (7, .i l.length), (8, .i k)]) (fun _ => []) (fun k => k ≤ l.length ∧ ∀ j, j < k → bey (gi l j) m = false) (fun k => l.length - k) 0 ⟨Nat.zero_le _, fun j hj => by omega⟩ ?_ ?_
 ·
  refine le_ren [] (.cons kR (.cons kR (.cons kR (.cons kR .nil)))) .nil kR kR
 rintro k ⟨hk, hb⟩
 refine sK fun K hK => wR 2 ?_; refine aX hTT 1 [] tI ?_; refine nK hK ?_; clear hK K; refine sK fun K hK => ?_
 refine w_cond (t := decide ((↑k : Int) < (↑(List.length l) : Int))) kR (fun c1 => ?_) (fun c1 => ?_)
 ·
  simp at c1
  refine aw_skip ?_
  refine xt_n (hK _ ?_); clear hK K; refine sK fun K hK => ?_
  refine aw_block ?_
  refine sK fun K hK => wR 3 ?_; refine aX hTT 2 [] tI ?_; refine nK hK ?_; clear hK K; refine sK fun K hK => wR 4 ?_; refine aX hTT 5 [(3, .c ((0 : Int) ≤ (↑k : Int) ∧ (↑k : Int) < (↑(List.length l) : Int)))] ⟨oM, tI⟩ ?_
  refine e_call (first := []) (caps := [V.ptr [V.i m]]) (anyBeyond1_ac (gi l k) m hm) kR kR kR kR kR ?_
  refine nK hK ?_; clear hK K
  refine w_cond (t := bey (gi l k) m) kR (fun c2 => ?_) (fun c2 => ?_)
  ·
   refine sK fun K hK => ?_
   refine wR 5 ?_; refine aX hTT 2 [] tI ?_; refine nK hK ?_; clear hK K
   refine aw_ret ?_
   refine xb_r ?_
   refine xt_r ?_; refine xt_r ?_
   refine xb_r ?_
   refine xt_r ?_
   rw [firstB_some c1 c2 hb]
   refine rP (V.i (↑k : Int))
  ·
   refine aw_skip ?_
   refine xb_n ?_; refine xt_n (hK _ ?_); clear hK K; refine wR 5 ?_; refine aX hTT 2 [(0, .i ((↑k : Int) + 1))] ⟨oM, tI⟩ ?_; refine aops_nil ?_; refine xt_n ?_
   refine ⟨k + 1, ⟨by omega, fun j hj => ?_⟩, by refine le_ren [] (.cons kR (.cons kR (.cons kR (.cons kR .nil)))) .nil kR kR, by omega⟩
   by_cases h : j < k
   ·
    exact hb j h
   ·
    obtain rfl : j = k := by omega
    exact c2
 ·
  simp at c1
  refine aw_exit ?_
  refine xt_x ?_; refine xt_x ?_
  refine xb_same ?_
  refine xt_n ?_; clear hK K; refine hK _ ?_; clear hK K; refine sK fun K hK => wR 3 ?_; refine aX hTT 1 [] tI ?_; refine nK hK ?_; clear hK K
  refine aw_ret ?_
  rw [firstB_none fun j hj => hb j oM]
  refine rP (V.i (-1))
set_option maxRecDepth 100000 in
theorem containsBeyond_ac (l : List Int) (m : Int) (hl : l.length ≤ bigL) (hm : 0 ≤ m ∧ m ≤ 4611686018427387904) : AC Tryz.prog 184 [V.ints l, .fn (.func 185) [] [.ptr [.i m]]] (.b (l.any fun n => bey n m)) [] := by
 refine acI hTT hMX Tryz.func184 Tryz.ntmps184 fun C hC hF => ?_
 refine sK fun K hK => wR 2 ?_; refine aX hTT 1 [] tI ?_; refine nK hK ?_; clear hK K; refine sK fun K hK => wR 3 ?_; refine aX hTT 2 [] tI ?_
 refine eC (indexBeyond_ac l m hl hm) ?_
 refine aX hTT 2 [] tI ?_; refine nK hK ?_; clear hK K
 refine aw_ret ?_
 rw [← firstB_any]
 refine rP (V.b (decide ((0 : Int) ≤ firstB l m)))
set_option maxRecDepth 100000 in
theorem anyBeyond_ac (l : List Int) (m : Int) (hl : l.length ≤ bigL) (hm : 0 ≤ m ∧ m ≤ 4611686018427387904) : AC Tryz.prog 157 [V.ints l, .i m] (.b (l.any fun n => bey n m)) [] := by
 refine acI hTT hMX Tryz.func157 Tryz.ntmps157 fun C hC hF => ?_
 refine sK fun K hK => wR 2 ?_; refine aX hTT 2 [] tI ?_; refine nK hK ?_; clear hK K; refine sK fun K hK => wR 3 ?_; refine aX hTT 2 [] tI ?_
 refine eC (containsBeyond_ac l m hl hm) ?_
 refine aX hTT 1 [] tI ?_; refine nK hK ?_; clear hK K
 refine aw_ret ?_
 refine rP (V.b (List.any l fun (n : Int) => bey n m))
def sigE (l : List Int) : Int := if 4096 < l.length then 6 else if l.any fun n => bey n 32767 then 3 else 0
theorem sigE_ok {l : List Int} : sigE l = 0 ↔ l.length ≤ 4096 ∧ AllLe 32767 l := by
 unfold sigE
 rw [← any_bey]
 by_cases h : 4096 < l.length
 ·
  rw [if_pos h]; simp; omega
 ·
  rw [if_neg h]
  cases h1 : (l.any fun n => bey n 32767) <;> simp
  omega
set_option maxRecDepth 100000 in
theorem checkSignal_ac (l : List Int) (hl : l.length ≤ bigL) : AC Tryz.prog 136 [V.ints l] (.i (sigE l)) [] := by
 have hl' := hl
 unfold bigL at hl'
 refine acI hTT hMX Tryz.func136 Tryz.ntmps136 fun C hC hF => ?_
 refine sK fun K hK => wR 2 ?_; refine aX hTT 1 [] tI ?_; refine nK hK ?_; clear hK K; refine sK fun K hK => ?_; refine sK fun K hK => wR 3 ?_; refine aX hTT 3 [] tI ?_; refine nK hK ?_; clear hK K
 refine w_cond (t := decide ((4096 : Int) < (↑(List.length l) : Int))) kR (fun c1 => ?_) (fun c1 => ?_)
 ·
  simp at c1
  refine sK fun K hK => wR 4 ?_; refine aX hTT 1 [] tI ?_; refine nK hK ?_; clear hK K
  refine aw_ret ?_
  refine xt_r ?_
  rw [show sigE l = 6 by unfold sigE; rw [if_pos oM]]
  refine rP (V.i 6)
 ·
  simp at c1
  refine aw_skip ?_
  refine xt_n (hK _ ?_); clear hK K; refine sK fun K hK => ?_; refine sK fun K hK => wR 4 ?_; refine aX hTT 1 [] tI ?_
  refine eC (anyBeyond_ac l 32767 hl (by decide)) ?_
  refine nK hK ?_; clear hK K
  refine w_cond (t := List.any l fun (n : Int) => bey n (32767 : Int)) kR (fun c2 => ?_) (fun c2 => ?_)
  ·
   refine sK fun K hK => ?_
   refine wR 5 ?_; refine aX hTT 1 [] tI ?_; refine nK hK ?_; clear hK K
   refine aw_ret ?_
   refine xt_r ?_
   rw [show sigE l = 3 by unfold sigE; rw [if_neg oM, if_pos c2]]
   refine rP (V.i 3)
  ·
   refine aw_skip ?_
   refine xt_n (hK _ ?_); clear hK K; refine sK fun K hK => wR 5 ?_; refine aX hTT 1 [] tI ?_; refine nK hK ?_; clear hK K
   refine aw_ret ?_
   rw [show sigE l = 0 by unfold sigE; rw [if_neg oM, if_neg (by rw [c2]; decide)]]
   refine rP (V.i 0)
end Go.Proofs.YtepkjobndmmejaaGreatDoor

namespace Go.Proofs.YtepkjobndmmejaaGreatDoor
open Go.Ab Go.RowKit Go.Dw Go.Shelf
abbrev V.cv (c : Cv) : V := .agg [V.ints c.feed, V.ints c.back, V.i c.share]
def cv0 : Cv := ⟨[], [], 0⟩
def gc (l : List Cv) (k : Nat) : Cv := l.getD k cv0
theorem gc_eq {l : List Cv} {k : Nat} (h : k < l.length) : gc l k = l[k] := by simp [gc, h]
def V.cvs (l : List Cv) : V := .sl 3 l.length fun k => [V.ints (gc l k).feed, V.ints (gc l k).back, V.i (gc l k).share]
def cvL (c : Cv) : Prop := c.feed.length ≤ bigL ∧ c.back.length ≤ bigL
theorem cvE_many {c : Cv} (h : 8 < c.feed.length ∨ 8 < c.back.length) : cvE c = 6 := by unfold cvE; rw [if_pos oM]
theorem cvE_few {c : Cv} (h1 : c.feed.length ≤ 8) (h2 : c.back.length ≤ 8) : cvE c = if (c.feed.any fun n => bey n 4096) || (c.back.any fun n => bey n 4096) || decide (c.share < 1) || decide (4096 < c.share) then 2 else 0 := by
 unfold cvE; rw [if_neg oM]
set_option maxRecDepth 100000 in
theorem CheckCurve_ac (c : Cv) (hl : cvL c) : AC Tryz.prog 156 [V.cv c] (.i (cvE c)) [] := by
 obtain ⟨hl1, hl2⟩ := hl
 refine acI hTT hMX Tryz.func156 Tryz.ntmps156 fun C hC hF => ?_
 refine sK fun K hK => wR 2 ?_; refine aX hTT 2 [] tI ?_; refine nK hK ?_; clear hK K; refine sK fun K hK => ?_
 refine aw_block ?_
 refine sK fun K hK => wR 3 ?_; refine aX hTT 9 [] tI ?_; refine nK hK ?_; clear hK K
 refine w_cond (t := decide ((8 : Int) < max (↑(List.length (Cv.feed c)) : Int) (↑(List.length (Cv.back c)) : Int))) kR (fun c1 => ?_) (fun c1 => ?_)
 ·
  simp at c1
  refine sK fun K hK => wR 4 ?_
  refine aops_n hTT (M := []) (n := 1) [pv (2 : Nat) (V.i (6 : Int))] kR kR tI ?_
  refine nK hK ?_; clear hK K
  refine aw_ret ?_
  refine xb_r ?_
  refine xt_r ?_
  rw [cvE_many oM]
  refine rP (V.i (6 : Int))
 ·
  simp at c1
  refine sK fun K hK => wR 4 ?_
  refine aops_n hTT (M := []) (n := 2) [pv (13 : Nat) (V.ptr [V.sl (1 : Nat) (List.length (Cv.feed c)) fun (k : Nat) => [V.i (gi (Cv.feed c) k)], V.sl (1 : Nat) (List.length (Cv.back c)) fun (k : Nat) => [V.i (gi (Cv.back c) k)], V.i (Cv.share c)]), pv (14 : Nat) (V.sl (1 : Nat) (List.length (Cv.feed c)) fun (k : Nat) => [V.i (gi (Cv.feed c) k)])] kR kR tI ?_
  refine eC (anyBeyond_ac c.feed 4096 hl1 (by decide)) ?_
  refine aops_n hTT (M := []) (n := 3) [pv (16 : Nat) (V.b (List.any (Cv.feed c) fun (n : Int) => bey n (4096 : Int))), pc (17 : Nat) ((True ∧ True) ∧ (((List.any (Cv.feed c) fun (n : Int) => bey n (4096 : Int)) == false) = true → True)) (V.gd ((List.any (Cv.feed c) fun (n : Int) => bey n (4096 : Int)) == false) (V.ptr [V.sl (1 : Nat) (List.length (Cv.back c)) fun (k : Nat) => [V.i (gi (Cv.back c) k)], V.i (Cv.share c)])), pc (18 : Nat) (((((List.any (Cv.feed c) fun (n : Int) => bey n (4096 : Int)) == false) = true → ((List.any (Cv.feed c) fun (n : Int) => bey n (4096 : Int)) == false) = true) ∧ True) ∧ (((List.any (Cv.feed c) fun (n : Int) => bey n (4096 : Int)) == false) = true → True)) (V.gd ((List.any (Cv.feed c) fun (n : Int) => bey n (4096 : Int)) == false) (V.sl (1 : Nat) (List.length (Cv.back c)) fun (k : Nat) => [V.i (gi (Cv.back c) k)]))] kR kR ⟨⟨⟨tI, tI⟩, (fun _ => tI)⟩, ⟨⟨(by (exact fun h => h)), tI⟩, (fun _ => tI)⟩, tI⟩ ?_
  refine eG 1 (g := (List.any (Cv.feed c) fun (n : Int) => bey n (4096 : Int)) == false) (fun h => anyBeyond_ac c.back 4096 hl2 (by decide)) ?_
  refine aops_n hTT (M := []) (n := 12) [pc (20 : Nat) (True ∧ ((List.any (Cv.feed c) fun (n : Int) => bey n (4096 : Int)) = false → ((List.any (Cv.feed c) fun (n : Int) => bey n (4096 : Int)) == false) = true)) (V.b ((List.any (Cv.feed c) fun (n : Int) => bey n (4096 : Int)) || List.any (Cv.back c) fun (n : Int) => bey n (4096 : Int))), pv (21 : Nat) (V.b ((List.any (Cv.feed c) fun (n : Int) => bey n (4096 : Int)) || List.any (Cv.back c) fun (n : Int) => bey n (4096 : Int))), pc (22 : Nat) ((True ∧ True) ∧ ((((List.any (Cv.feed c) fun (n : Int) => bey n (4096 : Int)) || List.any (Cv.back c) fun (n : Int) => bey n (4096 : Int)) == false) = true → True)) (V.gd (((List.any (Cv.feed c) fun (n : Int) => bey n (4096 : Int)) || List.any (Cv.back c) fun (n : Int) => bey n (4096 : Int)) == false) (V.ptr [V.i (Cv.share c)])), pc (23 : Nat) ((((((List.any (Cv.feed c) fun (n : Int) => bey n (4096 : Int)) || List.any (Cv.back c) fun (n : Int) => bey n (4096 : Int)) == false) = true → (((List.any (Cv.feed c) fun (n : Int) => bey n (4096 : Int)) || List.any (Cv.back c) fun (n : Int) => bey n (4096 : Int)) == false) = true) ∧ True) ∧ ((((List.any (Cv.feed c) fun (n : Int) => bey n (4096 : Int)) || List.any (Cv.back c) fun (n : Int) => bey n (4096 : Int)) == false) = true → True)) (V.gd (((List.any (Cv.feed c) fun (n : Int) => bey n (4096 : Int)) || List.any (Cv.back c) fun (n : Int) => bey n (4096 : Int)) == false) (V.i (Cv.share c))), pc (24 : Nat) ((((((List.any (Cv.feed c) fun (n : Int) => bey n (4096 : Int)) || List.any (Cv.back c) fun (n : Int) => bey n (4096 : Int)) == false) = true → (((List.any (Cv.feed c) fun (n : Int) => bey n (4096 : Int)) || List.any (Cv.back c) fun (n : Int) => bey n (4096 : Int)) == false) = true) ∧ True ∧ True) ∧ ((((List.any (Cv.feed c) fun (n : Int) => bey n (4096 : Int)) || List.any (Cv.back c) fun (n : Int) => bey n (4096 : Int)) == false) = true → True)) (V.gd (((List.any (Cv.feed c) fun (n : Int) => bey n (4096 : Int)) || List.any (Cv.back c) fun (n : Int) => bey n (4096 : Int)) == false) (V.b (decide (Cv.share c < 1)))), pc (25 : Nat) (True ∧ (((List.any (Cv.feed c) fun (n : Int) => bey n (4096 : Int)) || List.any (Cv.back c) fun (n : Int) => bey n (4096 : Int)) = false → (((List.any (Cv.feed c) fun (n : Int) => bey n (4096 : Int)) || List.any (Cv.back c) fun (n : Int) => bey n (4096 : Int)) == false) = true)) (V.b (((List.any (Cv.feed c) fun (n : Int) => bey n (4096 : Int)) || List.any (Cv.back c) fun (n : Int) => bey n (4096 : Int)) || decide (Cv.share c < 1))), pv (26 : Nat) (V.b (((List.any (Cv.feed c) fun (n : Int) => bey n (4096 : Int)) || List.any (Cv.back c) fun (n : Int) => bey n (4096 : Int)) || decide (Cv.share c < 1))), pc (27 : Nat) ((True ∧ True) ∧ (((((List.any (Cv.feed c) fun (n : Int) => bey n (4096 : Int)) || List.any (Cv.back c) fun (n : Int) => bey n (4096 : Int)) || decide (Cv.share c < 1)) == false) = true → True)) (V.gd ((((List.any (Cv.feed c) fun (n : Int) => bey n (4096 : Int)) || List.any (Cv.back c) fun (n : Int) => bey n (4096 : Int)) || decide (Cv.share c < 1)) == false) (V.ptr [V.i (Cv.share c)])), pc (28 : Nat) (((((((List.any (Cv.feed c) fun (n : Int) => bey n (4096 : Int)) || List.any (Cv.back c) fun (n : Int) => bey n (4096 : Int)) || decide (Cv.share c < 1)) == false) = true → ((((List.any (Cv.feed c) fun (n : Int) => bey n (4096 : Int)) || List.any (Cv.back c) fun (n : Int) => bey n (4096 : Int)) || decide (Cv.share c < 1)) == false) = true) ∧ True) ∧ (((((List.any (Cv.feed c) fun (n : Int) => bey n (4096 : Int)) || List.any (Cv.back c) fun (n : Int) => bey n (4096 : Int)) || decide (Cv.share c < 1)) == false) = true → True)) (V.gd ((((List.any (Cv.feed c) fun (n : Int) => bey n (4096 : Int)) || List.any (Cv.back c) fun (n : Int) => bey n (4096 : Int)) || decide (Cv.share c < 1)) == false) (V.i (Cv.share c))), pc (29 : Nat) (((((((List.any (Cv.feed c) fun (n : Int) => bey n (4096 : Int)) || List.any (Cv.back c) fun (n : Int) => bey n (4096 : Int)) || decide (Cv.share c < 1)) == false) = true → ((((List.any (Cv.feed c) fun (n : Int) => bey n (4096 : Int)) || List.any (Cv.back c) fun (n : Int) => bey n (4096 : Int)) || decide (Cv.share c < 1)) == false) = true) ∧ True ∧ True) ∧ (((((List.any (Cv.feed c) fun (n : Int) => bey n (4096 : Int)) || List.any (Cv.back c) fun (n : Int) => bey n (4096 : Int)) || decide (Cv.share c < 1)) == false) = true → True)) (V.gd ((((List.any (Cv.feed c) fun (n : Int) => bey n (4096 : Int)) || List.any (Cv.back c) fun (n : Int) => bey n (4096 : Int)) || decide (Cv.share c < 1)) == false) (V.b (decide ((4096 : Int) < Cv.share c)))), pc (30 : Nat) (True ∧ ((((List.any (Cv.feed c) fun (n : Int) => bey n (4096 : Int)) || List.any (Cv.back c) fun (n : Int) => bey n (4096 : Int)) || decide (Cv.share c < 1)) = false → ((((List.any (Cv.feed c) fun (n : Int) => bey n (4096 : Int)) || List.any (Cv.back c) fun (n : Int) => bey n (4096 : Int)) || decide (Cv.share c < 1)) == false) = true)) (V.b (((List.any (Cv.feed c) fun (n : Int) => bey n (4096 : Int)) || List.any (Cv.back c) fun (n : Int) => bey n (4096 : Int)) || decide (Cv.share c < 1) || decide ((4096 : Int) < Cv.share c))), pv (12 : Nat) (V.b (((List.any (Cv.feed c) fun (n : Int) => bey n (4096 : Int)) || List.any (Cv.back c) fun (n : Int) => bey n (4096 : Int)) || decide (Cv.share c < 1) || decide ((4096 : Int) < Cv.share c)))] kR kR ⟨⟨tI, (by (intro h; rw [h]; rfl))⟩, ⟨⟨tI, tI⟩, (fun _ => tI)⟩, ⟨⟨(by (exact fun h => h)), tI⟩, (fun _ => tI)⟩, ⟨⟨(by (exact fun h => h)), ⟨tI, tI⟩⟩, (fun _ => tI)⟩, ⟨tI, (by (intro h; rw [h]; rfl))⟩, ⟨⟨tI, tI⟩, (fun _ => tI)⟩, ⟨⟨(by (exact fun h => h)), tI⟩, (fun _ => tI)⟩, ⟨⟨(by (exact fun h => h)), ⟨tI, tI⟩⟩, (fun _ => tI)⟩, ⟨tI, (by (intro h; rw [h]; rfl))⟩, tI⟩ ?_
  refine nK hK ?_; clear hK K
  refine w_cond (t := ((List.any (Cv.feed c) fun (n : Int) => bey n (4096 : Int)) || List.any (Cv.back c) fun (n : Int) => bey n (4096 : Int)) || decide (Cv.share c < 1) || decide ((4096 : Int) < Cv.share c)) kR (fun c2 => ?_) (fun c2 => ?_)
  ·
   refine sK fun K hK => ?_
   refine wR 5 ?_; refine aX hTT 1 [] tI ?_; refine nK hK ?_; clear hK K
   refine aw_ret ?_
   refine xb_r ?_
   refine xt_r ?_
   rw [cvE_few oM oM, if_pos c2]
   refine rP (V.i (2 : Int))
  ·
   refine aw_skip ?_
   refine xb_n ?_; refine xt_n (hK _ ?_); clear hK K; refine sK fun K hK => wR 5 ?_; refine aX hTT 1 [] tI ?_; refine nK hK ?_; clear hK K
   refine aw_ret ?_
   rw [cvE_few oM oM, if_neg (by rw [c2]; decide)]
   refine rP (V.i (0 : Int))
def fChE (l : List Cv) : Int := if 8 < l.length then 6 else match l.find? fun c => decide (cvE c ≠ 0) with | some c => cvE c | none => 0
theorem fChE_first {l : List Cv} (h8 : l.length ≤ 8) {k : Nat} (hk : k < l.length) (h : cvE (gc l k) ≠ 0) (hj : ∀ j, j < k → cvE (gc l j) = 0) : fChE l = cvE (gc l k) := by
 have : l.find? (fun c => decide (cvE c ≠ 0)) = some (gc l k) := by
  rw [gc_eq hk] at h ⊢
  rw [List.find?_eq_some_iff_getElem]
  refine ⟨by simpa using h, k, hk, rfl, fun j hjk => ?_⟩
  have := hj j hjk
  rw [gc_eq oM] at this
  simp [this]
 unfold fChE
 rw [if_neg oM, this]
theorem fChE_ok {l : List Cv} : fChE l = 0 ↔ l.length ≤ 8 ∧ ∀ k, k < l.length → cvE (gc l k) = 0 := by
 constructor
 ·
  intro h
  have h8 : l.length ≤ 8 := by
   unfold fChE at h
   split at h
   ·
    cases h
   ·
    omega
  refine ⟨h8, fun k hk => ?_⟩
  by_cases hc : ∃ k, k < l.length ∧ cvE (gc l k) ≠ 0
  ·
   obtain ⟨j, ⟨h1, h2⟩, h3⟩ := least _ hc
   rw [fChE_first h8 h1 h2 fun i hi => by
    by_cases h0 : cvE (gc l i) = 0
    ·
     exact h0
    ·
     have := h3 i ⟨by omega, h0⟩; omega] at h
   exact absurd h h2
  ·
   by_cases h0 : cvE (gc l k) = 0
   ·
    exact h0
   ·
    exact absurd ⟨k, hk, h0⟩ hc
 ·
  rintro ⟨h8, h⟩
  have : l.find? (fun c => decide (cvE c ≠ 0)) = none := by
   rw [List.find?_eq_none]
   intro x hx
   obtain ⟨k, hk, rfl⟩ := List.getElem_of_mem hx
   have := h k hk
   rw [gc_eq hk] at this
   simp [this]
  unfold fChE
  rw [if_neg oM, this]
def cvsL (l : List Cv) : Prop := l.length ≤ bigL ∧ ∀ k, k < l.length → cvL (gc l k)
set_option maxRecDepth 100000 in
theorem checkChain_ac (l : List Cv) (hl : cvsL l) : AC Tryz.prog 135 [V.cvs l] (.i (fChE l)) [] := by
 obtain ⟨hl1, hl2⟩ := hl
 unfold bigL at hl1
 refine acI hTT hMX Tryz.func135 Tryz.ntmps135 fun C hC hF => ?_
 refine sK fun K hK => wR 2 ?_; refine aX hTT 1 [] tI ?_; refine nK hK ?_; clear hK K; refine sK fun K hK => ?_; refine sK fun K hK => wR 3 ?_; refine aX hTT 3 [] tI ?_; refine nK hK ?_; clear hK K
 refine w_cond (t := decide ((8 : Int) < (↑(List.length l) : Int))) kR (fun c1 => ?_) (fun c1 => ?_)
 ·
  simp at c1
  refine sK fun K hK => wR 4 ?_; refine aX hTT 1 [] tI ?_; refine nK hK ?_; clear hK K
  refine aw_ret ?_
  refine xt_r ?_
  rw [show fChE l = 6 by unfold fChE; rw [if_pos oM]]
  refine rP (V.i 6)
 simp at c1
 refine aw_skip ?_
 refine xt_n (hK _ ?_); clear hK K; refine sK fun K hK => ?_; refine sK fun K hK => wR 4 ?_; refine aX hTT 3 [] tI ?_; refine nK hK ?_; clear hK K
 refine aw_block ?_
 refine w_loop (ι := Nat) (fun k => [(9, V.cvs l), (10, .i l.length), (11, .i k)]) (fun _ => []) (fun k => k ≤ l.length ∧ ∀ j, j < k → cvE (gc l j) = 0) (fun k => l.length - k) 0 ⟨Nat.zero_le _, fun j hj => by omega⟩ ?_ ?_
 ·
  refine le_ren [] (.cons kR (.cons kR (.cons kR .nil))) .nil kR kR
 rintro k ⟨hk, hb⟩
 refine sK fun K hK => wR 2 ?_; refine aX hTT 1 [] tI ?_; refine nK hK ?_; clear hK K; refine sK fun K hK => ?_
 refine w_cond (t := decide ((↑k : Int) < (↑(List.length l) : Int))) kR (fun c2 => ?_) (fun c2 => ?_)
 ·
  simp at c2
  refine aw_skip ?_
  refine xt_n (hK _ ?_); clear hK K; refine sK fun K hK => ?_
  refine aw_block ?_
  refine sK fun K hK => wR 3 ?_; refine aX hTT 4 [(0, .c ((0 : Int) ≤ (↑k : Int) ∧ (↑k : Int) < (↑(List.length l) : Int))), (2, .r (pn 4 (V.ref 200004 0) (200004 : Nat) (Ob.box 162 [V.nil, V.nil, V.i 0]))), (3, .r (pw ((0 : Nat) + (3 : Nat) ≤ (3 : Nat)) (200004 : Nat) (Ob.box 162 [V.sl 1 (List.length (Cv.feed (gc l k))) fun (k_1 : Nat) => [V.i (gi (Cv.feed (gc l k)) k_1)], V.sl 1 (List.length (Cv.back (gc l k))) fun (k_1 : Nat) => [V.i (gi (Cv.back (gc l k)) k_1)], V.i (Cv.share (gc l k))])))] ⟨oM, oM, tI⟩ ?_; refine nK hK ?_; clear hK K; refine sK fun K hK => wR 4 ?_; refine aX hTT 1 [(0, .c ((0 : Nat) ≤ (3 : Nat)))] ⟨oM, tI⟩ ?_
  refine eC (CheckCurve_ac (gc l k) (hl2 k c2)) ?_
  refine aX hTT 1 [] tI ?_; refine nK hK ?_; clear hK K; refine sK fun K hK => wR 5 ?_; refine aX hTT 2 [] tI ?_; refine nK hK ?_; clear hK K
  refine w_cond (t := !decide (cvE (gc l k) = 0)) kR (fun c3 => ?_) (fun c3 => ?_)
  ·
   simp at c3
   refine sK fun K hK => wR 6 ?_; refine aX hTT 2 [] tI ?_; refine nK hK ?_; clear hK K
   refine aw_ret ?_
   refine xb_r ?_
   refine xt_r ?_; refine xt_r ?_
   refine xb_r ?_
   refine xt_r ?_
   rw [fChE_first oM c2 c3 hb]
   refine rP (V.i (cvE (gc l k)))
  ·
   simp at c3
   refine aw_skip ?_
   refine xb_n ?_; refine xt_n (hK _ ?_); clear hK K; refine wR 6 ?_; refine aX hTT 2 [(0, .i ((↑k : Int) + 1))] ⟨oM, tI⟩ ?_; refine aops_nil ?_; refine xt_n ?_
   refine ⟨k + 1, ⟨by omega, fun j hj => ?_⟩, by refine le_ren [] (.cons kR (.cons kR (.cons kR .nil))) .nil kR kR, by omega⟩
   by_cases h : j < k
   ·
    exact hb j h
   ·
    obtain rfl : j = k := by omega
    exact c3
 ·
  simp at c2
  refine aw_exit ?_
  refine xt_x ?_; refine xt_x ?_
  refine xb_same ?_
  refine xt_n ?_; clear hK K; refine hK _ ?_; clear hK K; refine sK fun K hK => wR 3 ?_; refine aX hTT 1 [] tI ?_; refine nK hK ?_; clear hK K
  refine aw_ret ?_
  rw [fChE_ok.2 ⟨by omega, fun k hk => hb k oM⟩]
  refine rP (V.i 0)
end Go.Proofs.YtepkjobndmmejaaGreatDoor
