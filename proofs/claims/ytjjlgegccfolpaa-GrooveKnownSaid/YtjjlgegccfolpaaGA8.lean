/-
  The least radius at which something of a groove is right: closures, sort.Search: the walks of the program. Conditions: told in each theorem.
-/
import Derived.Test.YtjjlgegccfolpaaGA7
import Derived.Test.YtjjlgegccfolpaaAbs32
namespace Go.Proofs.Ytjjlgegccfolpaa
open Go.Ab Go.RowKit Go.Dw Go.Shelf

def fitB (c : Cut) (l : List Pt) (per r : Int) : Bool := decide ((faultR c l r per).2 = 0)
abbrev TB (k : Nat) : Ob := .box 73 [.ref k 0]
/-- the answer as a value that the conversion takes -/
theorem fault_am (c : Cut) (l : List Pt) (r per : Int) (hc : cutE c = 0) (hl : gChk l = 0) (hp : Plc r per) : AM Try.prog 51 [.ref 500 0] [TrO c l r per] (.tup [.i (faultR c l r per).1, .i (faultR c l r per).2]) [some (TrO c l r per)] [] :=
  AC.box (P := Try.prog) (fault_ac c l r per hc hl hp) 90 (by kernel_rfl) (by kernel_rfl) (by kernel_rfl) (by kernel_rfl)

abbrev RBL (k : Nat) : Ob := .box 28 [.fn (.func 50) [] [.ref k 0]]
abbrev HBL (a b : Nat) : Ob := .box 95 [.fn (.func 74) [] [.ref a 0, .ref b 0]]
set_option maxRecDepth 100000 in
theorem rightL_am (c : Cut) (l : List Pt) (r per : Int) (hc : cutE c = 0) (hl : gChk l = 0) (hp : Plc r per) :
    AM Try.prog 50 [.ref 500 0] [TB 501, TrO c l r per] (.b (fitB c l per r)) [some (TB 501), some (TrO c l r per)] [] := by
  refine am_intro hTT hMX (fn := Try.f50) (N := _) ⟨Try.func50, rfl, Try.ntmps50, by kernel_rfl⟩ (by simp) rfl (by simp) (by simp) fun C hF => ?_
  refine aw_seq_k fun K hK => ?_
  refine w_region (n' := 2) (by kernel_rfl) (by kernel_rfl) ?_
  refine aops_n hTT (M := []) (n := 1) [pv (1 : Nat) (V.b false)] (by kernel_rfl) (by kernel_rfl) True.intro ?_
  refine aops_nil ?_
  refine xt_n ?_
  refine hK _ ?_
  clear hK K
  refine aw_seq_k fun K hK => ?_
  refine w_region (n' := 3) (by kernel_rfl) (by kernel_rfl) ?_
  refine aops_n hTT (M := []) (n := 1) [pc (5 : Nat) ((0 : Nat) ≤ (1 : Nat)) (V.ref (501 : Nat) (0 : Nat))] (by kernel_rfl) (by kernel_rfl) ⟨(by omega), True.intro⟩ ?_
  refine aops_callR [501] (first := []) (caps := []) (ins' := [Ob.box (90 : Nat) [V.i (Cut.half c), V.i (Cut.gain c), V.i (Cut.thin c), V.i (Cut.wide c), V.i (Cut.slope c), V.i (Cut.jerk c), V.i (Cut.sty c), V.sl (2 : Nat) (List.length l) fun (k : Nat) => [V.i (Prod.fst (gp l k)), V.i (Prod.snd (gp l k))], V.i r, V.i per]]) (v' := V.tup [V.i (Prod.fst (faultR c l r per)), V.i (Prod.snd (faultR c l r per))]) (δ := []) (kp := [501]) (fault_am c l r per hc hl hp) (by kernel_rfl) (by kernel_rfl) (by kernel_rfl) (by kernel_rfl) (by kernel_rfl) (by kernel_rfl) (by kernel_rfl) rfl (by kernel_rfl) (by kernel_rfl) ⟨(by kernel_rfl), True.intro⟩ (by kernel_rfl) (by kernel_rfl) (by kernel_rfl) ?_
  refine aops_n hTT (M := []) (n := 5) [pv (4 : Nat) (V.tup [V.i (Prod.fst (faultR c l r per)), V.i (Prod.snd (faultR c l r per))]), pv (7 : Nat) (V.i (Prod.fst (faultR c l r per))), pv (8 : Nat) (V.i (Prod.snd (faultR c l r per))), pv (2 : Nat) (V.i (Prod.fst (faultR c l r per))), pv (3 : Nat) (V.i (Prod.snd (faultR c l r per)))] (by kernel_rfl) (by kernel_rfl) True.intro ?_
  refine aops_nil ?_
  refine xt_n ?_
  refine hK _ ?_
  clear hK K
  refine aw_seq_k fun K hK => ?_
  refine w_region (n' := 4) (by kernel_rfl) (by kernel_rfl) ?_
  refine aops_n hTT (M := []) (n := 3) [pv (9 : Nat) (V.i (Prod.snd (faultR c l r per))), pv (10 : Nat) (V.b (decide (Prod.snd (faultR c l r per) = (0 : Int)))), pv (1 : Nat) (V.b (decide (Prod.snd (faultR c l r per) = (0 : Int))))] (by kernel_rfl) (by kernel_rfl) True.intro ?_
  refine aops_nil ?_
  refine xt_n ?_
  refine hK _ ?_
  clear hK K
  refine aw_ret ?_
  refine retM (v' := V.b (decide (Prod.snd (faultR c l r per) = (0 : Int)))) [] [(1, V.b (decide (Prod.snd (faultR c l r per) = (0 : Int))))] (.inr rfl) (.cons (by kernel_rfl) .nil) (.cons ⟨Ob.box (73 : Nat) [V.ref (501 : Nat) (0 : Nat)], (by kernel_rfl), .box (by kernel_rfl)⟩ (.cons ⟨Ob.box (90 : Nat) [V.i (Cut.half c), V.i (Cut.gain c), V.i (Cut.thin c), V.i (Cut.wide c), V.i (Cut.slope c), V.i (Cut.jerk c), V.i (Cut.sty c), V.sl (2 : Nat) (List.length l) fun (k : Nat) => [V.i (Prod.fst (gp l k)), V.i (Prod.snd (gp l k))], V.i r, V.i per], (by kernel_rfl), .box (by kernel_rfl)⟩ .nil)) (by kernel_rfl) (by kernel_rfl) (by kernel_rfl) (by kernel_rfl) (by kernel_rfl) (by kernel_rfl) (by kernel_rfl)

set_option maxRecDepth 100000 in
theorem least1L_am (c : Cut) (l : List Pt) (r r' per : Int) (hc : cutE c = 0) (hl : gChk l = 0) (hp : Plc r' per) :
    AM Try.prog 74 [.i r', .ref 500 0, .ref 501 0] [TB 502, RBL 503, TrO c l r per, TB 502] (.b (fitB c l per r')) [some (TB 502), some (RBL 503), some (TrO c l r' per), some (TB 502)] [] := by
  refine am_intro hTT hMX (fn := Try.f74) (N := _) ⟨Try.func74, rfl, Try.ntmps74, by kernel_rfl⟩ (by simp) rfl (by simp) (by simp) fun C hF => ?_
  refine aw_seq_k fun K hK => ?_
  refine w_region (n' := 2) (by kernel_rfl) (by kernel_rfl) ?_
  refine aops_n hTT (M := []) (n := 1) [pv (4 : Nat) (V.b false)] (by kernel_rfl) (by kernel_rfl) True.intro ?_
  refine aops_nil ?_
  refine xt_n ?_
  refine hK _ ?_
  clear hK K
  refine aw_seq_k fun K hK => ?_
  refine w_region (n' := 3) (by kernel_rfl) (by kernel_rfl) ?_
  refine aops_n hTT (M := []) (n := 5) [pc (5 : Nat) ((0 : Nat) ≤ (1 : Nat)) (V.ref (502 : Nat) (0 : Nat)), pv (6 : Nat) (V.i r'), pv (7 : Nat) (V.ref (502 : Nat) (0 : Nat)), pv (8 : Nat) (V.ref (502 : Nat) (8 : Nat)), pw ((8 : Nat) + (1 : Nat) ≤ (10 : Nat)) (502 : Nat) (Ob.box (90 : Nat) [V.i (Cut.half c), V.i (Cut.gain c), V.i (Cut.thin c), V.i (Cut.wide c), V.i (Cut.slope c), V.i (Cut.jerk c), V.i (Cut.sty c), V.sl (2 : Nat) (List.length l) fun (k : Nat) => [V.i (Prod.fst (gp l k)), V.i (Prod.snd (gp l k))], V.i r', V.i per])] (by kernel_rfl) (by kernel_rfl) ⟨(by omega), (by omega), True.intro⟩ ?_
  refine aops_nil ?_
  refine xt_n ?_
  refine hK _ ?_
  clear hK K
  refine aw_seq_k fun K hK => ?_
  refine w_region (n' := 4) (by kernel_rfl) (by kernel_rfl) ?_
  refine aops_n hTT (M := []) (n := 1) [pc (9 : Nat) ((0 : Nat) ≤ (1 : Nat)) (V.fn (Fn.func (50 : Nat)) [] [V.ref (503 : Nat) (0 : Nat)])] (by kernel_rfl) (by kernel_rfl) ⟨(by omega), True.intro⟩ ?_
  refine aops_callR [503, 502] (first := []) (caps := [V.ref (503 : Nat) (0 : Nat)]) (ins' := [Ob.box (73 : Nat) [V.ref (502 : Nat) (0 : Nat)], Ob.box (90 : Nat) [V.i (Cut.half c), V.i (Cut.gain c), V.i (Cut.thin c), V.i (Cut.wide c), V.i (Cut.slope c), V.i (Cut.jerk c), V.i (Cut.sty c), V.sl (2 : Nat) (List.length l) fun (k : Nat) => [V.i (Prod.fst (gp l k)), V.i (Prod.snd (gp l k))], V.i r', V.i per]]) (v' := V.b (fitB c l per r')) (δ := []) (kp := [503, 502]) (rightL_am c l r' per hc hl hp) (by kernel_rfl) (by kernel_rfl) (by kernel_rfl) (by kernel_rfl) (by kernel_rfl) (by kernel_rfl) (by kernel_rfl) rfl (by kernel_rfl) (by kernel_rfl) ⟨(by kernel_rfl), ⟨(by kernel_rfl), True.intro⟩⟩ (by kernel_rfl) (by kernel_rfl) (by kernel_rfl) ?_
  refine aops_n hTT (M := []) (n := 1) [pv (4 : Nat) (V.b (fitB c l per r'))] (by kernel_rfl) (by kernel_rfl) True.intro ?_
  refine aops_nil ?_
  refine xt_n ?_
  refine hK _ ?_
  clear hK K
  refine aw_ret ?_
  refine retM (v' := V.b (fitB c l per r')) [] [(4, V.b (fitB c l per r'))] (.inr rfl) (.cons (by kernel_rfl) .nil) (.cons ⟨Ob.box (73 : Nat) [V.ref (502 : Nat) (0 : Nat)], (by kernel_rfl), .box (by kernel_rfl)⟩ (.cons ⟨Ob.box (28 : Nat) [V.fn (Fn.func (50 : Nat)) [] [V.ref (503 : Nat) (0 : Nat)]], (by kernel_rfl), .box (by kernel_rfl)⟩ (.cons ⟨Ob.box (90 : Nat) [V.i (Cut.half c), V.i (Cut.gain c), V.i (Cut.thin c), V.i (Cut.wide c), V.i (Cut.slope c), V.i (Cut.jerk c), V.i (Cut.sty c), V.sl (2 : Nat) (List.length l) fun (k : Nat) => [V.i (Prod.fst (gp l k)), V.i (Prod.snd (gp l k))], V.i r', V.i per], (by kernel_rfl), .box (by kernel_rfl)⟩ (.cons ⟨Ob.box (73 : Nat) [V.ref (502 : Nat) (0 : Nat)], (by kernel_rfl), .box (by kernel_rfl)⟩ .nil)))) (by kernel_rfl) (by kernel_rfl) (by kernel_rfl) (by kernel_rfl) (by kernel_rfl) (by kernel_rfl) (by kernel_rfl)
set_option maxRecDepth 100000 in
theorem first1L_am (c : Cut) (l : List Pt) (r r' per : Int) (hc : cutE c = 0) (hl : gChk l = 0) (hp : Plc r' per) :
    AM Try.prog 84 [.i r', .ref 500 0] [HBL 501 502, TB 503, RBL 504, TrO c l r per, TB 503] (.b (fitB c l per r')) [some (HBL 501 502), some (TB 503), some (RBL 504), some (TrO c l r' per), some (TB 503)] [] := by
  refine am_intro hTT hMX (fn := Try.f84) (N := _) ⟨Try.func84, rfl, Try.ntmps84, by kernel_rfl⟩ (by simp) rfl (by simp) (by simp) fun C hF => ?_
  refine aw_seq_k fun K hK => ?_
  refine w_region (n' := 2) (by kernel_rfl) (by kernel_rfl) ?_
  refine aops_n hTT (M := []) (n := 1) [pv (3 : Nat) (V.b false)] (by kernel_rfl) (by kernel_rfl) True.intro ?_
  refine aops_nil ?_
  refine xt_n ?_
  refine hK _ ?_
  clear hK K
  refine aw_seq_k fun K hK => ?_
  refine w_region (n' := 3) (by kernel_rfl) (by kernel_rfl) ?_
  refine aops_n hTT (M := []) (n := 2) [pc (4 : Nat) ((0 : Nat) ≤ (1 : Nat)) (V.fn (Fn.func (74 : Nat)) [] [V.ref (501 : Nat) (0 : Nat), V.ref (502 : Nat) (0 : Nat)]), pv (5 : Nat) (V.i r')] (by kernel_rfl) (by kernel_rfl) ⟨(by omega), True.intro⟩ ?_
  refine aops_callM [501, 502, 503, 504] (first := []) (caps := [V.ref (501 : Nat) (0 : Nat), V.ref (502 : Nat) (0 : Nat)]) (ins' := [Ob.box (73 : Nat) [V.ref (503 : Nat) (0 : Nat)], Ob.box (28 : Nat) [V.fn (Fn.func (50 : Nat)) [] [V.ref (504 : Nat) (0 : Nat)]], Ob.box (90 : Nat) [V.i (Cut.half c), V.i (Cut.gain c), V.i (Cut.thin c), V.i (Cut.wide c), V.i (Cut.slope c), V.i (Cut.jerk c), V.i (Cut.sty c), V.sl (2 : Nat) (List.length l) fun (k : Nat) => [V.i (Prod.fst (gp l k)), V.i (Prod.snd (gp l k))], V.i r, V.i per], Ob.box (73 : Nat) [V.ref (503 : Nat) (0 : Nat)]]) (v' := V.b (fitB c l per r')) (δ := [(501, Option.some (Ob.box (73 : Nat) [V.ref (503 : Nat) (0 : Nat)])), (502, Option.some (Ob.box (28 : Nat) [V.fn (Fn.func (50 : Nat)) [] [V.ref (504 : Nat) (0 : Nat)]])), (503, Option.some (Ob.box (90 : Nat) [V.i (Cut.half c), V.i (Cut.gain c), V.i (Cut.thin c), V.i (Cut.wide c), V.i (Cut.slope c), V.i (Cut.jerk c), V.i (Cut.sty c), V.sl (2 : Nat) (List.length l) fun (k : Nat) => [V.i (Prod.fst (gp l k)), V.i (Prod.snd (gp l k))], V.i r', V.i per])), (504, Option.some (Ob.box (73 : Nat) [V.ref (503 : Nat) (0 : Nat)]))]) (kp := [501, 502, 503, 504]) (least1L_am c l r r' per hc hl hp) (by kernel_rfl) (by kernel_rfl) (by kernel_rfl) (by kernel_rfl) (by kernel_rfl) (by kernel_rfl) rfl rfl (by kernel_rfl) (.box (by kernel_rfl) (by kernel_rfl) (.box (by kernel_rfl) (by kernel_rfl) (.box (by kernel_rfl) (by kernel_rfl) (.box (by kernel_rfl) (by kernel_rfl) .nil)))) (by kernel_rfl) (by kernel_rfl) (by kernel_rfl) ?_
  refine aops_n hTT (M := []) (n := 1) [pv (3 : Nat) (V.b (fitB c l per r'))] (by kernel_rfl) (by kernel_rfl) True.intro ?_
  refine aops_nil ?_
  refine xt_n ?_
  refine hK _ ?_
  clear hK K
  refine aw_ret ?_
  refine retM (v' := V.b (fitB c l per r')) [] [(3, V.b (fitB c l per r'))] (.inr rfl) (.cons (by kernel_rfl) .nil) (.cons ⟨Ob.box (95 : Nat) [V.fn (Fn.func (74 : Nat)) [] [V.ref (501 : Nat) (0 : Nat), V.ref (502 : Nat) (0 : Nat)]], (by kernel_rfl), .box (by kernel_rfl)⟩ (.cons ⟨Ob.box (73 : Nat) [V.ref (503 : Nat) (0 : Nat)], (by kernel_rfl), .box (by kernel_rfl)⟩ (.cons ⟨Ob.box (28 : Nat) [V.fn (Fn.func (50 : Nat)) [] [V.ref (504 : Nat) (0 : Nat)]], (by kernel_rfl), .box (by kernel_rfl)⟩ (.cons ⟨Ob.box (90 : Nat) [V.i (Cut.half c), V.i (Cut.gain c), V.i (Cut.thin c), V.i (Cut.wide c), V.i (Cut.slope c), V.i (Cut.jerk c), V.i (Cut.sty c), V.sl (2 : Nat) (List.length l) fun (k : Nat) => [V.i (Prod.fst (gp l k)), V.i (Prod.snd (gp l k))], V.i r', V.i per], (by kernel_rfl), .box (by kernel_rfl)⟩ (.cons ⟨Ob.box (73 : Nat) [V.ref (503 : Nat) (0 : Nat)], (by kernel_rfl), .box (by kernel_rfl)⟩ .nil))))) (by kernel_rfl) (by kernel_rfl) (by kernel_rfl) (by kernel_rfl) (by kernel_rfl) (by kernel_rfl) (by kernel_rfl)
set_option maxRecDepth 100000 in
theorem searchL_am (c : Cut) (l : List Pt) (r0 per F : Int) (hc : cutE c = 0) (hl : gChk l = 0) (hp : 1 ≤ per ∧ per ≤ 65536) (hF' : IsFst (fitB c l per) 4194305 F) :
    AM Try.prog 83 [.i 4194305, .fn (.func 84) [] [.ref 500 0]] [HBL 501 502, TB 503, RBL 504, TrO c l r0 per, TB 503] (.i F) [none, none, none, none, none] [] := by
  have hFb := hF'.b
  refine am_intro hTT hMX (fn := Try.f83) (N := _) ⟨Try.func83, rfl, Try.ntmps83, by kernel_rfl⟩ (by simp) rfl (by simp) (by simp) fun C hF => ?_
  refine aw_seq_k fun K hK => ?_
  refine w_region (n' := 2) (by kernel_rfl) (by kernel_rfl) ?_
  refine aops_n hTT (M := []) (n := 1) [pv (4 : Nat) (V.i (0 : Int))] (by kernel_rfl) (by kernel_rfl) True.intro ?_
  refine aops_nil ?_
  refine xt_n ?_
  refine hK _ ?_
  clear hK K
  refine aw_seq_k fun K hK => ?_
  refine w_region (n' := 3) (by kernel_rfl) (by kernel_rfl) ?_
  refine aops_n hTT (M := []) (n := 3) [pv (8 : Nat) (V.i (4194305 : Int)), pv (5 : Nat) (V.i (0 : Int)), pv (6 : Nat) (V.i (4194305 : Int))] (by kernel_rfl) (by kernel_rfl) True.intro ?_
  refine aops_nil ?_
  refine xt_n ?_
  refine hK _ ?_
  clear hK K
  refine aw_seq_k fun K hK => ?_
  refine aw_block ?_
  refine w_loop (ι := Int × Int × Int) (fun s => [(0, .i 4194305), (1, .fn (.func 84) [] [.ref 500 0]), (5, .i s.1), (6, .i s.2.1)]) (fun s => [(500, HBL 501 502), (501, TB 503), (502, RBL 504), (503, TrO c l s.2.2 per), (504, TB 503)])
    (fun s => 0 ≤ s.1 ∧ s.1 ≤ F ∧ F ≤ s.2.1 ∧ s.2.1 ≤ 4194305) (fun s => (s.2.1 - s.1).toNat) (0, 4194305, r0) ⟨Int.le_refl _, hFb.1, hFb.2, Int.le_refl _⟩ ?_ ?_
  · refine le_ren (sl := [(500, Ob.box (95 : Nat) [V.fn (Fn.func (74 : Nat)) [] [V.ref (501 : Nat) (0 : Nat), V.ref (502 : Nat) (0 : Nat)]]), (501, Ob.box (73 : Nat) [V.ref (503 : Nat) (0 : Nat)]), (502, Ob.box (28 : Nat) [V.fn (Fn.func (50 : Nat)) [] [V.ref (504 : Nat) (0 : Nat)]]), (503, Ob.box (90 : Nat) [V.i (Cut.half c), V.i (Cut.gain c), V.i (Cut.thin c), V.i (Cut.wide c), V.i (Cut.slope c), V.i (Cut.jerk c), V.i (Cut.sty c), V.sl (2 : Nat) (List.length l) fun (k : Nat) => [V.i (Prod.fst (gp l k)), V.i (Prod.snd (gp l k))], V.i (Prod.snd ((4194305 : Int), r0)), V.i per]), (504, Ob.box (73 : Nat) [V.ref (503 : Nat) (0 : Nat)])]) [] (.cons (by kernel_rfl) (.cons (by kernel_rfl) (.cons (by kernel_rfl) (.cons (by kernel_rfl) .nil)))) (.cons ⟨Ob.box (95 : Nat) [V.fn (Fn.func (74 : Nat)) [] [V.ref (501 : Nat) (0 : Nat), V.ref (502 : Nat) (0 : Nat)]], (by kernel_rfl), .box (by kernel_rfl)⟩ (.cons ⟨Ob.box (73 : Nat) [V.ref (503 : Nat) (0 : Nat)], (by kernel_rfl), .box (by kernel_rfl)⟩ (.cons ⟨Ob.box (28 : Nat) [V.fn (Fn.func (50 : Nat)) [] [V.ref (504 : Nat) (0 : Nat)]], (by kernel_rfl), .box (by kernel_rfl)⟩ (.cons ⟨Ob.box (90 : Nat) [V.i (Cut.half c), V.i (Cut.gain c), V.i (Cut.thin c), V.i (Cut.wide c), V.i (Cut.slope c), V.i (Cut.jerk c), V.i (Cut.sty c), V.sl (2 : Nat) (List.length l) fun (k : Nat) => [V.i (Prod.fst (gp l k)), V.i (Prod.snd (gp l k))], V.i r0, V.i per], (by kernel_rfl), .box (by kernel_rfl)⟩ (.cons ⟨Ob.box (73 : Nat) [V.ref (503 : Nat) (0 : Nat)], (by kernel_rfl), .box (by kernel_rfl)⟩ .nil))))) (by kernel_rfl) (by kernel_rfl)
  rintro ⟨i, j, r⟩ ⟨h1, h2, h3, h4⟩
  simp only at h1 h2 h3 h4
  refine aw_seq_k fun K hK => ?_
  refine aw_seq_k fun K hK => ?_
  refine w_region (n' := 2) (by kernel_rfl) (by kernel_rfl) ?_
  refine aops_n hTT (M := []) (n := 3) [pv (9 : Nat) (V.i i), pv (10 : Nat) (V.i (Prod.fst (j, r))), pv (11 : Nat) (V.b (decide (i < j)))] (by kernel_rfl) (by kernel_rfl) True.intro ?_
  refine aops_nil ?_
  refine xt_n ?_
  refine hK _ ?_
  clear hK K
  refine w_cond (t := decide (i < j)) (by kernel_rfl) (fun c1 => ?_) (fun c1 => ?_)
  · have c1 : i < j := by simpa using c1
    obtain ⟨m, hm⟩ : ∃ m : Int, (i + j).fdiv ((2 : Int) ^ min (1 : Nat) (IntKind.bits IntKind.u64)) = m := ⟨_, rfl⟩
    have m1 : i ≤ m ∧ m < j := by
      have : (i + j).fdiv ((2 : Int) ^ min (1 : Nat) (IntKind.bits IntKind.u64)) = (i + j) / 2 := by
        rw [Int.fdiv_eq_ediv_of_nonneg _ (by decide)]; rfl
      omega
    refine aw_skip ?_
    refine xt_n ?_
    refine hK _ ?_
    clear hK K
    refine aw_block ?_
    refine aw_seq_k fun K hK => ?_
    refine w_region (n' := 3) (by kernel_rfl) (by kernel_rfl) ?_
    refine aops_n hTT (M := []) (n := 7) [pv (12 : Nat) (V.i i), pv (13 : Nat) (V.i (Prod.fst (j, r))), pc (14 : Nat) ((-9223372036854775808 : Int) ≤ i + j ∧ i + j ≤ (9223372036854775807 : Int)) (V.i (i + j)), pc (15 : Nat) ((0 : Int) ≤ i + j ∧ i + j ≤ (18446744073709551615 : Int)) (V.c (Value.int IntKind.u64 (i + j))), pc (16 : Nat) ((0 : Int) ≤ (1 : Int)) (V.c (Value.int IntKind.u64 (Int.fdiv (i + j) ((2 : Int) ^ min (1 : Nat) (IntKind.bits IntKind.u64))))), pc (17 : Nat) ((-9223372036854775808 : Int) ≤ Int.fdiv (i + j) ((2 : Int) ^ min (1 : Nat) (IntKind.bits IntKind.u64)) ∧ Int.fdiv (i + j) ((2 : Int) ^ min (1 : Nat) (IntKind.bits IntKind.u64)) ≤ (9223372036854775807 : Int)) (V.i (Int.fdiv (i + j) ((2 : Int) ^ min (1 : Nat) (IntKind.bits IntKind.u64)))), pv (7 : Nat) (V.i (Int.fdiv (i + j) ((2 : Int) ^ min (1 : Nat) (IntKind.bits IntKind.u64))))] (by kernel_rfl) (by kernel_rfl) ⟨(by omega), (by omega), (by omega), (by omega), True.intro⟩ ?_
    refine aops_nil ?_
    refine xt_n ?_
    refine hK _ ?_
    clear hK K
    refine aw_seq_k fun K hK => ?_
    rw [hm]
    refine w_region (n' := 4) (by kernel_rfl) (by kernel_rfl) ?_
    refine aops_n hTT (M := []) (n := 2) [pv (18 : Nat) (V.fn (Fn.func (84 : Nat)) [] [V.ref (500 : Nat) (0 : Nat)]), pv (19 : Nat) (V.i m)] (by kernel_rfl) (by kernel_rfl) True.intro ?_
    refine aops_callM [500, 501, 502, 503, 504] (first := []) (caps := [V.ref (500 : Nat) (0 : Nat)]) (ins' := [Ob.box (95 : Nat) [V.fn (Fn.func (74 : Nat)) [] [V.ref (501 : Nat) (0 : Nat), V.ref (502 : Nat) (0 : Nat)]], Ob.box (73 : Nat) [V.ref (503 : Nat) (0 : Nat)], Ob.box (28 : Nat) [V.fn (Fn.func (50 : Nat)) [] [V.ref (504 : Nat) (0 : Nat)]], Ob.box (90 : Nat) [V.i (Cut.half c), V.i (Cut.gain c), V.i (Cut.thin c), V.i (Cut.wide c), V.i (Cut.slope c), V.i (Cut.jerk c), V.i (Cut.sty c), V.sl (2 : Nat) (List.length l) fun (k : Nat) => [V.i (Prod.fst (gp l k)), V.i (Prod.snd (gp l k))], V.i (Prod.snd (j, r)), V.i per], Ob.box (73 : Nat) [V.ref (503 : Nat) (0 : Nat)]]) (v' := V.b (fitB c l per m)) (δ := [(500, Option.some (Ob.box (95 : Nat) [V.fn (Fn.func (74 : Nat)) [] [V.ref (501 : Nat) (0 : Nat), V.ref (502 : Nat) (0 : Nat)]])), (501, Option.some (Ob.box (73 : Nat) [V.ref (503 : Nat) (0 : Nat)])), (502, Option.some (Ob.box (28 : Nat) [V.fn (Fn.func (50 : Nat)) [] [V.ref (504 : Nat) (0 : Nat)]])), (503, Option.some (Ob.box (90 : Nat) [V.i (Cut.half c), V.i (Cut.gain c), V.i (Cut.thin c), V.i (Cut.wide c), V.i (Cut.slope c), V.i (Cut.jerk c), V.i (Cut.sty c), V.sl (2 : Nat) (List.length l) fun (k : Nat) => [V.i (Prod.fst (gp l k)), V.i (Prod.snd (gp l k))], V.i m, V.i per])), (504, Option.some (Ob.box (73 : Nat) [V.ref (503 : Nat) (0 : Nat)]))]) (kp := [500, 501, 502, 503, 504]) (first1L_am c l r m per hc hl ⟨by omega, hp⟩) (by kernel_rfl) (by kernel_rfl) (by kernel_rfl) (by kernel_rfl) (by kernel_rfl) (by kernel_rfl) rfl rfl (by kernel_rfl) (.box (by kernel_rfl) (by kernel_rfl) (.box (by kernel_rfl) (by kernel_rfl) (.box (by kernel_rfl) (by kernel_rfl) (.box (by kernel_rfl) (by kernel_rfl) (.box (by kernel_rfl) (by kernel_rfl) .nil))))) (by kernel_rfl) (by kernel_rfl) (by kernel_rfl) ?_
    refine aops_n hTT (M := []) (n := 1) [pv (21 : Nat) (V.b !fitB c l per m)] (by kernel_rfl) (by kernel_rfl) True.intro ?_
    refine aops_nil ?_
    refine xt_n ?_
    refine hK _ ?_
    clear hK K
    refine w_cond (t := !fitB c l per m) (by kernel_rfl) (fun c2 => ?_) (fun c2 => ?_)
    · have q : fitB c l per m = false := by simpa using c2
      have m2 : m < F := by
        refine Int.not_le.1 fun h => ?_
        rw [hF'.hi m h (by omega)] at q; cases q
      refine w_region (n' := 5) (by kernel_rfl) (by kernel_rfl) ?_
      refine aops_n hTT (M := []) (n := 3) [pv (22 : Nat) (V.i m), pc (23 : Nat) ((-9223372036854775808 : Int) ≤ m + (1 : Int) ∧ m + (1 : Int) ≤ (9223372036854775807 : Int)) (V.i (m + (1 : Int))), pv (5 : Nat) (V.i (m + (1 : Int)))] (by kernel_rfl) (by kernel_rfl) ⟨(by omega), True.intro⟩ ?_
      refine aops_nil ?_
      refine xb_n ?_
      refine xt_n ?_
      refine ⟨(m + 1, j, m), ⟨by show 0 ≤ m + 1; omega, by show m + 1 ≤ F; omega, h3, h4⟩, ?_, by show (j - (m + 1)).toNat < (j - i).toNat; omega⟩
      refine le_ren (sl := [(500, Ob.box (95 : Nat) [V.fn (Fn.func (74 : Nat)) [] [V.ref (501 : Nat) (0 : Nat), V.ref (502 : Nat) (0 : Nat)]]), (501, Ob.box (73 : Nat) [V.ref (503 : Nat) (0 : Nat)]), (502, Ob.box (28 : Nat) [V.fn (Fn.func (50 : Nat)) [] [V.ref (504 : Nat) (0 : Nat)]]), (503, Ob.box (90 : Nat) [V.i (Cut.half c), V.i (Cut.gain c), V.i (Cut.thin c), V.i (Cut.wide c), V.i (Cut.slope c), V.i (Cut.jerk c), V.i (Cut.sty c), V.sl (2 : Nat) (List.length l) fun (k : Nat) => [V.i (Prod.fst (gp l k)), V.i (Prod.snd (gp l k))], V.i (Prod.snd (j, m)), V.i per]), (504, Ob.box (73 : Nat) [V.ref (503 : Nat) (0 : Nat)])]) [] (.cons (by kernel_rfl) (.cons (by kernel_rfl) (.cons (by kernel_rfl) (.cons (by kernel_rfl) .nil)))) (.cons ⟨Ob.box (95 : Nat) [V.fn (Fn.func (74 : Nat)) [] [V.ref (501 : Nat) (0 : Nat), V.ref (502 : Nat) (0 : Nat)]], (by kernel_rfl), .box (by kernel_rfl)⟩ (.cons ⟨Ob.box (73 : Nat) [V.ref (503 : Nat) (0 : Nat)], (by kernel_rfl), .box (by kernel_rfl)⟩ (.cons ⟨Ob.box (28 : Nat) [V.fn (Fn.func (50 : Nat)) [] [V.ref (504 : Nat) (0 : Nat)]], (by kernel_rfl), .box (by kernel_rfl)⟩ (.cons ⟨Ob.box (90 : Nat) [V.i (Cut.half c), V.i (Cut.gain c), V.i (Cut.thin c), V.i (Cut.wide c), V.i (Cut.slope c), V.i (Cut.jerk c), V.i (Cut.sty c), V.sl (2 : Nat) (List.length l) fun (k : Nat) => [V.i (Prod.fst (gp l k)), V.i (Prod.snd (gp l k))], V.i m, V.i per], (by kernel_rfl), .box (by kernel_rfl)⟩ (.cons ⟨Ob.box (73 : Nat) [V.ref (503 : Nat) (0 : Nat)], (by kernel_rfl), .box (by kernel_rfl)⟩ .nil))))) (by kernel_rfl) (by kernel_rfl)
    · have q : fitB c l per m = true := by simpa using c2
      have m2 : F ≤ m := by
        refine Int.not_lt.1 fun h => ?_
        rw [hF'.lo m (by omega) h] at q; cases q
      refine w_region (n' := 5) (by kernel_rfl) (by kernel_rfl) ?_
      refine aops_n hTT (M := []) (n := 2) [pv (24 : Nat) (V.i m), pv (6 : Nat) (V.i m)] (by kernel_rfl) (by kernel_rfl) True.intro ?_
      refine aops_nil ?_
      refine xb_n ?_
      refine xt_n ?_
      refine ⟨(i, m, m), ⟨h1, h2, m2, by show m ≤ 4194305; omega⟩, ?_, by show (m - i).toNat < (j - i).toNat; omega⟩
      refine le_ren (sl := [(500, Ob.box (95 : Nat) [V.fn (Fn.func (74 : Nat)) [] [V.ref (501 : Nat) (0 : Nat), V.ref (502 : Nat) (0 : Nat)]]), (501, Ob.box (73 : Nat) [V.ref (503 : Nat) (0 : Nat)]), (502, Ob.box (28 : Nat) [V.fn (Fn.func (50 : Nat)) [] [V.ref (504 : Nat) (0 : Nat)]]), (503, Ob.box (90 : Nat) [V.i (Cut.half c), V.i (Cut.gain c), V.i (Cut.thin c), V.i (Cut.wide c), V.i (Cut.slope c), V.i (Cut.jerk c), V.i (Cut.sty c), V.sl (2 : Nat) (List.length l) fun (k : Nat) => [V.i (Prod.fst (gp l k)), V.i (Prod.snd (gp l k))], V.i (Prod.snd (m, m)), V.i per]), (504, Ob.box (73 : Nat) [V.ref (503 : Nat) (0 : Nat)])]) [] (.cons (by kernel_rfl) (.cons (by kernel_rfl) (.cons (by kernel_rfl) (.cons (by kernel_rfl) .nil)))) (.cons ⟨Ob.box (95 : Nat) [V.fn (Fn.func (74 : Nat)) [] [V.ref (501 : Nat) (0 : Nat), V.ref (502 : Nat) (0 : Nat)]], (by kernel_rfl), .box (by kernel_rfl)⟩ (.cons ⟨Ob.box (73 : Nat) [V.ref (503 : Nat) (0 : Nat)], (by kernel_rfl), .box (by kernel_rfl)⟩ (.cons ⟨Ob.box (28 : Nat) [V.fn (Fn.func (50 : Nat)) [] [V.ref (504 : Nat) (0 : Nat)]], (by kernel_rfl), .box (by kernel_rfl)⟩ (.cons ⟨Ob.box (90 : Nat) [V.i (Cut.half c), V.i (Cut.gain c), V.i (Cut.thin c), V.i (Cut.wide c), V.i (Cut.slope c), V.i (Cut.jerk c), V.i (Cut.sty c), V.sl (2 : Nat) (List.length l) fun (k : Nat) => [V.i (Prod.fst (gp l k)), V.i (Prod.snd (gp l k))], V.i m, V.i per], (by kernel_rfl), .box (by kernel_rfl)⟩ (.cons ⟨Ob.box (73 : Nat) [V.ref (503 : Nat) (0 : Nat)], (by kernel_rfl), .box (by kernel_rfl)⟩ .nil))))) (by kernel_rfl) (by kernel_rfl)
  · have c1 : j ≤ i := by simpa using c1
    obtain rfl : i = F := by omega
    refine aw_exit ?_
    refine xt_x ?_
    refine xt_x ?_
    refine xb_same ?_
    refine xt_n ?_
    clear hK K
    refine hK _ ?_
    clear hK K
    refine aw_seq_k fun K hK => ?_
    refine w_region (n' := 3) (by kernel_rfl) (by kernel_rfl) ?_
    refine aops_n hTT (M := []) (n := 2) [pv (25 : Nat) (V.i i), pv (4 : Nat) (V.i i)] (by kernel_rfl) (by kernel_rfl) True.intro ?_
    refine aops_nil ?_
    refine xt_n ?_
    refine hK _ ?_
    clear hK K
    refine aw_ret ?_
    refine retM (v' := V.i i) [] [(4, V.i i)] (.inr rfl) (.cons (by kernel_rfl) .nil) .nil (by kernel_rfl) (by kernel_rfl) (by kernel_rfl) (by kernel_rfl) (by kernel_rfl) (by kernel_rfl) (by kernel_rfl)
set_option maxRecDepth 100000 in
theorem firstL_am (c : Cut) (l : List Pt) (r0 per F : Int) (hc : cutE c = 0) (hl : gChk l = 0) (hp : 1 ≤ per ∧ per ≤ 65536) (hF' : IsFst (fitB c l per) 4194305 F) :
    AM Try.prog 66 [.i 4194304, .fn (.func 74) [] [.ref 500 0, .ref 501 0]] [TB 502, RBL 503, TrO c l r0 per, TB 502] (.i F) [none, none, none, none] [] := by
  have hFb := hF'.b
  refine am_intro hTT hMX (fn := Try.f66) (N := _) ⟨Try.func66, rfl, Try.ntmps66, by kernel_rfl⟩ (by simp) rfl (by simp) (by simp) fun C hF => ?_
  refine aw_seq_k fun K hK => ?_
  refine w_region (n' := 2) (by kernel_rfl) (by kernel_rfl) ?_
  refine aops_n hTT (M := [3]) (n := 2) [pn (3 : Nat) (V.ref (100003 : Nat) (0 : Nat)) (100003 : Nat) (Ob.box (95 : Nat) [V.fn (Fn.func (74 : Nat)) [] [V.ref (500 : Nat) (0 : Nat), V.ref (501 : Nat) (0 : Nat)]]), pv (4 : Nat) (V.i (0 : Int))] (by kernel_rfl) (by kernel_rfl) True.intro ?_
  refine aops_nil ?_
  refine xt_n ?_
  refine hK _ ?_
  clear hK K
  refine aw_seq_k fun K hK => ?_
  refine w_region (n' := 3) (by kernel_rfl) (by kernel_rfl) ?_
  refine aops_n hTT (M := [3]) (n := 3) [pv (5 : Nat) (V.i (4194304 : Int)), pc (6 : Nat) ((-9223372036854775808 : Int) ≤ (4194304 : Int) + (1 : Int) ∧ (4194304 : Int) + (1 : Int) ≤ (9223372036854775807 : Int)) (V.i ((4194304 : Int) + (1 : Int))), pv (7 : Nat) (V.fn (Fn.func (84 : Nat)) [] [V.ref (100003 : Nat) (0 : Nat)])] (by kernel_rfl) (by kernel_rfl) ⟨(by omega), True.intro⟩ ?_
  refine aops_callM [100003, 500, 501, 502, 503] (first := []) (caps := []) (ins' := [Ob.box (95 : Nat) [V.fn (Fn.func (74 : Nat)) [] [V.ref (500 : Nat) (0 : Nat), V.ref (501 : Nat) (0 : Nat)]], Ob.box (73 : Nat) [V.ref (502 : Nat) (0 : Nat)], Ob.box (28 : Nat) [V.fn (Fn.func (50 : Nat)) [] [V.ref (503 : Nat) (0 : Nat)]], Ob.box (90 : Nat) [V.i (Cut.half c), V.i (Cut.gain c), V.i (Cut.thin c), V.i (Cut.wide c), V.i (Cut.slope c), V.i (Cut.jerk c), V.i (Cut.sty c), V.sl (2 : Nat) (List.length l) fun (k : Nat) => [V.i (Prod.fst (gp l k)), V.i (Prod.snd (gp l k))], V.i r0, V.i per], Ob.box (73 : Nat) [V.ref (502 : Nat) (0 : Nat)]]) (v' := V.i F) (δ := [(100003, Option.none), (500, Option.none), (501, Option.none), (502, Option.none), (503, Option.none)]) (kp := [100003, 500, 501, 502, 503]) (searchL_am c l r0 per F hc hl hp hF') (by kernel_rfl) (by kernel_rfl) (by kernel_rfl) (by kernel_rfl) (by kernel_rfl) (by kernel_rfl) rfl rfl (by kernel_rfl) (.box (by kernel_rfl) (by kernel_rfl) (.box (by kernel_rfl) (by kernel_rfl) (.box (by kernel_rfl) (by kernel_rfl) (.box (by kernel_rfl) (by kernel_rfl) (.box (by kernel_rfl) (by kernel_rfl) .nil))))) (by kernel_rfl) (by kernel_rfl) (by kernel_rfl) ?_
  refine aops_n hTT (M := []) (n := 1) [pv (4 : Nat) (V.i F)] (by kernel_rfl) (by kernel_rfl) True.intro ?_
  refine aops_nil ?_
  refine xt_n ?_
  refine hK _ ?_
  clear hK K
  refine aw_ret ?_
  refine retM (v' := V.i F) [] [(4, V.i F)] (.inr rfl) (.cons (by kernel_rfl) .nil) .nil (by kernel_rfl) (by kernel_rfl) (by kernel_rfl) (by kernel_rfl) (by kernel_rfl) (by kernel_rfl) (by kernel_rfl)
set_option maxRecDepth 100000 in
theorem leastIL_am (c : Cut) (l : List Pt) (r0 p0 per F : Int) (hc : cutE c = 0) (hl : gChk l = 0) (hp : 1 ≤ per ∧ per ≤ 65536) (hF' : IsFst (fitB c l per) 4194305 F) :
    AM Try.prog 49 [.ref 500 0, .i per, .fn (.func 50) [] [.ref 501 0]] [TrO c l r0 p0, TB 500] (.tup [.i (if F ≤ 4194304 then F else 0), .i (if F ≤ 4194304 then 0 else 14)]) [none, none] [] := by
  have hFb := hF'.b
  refine am_intro hTT hMX (fn := Try.f49) (N := _) ⟨Try.func49, rfl, Try.ntmps49, by kernel_rfl⟩ (by simp) rfl (by simp) (by simp) fun C hF => ?_
  refine aw_seq_k fun K hK => ?_
  refine w_region (n' := 2) (by kernel_rfl) (by kernel_rfl) ?_
  refine aops_n hTT (M := [3, 5]) (n := 4) [pn (3 : Nat) (V.ref (100003 : Nat) (0 : Nat)) (100003 : Nat) (Ob.box (73 : Nat) [V.ref (500 : Nat) (0 : Nat)]), pn (5 : Nat) (V.ref (100005 : Nat) (0 : Nat)) (100005 : Nat) (Ob.box (28 : Nat) [V.fn (Fn.func (50 : Nat)) [] [V.ref (501 : Nat) (0 : Nat)]]), pv (6 : Nat) (V.i (0 : Int)), pv (7 : Nat) (V.i (0 : Int))] (by kernel_rfl) (by kernel_rfl) True.intro ?_
  refine aops_nil ?_
  refine xt_n ?_
  refine hK _ ?_
  clear hK K
  refine aw_seq_k fun K hK => ?_
  refine w_region (n' := 3) (by kernel_rfl) (by kernel_rfl) ?_
  refine aops_n hTT (M := [3, 5]) (n := 5) [pc (9 : Nat) ((0 : Nat) ≤ (1 : Nat)) (V.ref (500 : Nat) (0 : Nat)), pv (10 : Nat) (V.i per), pv (11 : Nat) (V.ref (500 : Nat) (0 : Nat)), pv (12 : Nat) (V.ref (500 : Nat) (9 : Nat)), pw ((9 : Nat) + (1 : Nat) ≤ (10 : Nat)) (500 : Nat) (Ob.box (90 : Nat) [V.i (Cut.half c), V.i (Cut.gain c), V.i (Cut.thin c), V.i (Cut.wide c), V.i (Cut.slope c), V.i (Cut.jerk c), V.i (Cut.sty c), V.sl (2 : Nat) (List.length l) fun (k : Nat) => [V.i (Prod.fst (gp l k)), V.i (Prod.snd (gp l k))], V.i r0, V.i per])] (by kernel_rfl) (by kernel_rfl) ⟨(by omega), (by omega), True.intro⟩ ?_
  refine aops_nil ?_
  refine xt_n ?_
  refine hK _ ?_
  clear hK K
  refine aw_seq_k fun K hK => ?_
  refine w_region (n' := 4) (by kernel_rfl) (by kernel_rfl) ?_
  refine aops_n hTT (M := [3, 5]) (n := 1) [pv (13 : Nat) (V.fn (Fn.func (74 : Nat)) [] [V.ref (100003 : Nat) (0 : Nat), V.ref (100005 : Nat) (0 : Nat)])] (by kernel_rfl) (by kernel_rfl) True.intro ?_
  refine aops_callM [100003, 100005, 500, 501] (first := []) (caps := []) (ins' := [Ob.box (73 : Nat) [V.ref (500 : Nat) (0 : Nat)], Ob.box (28 : Nat) [V.fn (Fn.func (50 : Nat)) [] [V.ref (501 : Nat) (0 : Nat)]], Ob.box (90 : Nat) [V.i (Cut.half c), V.i (Cut.gain c), V.i (Cut.thin c), V.i (Cut.wide c), V.i (Cut.slope c), V.i (Cut.jerk c), V.i (Cut.sty c), V.sl (2 : Nat) (List.length l) fun (k : Nat) => [V.i (Prod.fst (gp l k)), V.i (Prod.snd (gp l k))], V.i r0, V.i per], Ob.box (73 : Nat) [V.ref (500 : Nat) (0 : Nat)]]) (v' := V.i F) (δ := [(100003, Option.none), (100005, Option.none), (500, Option.none), (501, Option.none)]) (kp := [100003, 100005, 500, 501]) (firstL_am c l r0 per F hc hl hp hF') (by kernel_rfl) (by kernel_rfl) (by kernel_rfl) (by kernel_rfl) (by kernel_rfl) (by kernel_rfl) rfl rfl (by kernel_rfl) (.box (by kernel_rfl) (by kernel_rfl) (.box (by kernel_rfl) (by kernel_rfl) (.box (by kernel_rfl) (by kernel_rfl) (.box (by kernel_rfl) (by kernel_rfl) .nil)))) (by kernel_rfl) (by kernel_rfl) (by kernel_rfl) ?_
  refine aops_n hTT (M := []) (n := 1) [pv (8 : Nat) (V.i F)] (by kernel_rfl) (by kernel_rfl) True.intro ?_
  refine aops_nil ?_
  refine xt_n ?_
  refine hK _ ?_
  clear hK K
  refine aw_seq_k fun K hK => ?_
  refine aw_seq_k fun K hK => ?_
  refine w_region (n' := 5) (by kernel_rfl) (by kernel_rfl) ?_
  refine aops_n hTT (M := []) (n := 2) [pv (15 : Nat) (V.i F), pv (16 : Nat) (V.b (decide ((4194304 : Int) < F)))] (by kernel_rfl) (by kernel_rfl) True.intro ?_
  refine aops_nil ?_
  refine xt_n ?_
  refine hK _ ?_
  clear hK K
  refine w_cond (t := decide ((4194304 : Int) < F)) (by kernel_rfl) (fun c1 => ?_) (fun c1 => ?_)
  · refine aw_seq_k fun K hK => ?_
    refine w_region (n' := 6) (by kernel_rfl) (by kernel_rfl) ?_
    refine aops_n hTT (M := []) (n := 2) [pv (6 : Nat) (V.i (0 : Int)), pv (7 : Nat) (V.i (14 : Int))] (by kernel_rfl) (by kernel_rfl) True.intro ?_
    refine aops_nil ?_
    refine xt_n ?_
    refine hK _ ?_
    clear hK K
    refine aw_ret ?_
    refine xt_r ?_
    rw [if_neg (by simp at c1; omega), if_neg (by simp at c1; omega)]
    refine retM (v' := V.tup [V.i (0 : Int), V.i (14 : Int)]) [] [(6, V.i (0 : Int)), (7, V.i (14 : Int))] (.inr rfl) (.cons (by kernel_rfl) (.cons (by kernel_rfl) .nil)) .nil (by kernel_rfl) (by kernel_rfl) (by kernel_rfl) (by kernel_rfl) (by kernel_rfl) (by kernel_rfl) (by kernel_rfl)
  · refine aw_skip ?_
    refine xt_n ?_
    refine hK _ ?_
    clear hK K
    refine aw_seq_k fun K hK => ?_
    refine w_region (n' := 6) (by kernel_rfl) (by kernel_rfl) ?_
    refine aops_n hTT (M := []) (n := 3) [pv (17 : Nat) (V.i F), pv (6 : Nat) (V.i F), pv (7 : Nat) (V.i (0 : Int))] (by kernel_rfl) (by kernel_rfl) True.intro ?_
    refine aops_nil ?_
    refine xt_n ?_
    refine hK _ ?_
    clear hK K
    refine aw_ret ?_
    rw [if_pos (by simp at c1; omega), if_pos (by simp at c1; omega)]
    refine retM (v' := V.tup [V.i F, V.i (0 : Int)]) [] [(6, V.i F), (7, V.i (0 : Int))] (.inr rfl) (.cons (by kernel_rfl) (.cons (by kernel_rfl) .nil)) .nil (by kernel_rfl) (by kernel_rfl) (by kernel_rfl) (by kernel_rfl) (by kernel_rfl) (by kernel_rfl) (by kernel_rfl)

end Go.Proofs.Ytjjlgegccfolpaa
