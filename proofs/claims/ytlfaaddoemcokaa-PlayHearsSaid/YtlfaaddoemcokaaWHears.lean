/-
  PlayHears: the walk of the law. No condition.
-/
import Derived.Test.YtlfaaddoemcokaaPAb11
import Derived.Test.YtlfaaddoemcokaaLift2
import Derived.Test.YtlfaaddoemcokaaAbs19
namespace Go.Proofs.Ytlfaaddoemcokaa
open Go.Ab Go.RowKit Go.Dw Go.Shelf

def longB (n : Nat) (m : Int) : Bool := (decide (m < (n : Int)) && decide ((n : Int) ≤ 4096)) || decide ((4106 : Int) < (n : Int))
set_option maxRecDepth 100000 in
theorem long_ac (l : List Pt) (m : Int) : AC Try.prog 32 [V.pts l, .i m] (.b (longB l.length m)) [] := by
  refine ac_intro hTT hMX (fn := Try.f32) (N := _) ⟨Try.func32, rfl, Try.ntmps32, by kernel_rfl⟩ (by simp) fun C hC hF => ?_
  refine aw_seq_k fun K hK => ?_
  refine w_region (n' := 2) (by kernel_rfl) (by kernel_rfl) ?_
  refine aops_n hTT (M := []) (n := 1) [pv (4 : Nat) (V.b false)] (by kernel_rfl) (by kernel_rfl) True.intro ?_
  refine aops_nil ?_
  refine xt_n ?_
  refine hK _ ?_
  clear hK K
  refine aw_seq_k fun K hK => ?_
  refine w_region (n' := 3) (by kernel_rfl) (by kernel_rfl) ?_
  refine aops_n hTT (M := []) (n := 15) [pv (5 : Nat) (V.sl (2 : Nat) (List.length l) fun (k : Nat) => [V.i (Prod.fst (gp l k)), V.i (Prod.snd (gp l k))]), pv (6 : Nat) (V.i (↑(List.length l) : Int)), pv (7 : Nat) (V.i m), pv (8 : Nat) (V.b (decide (m < (↑(List.length l) : Int)))), pv (9 : Nat) (V.b (decide (m < (↑(List.length l) : Int)))), pc (10 : Nat) ((True ∧ True) ∧ ((decide (m < (↑(List.length l) : Int)) == true) = true → True)) (V.gd (decide (m < (↑(List.length l) : Int)) == true) (V.sl (2 : Nat) (List.length l) fun (k : Nat) => [V.i (Prod.fst (gp l k)), V.i (Prod.snd (gp l k))])), pc (11 : Nat) ((((decide (m < (↑(List.length l) : Int)) == true) = true → (decide (m < (↑(List.length l) : Int)) == true) = true) ∧ True) ∧ ((decide (m < (↑(List.length l) : Int)) == true) = true → True)) (V.gd (decide (m < (↑(List.length l) : Int)) == true) (V.i (↑(List.length l) : Int))), pc (12 : Nat) ((((decide (m < (↑(List.length l) : Int)) == true) = true → (decide (m < (↑(List.length l) : Int)) == true) = true) ∧ True ∧ True) ∧ ((decide (m < (↑(List.length l) : Int)) == true) = true → True)) (V.gd (decide (m < (↑(List.length l) : Int)) == true) (V.b (decide ((↑(List.length l) : Int) ≤ (4096 : Int))))), pc (13 : Nat) ((decide (m < (↑(List.length l) : Int)) = true → (decide (m < (↑(List.length l) : Int)) == true) = true) ∧ True) (V.b (decide (m < (↑(List.length l) : Int)) && decide ((↑(List.length l) : Int) ≤ (4096 : Int)))), pv (14 : Nat) (V.b (decide (m < (↑(List.length l) : Int)) && decide ((↑(List.length l) : Int) ≤ (4096 : Int)))), pc (15 : Nat) ((True ∧ True) ∧ (((decide (m < (↑(List.length l) : Int)) && decide ((↑(List.length l) : Int) ≤ (4096 : Int))) == false) = true → True)) (V.gd ((decide (m < (↑(List.length l) : Int)) && decide ((↑(List.length l) : Int) ≤ (4096 : Int))) == false) (V.sl (2 : Nat) (List.length l) fun (k : Nat) => [V.i (Prod.fst (gp l k)), V.i (Prod.snd (gp l k))])), pc (16 : Nat) (((((decide (m < (↑(List.length l) : Int)) && decide ((↑(List.length l) : Int) ≤ (4096 : Int))) == false) = true → ((decide (m < (↑(List.length l) : Int)) && decide ((↑(List.length l) : Int) ≤ (4096 : Int))) == false) = true) ∧ True) ∧ (((decide (m < (↑(List.length l) : Int)) && decide ((↑(List.length l) : Int) ≤ (4096 : Int))) == false) = true → True)) (V.gd ((decide (m < (↑(List.length l) : Int)) && decide ((↑(List.length l) : Int) ≤ (4096 : Int))) == false) (V.i (↑(List.length l) : Int))), pc (17 : Nat) (((((decide (m < (↑(List.length l) : Int)) && decide ((↑(List.length l) : Int) ≤ (4096 : Int))) == false) = true → ((decide (m < (↑(List.length l) : Int)) && decide ((↑(List.length l) : Int) ≤ (4096 : Int))) == false) = true) ∧ True ∧ True) ∧ (((decide (m < (↑(List.length l) : Int)) && decide ((↑(List.length l) : Int) ≤ (4096 : Int))) == false) = true → True)) (V.gd ((decide (m < (↑(List.length l) : Int)) && decide ((↑(List.length l) : Int) ≤ (4096 : Int))) == false) (V.b (decide ((4106 : Int) < (↑(List.length l) : Int))))), pc (18 : Nat) (True ∧ ((decide (m < (↑(List.length l) : Int)) && decide ((↑(List.length l) : Int) ≤ (4096 : Int))) = false → ((decide (m < (↑(List.length l) : Int)) && decide ((↑(List.length l) : Int) ≤ (4096 : Int))) == false) = true)) (V.b (decide (m < (↑(List.length l) : Int)) && decide ((↑(List.length l) : Int) ≤ (4096 : Int)) || decide ((4106 : Int) < (↑(List.length l) : Int)))), pv (4 : Nat) (V.b (decide (m < (↑(List.length l) : Int)) && decide ((↑(List.length l) : Int) ≤ (4096 : Int)) || decide ((4106 : Int) < (↑(List.length l) : Int))))] (by kernel_rfl) (by kernel_rfl) ⟨⟨⟨True.intro, True.intro⟩, (fun _ => True.intro)⟩, ⟨⟨(by (exact fun h => h)), True.intro⟩, (fun _ => True.intro)⟩, ⟨⟨(by (exact fun h => h)), ⟨True.intro, True.intro⟩⟩, (fun _ => True.intro)⟩, ⟨(by (intro h; rw [h]; rfl)), True.intro⟩, ⟨⟨True.intro, True.intro⟩, (fun _ => True.intro)⟩, ⟨⟨(by (exact fun h => h)), True.intro⟩, (fun _ => True.intro)⟩, ⟨⟨(by (exact fun h => h)), ⟨True.intro, True.intro⟩⟩, (fun _ => True.intro)⟩, ⟨True.intro, (by (intro h; rw [h]; rfl))⟩, True.intro⟩ ?_
  refine aops_nil ?_
  refine xt_n ?_
  refine hK _ ?_
  clear hK K
  refine aw_ret ?_
  refine ret_pure (v' := V.b (decide (m < (↑(List.length l) : Int)) && decide ((↑(List.length l) : Int) ≤ (4096 : Int)) || decide ((4106 : Int) < (↑(List.length l) : Int)))) (.inr rfl) (by kernel_rfl) (by kernel_rfl) (by kernel_rfl)
theorem hearNn_le (s t : List Int) (l : List Pt) (wow : Int) : hearNn s t l wow ≤ l.length := by unfold hearNn; split <;> omega
set_option maxRecDepth 100000 in
theorem hears_ac (s t : List Int) (l : List Pt) (wow off r per : Int) (hs' : s.length ≤ 4611686018427387904) (ht : t.length ≤ 4611686018427387904) (hl : l.length ≤ 4611686018427387904) :
    AC Try.prog 14 [.agg [V.ints s], .agg [V.ints t], V.pts l, .i wow, .i off, .i r, .i per] (.b true) [] := by
  refine ac_intro hTT hMX (fn := Try.f14) (N := _) ⟨Try.func14, rfl, Try.ntmps14, by kernel_rfl⟩ (by simp) fun C hC hF => ?_
  refine aw_seq_k fun K hK => ?_
  refine w_region (n' := 2) (by kernel_rfl) (by kernel_rfl) ?_
  refine aops_n hTT (M := []) (n := 3) [pv (7 : Nat) (V.ptr [V.sl (1 : Nat) (List.length s) fun (k : Nat) => [V.i (gi s k)]]), pv (8 : Nat) (V.ptr [V.sl (1 : Nat) (List.length t) fun (k : Nat) => [V.i (gi t k)]]), pv (14 : Nat) (V.b false)] (by kernel_rfl) (by kernel_rfl) True.intro ?_
  refine aops_nil ?_
  refine xt_n ?_
  refine hK _ ?_
  clear hK K
  refine aw_seq_k fun K hK => ?_
  refine aw_seq_k fun K hK => ?_
  refine w_region (n' := 3) (by kernel_rfl) (by kernel_rfl) ?_
  refine aops_n hTT (M := []) (n := 12) [pv (24 : Nat) (V.ptr [V.sl (1 : Nat) (List.length s) fun (k : Nat) => [V.i (gi s k)]]), pv (25 : Nat) (V.sl (1 : Nat) (List.length s) fun (k : Nat) => [V.i (gi s k)]), pv (26 : Nat) (V.i (↑(List.length s) : Int)), pv (27 : Nat) (V.b (decide ((80 : Int) < (↑(List.length s) : Int)))), pv (28 : Nat) (V.b (decide ((80 : Int) < (↑(List.length s) : Int)))), pc (29 : Nat) ((True ∧ True) ∧ ((decide ((80 : Int) < (↑(List.length s) : Int)) == false) = true → True)) (V.gd (decide ((80 : Int) < (↑(List.length s) : Int)) == false) (V.ptr [V.sl (1 : Nat) (List.length t) fun (k : Nat) => [V.i (gi t k)]])), pc (30 : Nat) ((((decide ((80 : Int) < (↑(List.length s) : Int)) == false) = true → (decide ((80 : Int) < (↑(List.length s) : Int)) == false) = true) ∧ True) ∧ ((decide ((80 : Int) < (↑(List.length s) : Int)) == false) = true → True)) (V.gd (decide ((80 : Int) < (↑(List.length s) : Int)) == false) (V.sl (1 : Nat) (List.length t) fun (k : Nat) => [V.i (gi t k)])), pc (31 : Nat) ((((decide ((80 : Int) < (↑(List.length s) : Int)) == false) = true → (decide ((80 : Int) < (↑(List.length s) : Int)) == false) = true) ∧ True) ∧ ((decide ((80 : Int) < (↑(List.length s) : Int)) == false) = true → True)) (V.gd (decide ((80 : Int) < (↑(List.length s) : Int)) == false) (V.i (↑(List.length t) : Int))), pc (32 : Nat) ((((decide ((80 : Int) < (↑(List.length s) : Int)) == false) = true → (decide ((80 : Int) < (↑(List.length s) : Int)) == false) = true) ∧ True ∧ True) ∧ ((decide ((80 : Int) < (↑(List.length s) : Int)) == false) = true → True)) (V.gd (decide ((80 : Int) < (↑(List.length s) : Int)) == false) (V.b (decide ((80 : Int) < (↑(List.length t) : Int))))), pc (33 : Nat) (True ∧ (decide ((80 : Int) < (↑(List.length s) : Int)) = false → (decide ((80 : Int) < (↑(List.length s) : Int)) == false) = true)) (V.b (decide ((80 : Int) < (↑(List.length s) : Int)) || decide ((80 : Int) < (↑(List.length t) : Int)))), pv (34 : Nat) (V.b (decide ((80 : Int) < (↑(List.length s) : Int)) || decide ((80 : Int) < (↑(List.length t) : Int)))), pc (35 : Nat) ((True ∧ True) ∧ (((decide ((80 : Int) < (↑(List.length s) : Int)) || decide ((80 : Int) < (↑(List.length t) : Int))) == false) = true → True)) (V.gd ((decide ((80 : Int) < (↑(List.length s) : Int)) || decide ((80 : Int) < (↑(List.length t) : Int))) == false) (V.sl (2 : Nat) (List.length l) fun (k : Nat) => [V.i (Prod.fst (gp l k)), V.i (Prod.snd (gp l k))]))] (by kernel_rfl) (by kernel_rfl) ⟨⟨⟨True.intro, True.intro⟩, (fun _ => True.intro)⟩, ⟨⟨(by (exact fun h => h)), True.intro⟩, (fun _ => True.intro)⟩, ⟨⟨(by (exact fun h => h)), True.intro⟩, (fun _ => True.intro)⟩, ⟨⟨(by (exact fun h => h)), ⟨True.intro, True.intro⟩⟩, (fun _ => True.intro)⟩, ⟨True.intro, (by (intro h; rw [h]; rfl))⟩, ⟨⟨True.intro, True.intro⟩, (fun _ => True.intro)⟩, True.intro⟩ ?_
  refine e_callG 1 (g := (decide ((80 : Int) < (↑(List.length s) : Int)) || decide ((80 : Int) < (↑(List.length t) : Int))) == false) (first := []) (caps := []) (by kernel_rfl) (fun _ => long_ac l 60) (by kernel_rfl) (by kernel_rfl) (by kernel_rfl) (by kernel_rfl) (by kernel_rfl) (by kernel_rfl) ?_
  refine aops_n hTT (M := []) (n := 1) [pc (37 : Nat) (True ∧ ((decide ((80 : Int) < (↑(List.length s) : Int)) || decide ((80 : Int) < (↑(List.length t) : Int))) = false → ((decide ((80 : Int) < (↑(List.length s) : Int)) || decide ((80 : Int) < (↑(List.length t) : Int))) == false) = true)) (V.b (decide ((80 : Int) < (↑(List.length s) : Int)) || decide ((80 : Int) < (↑(List.length t) : Int)) || longB (List.length l) (60 : Int)))] (by kernel_rfl) (by kernel_rfl) ⟨⟨True.intro, (by (intro h; rw [h]; rfl))⟩, True.intro⟩ ?_
  refine aops_nil ?_
  refine xt_n ?_
  refine hK _ ?_
  clear hK K
  refine w_cond (t := decide ((80 : Int) < (↑(List.length s) : Int)) || decide ((80 : Int) < (↑(List.length t) : Int)) || longB (List.length l) (60 : Int)) (by kernel_rfl) (fun h => ?_) (fun h => ?_)
  · refine aw_seq_k fun K hK => ?_
    refine w_region (n' := 4) (by kernel_rfl) (by kernel_rfl) ?_
    refine e_call (first := []) (caps := []) (works_ac) (by kernel_rfl) (by kernel_rfl) (by kernel_rfl) (by kernel_rfl) (by kernel_rfl) ?_
    refine aops_n hTT (M := []) (n := 1) [pv (14 : Nat) (V.b true)] (by kernel_rfl) (by kernel_rfl) True.intro ?_
    refine aops_nil ?_
    refine xt_n ?_
    refine hK _ ?_
    clear hK K
    refine aw_ret ?_
    refine xt_r ?_
    refine ret_pure (v' := V.b true) (.inr rfl) (by kernel_rfl) (by kernel_rfl) (by kernel_rfl)
  refine aw_skip ?_
  refine xt_n ?_
  refine hK _ ?_
  clear hK K
  refine aw_seq_k fun K hK => ?_
  refine w_region (n' := 4) (by kernel_rfl) (by kernel_rfl) ?_
  refine aops_n hTT (M := []) (n := 3) [pv (40 : Nat) (V.i off), pv (41 : Nat) (V.i r), pv (42 : Nat) (V.i per)] (by kernel_rfl) (by kernel_rfl) True.intro ?_
  refine e_call (first := []) (caps := []) (wow_ac off r per) (by kernel_rfl) (by kernel_rfl) (by kernel_rfl) (by kernel_rfl) (by kernel_rfl) ?_
  refine aops_n hTT (M := []) (n := 5) [pv (39 : Nat) (V.tup [V.i (Prod.fst (wowI off r per)), V.i (Prod.snd (wowI off r per))]), pv (44 : Nat) (V.i (Prod.fst (wowI off r per))), pv (45 : Nat) (V.i (Prod.snd (wowI off r per))), pv (15 : Nat) (V.i (Prod.fst (wowI off r per))), pv (16 : Nat) (V.i (Prod.snd (wowI off r per)))] (by kernel_rfl) (by kernel_rfl) True.intro ?_
  refine aops_nil ?_
  refine xt_n ?_
  refine hK _ ?_
  clear hK K
  refine aw_seq_k fun K hK => ?_
  refine w_region (n' := 5) (by kernel_rfl) (by kernel_rfl) ?_
  refine aops_n hTT (M := []) (n := 3) [pv (47 : Nat) (V.i off), pv (48 : Nat) (V.i r), pv (49 : Nat) (V.i per)] (by kernel_rfl) (by kernel_rfl) True.intro ?_
  refine e_call (first := []) (caps := []) (refwow_ac off r per) (by kernel_rfl) (by kernel_rfl) (by kernel_rfl) (by kernel_rfl) (by kernel_rfl) ?_
  refine aops_n hTT (M := []) (n := 5) [pv (46 : Nat) (V.tup [V.i (Prod.fst (wowI off r per)), V.i (Prod.snd (wowI off r per))]), pv (51 : Nat) (V.i (Prod.fst (wowI off r per))), pv (52 : Nat) (V.i (Prod.snd (wowI off r per))), pv (17 : Nat) (V.i (Prod.fst (wowI off r per))), pv (18 : Nat) (V.i (Prod.snd (wowI off r per)))] (by kernel_rfl) (by kernel_rfl) True.intro ?_
  refine aops_nil ?_
  refine xt_n ?_
  refine hK _ ?_
  clear hK K
  refine aw_seq_k fun K hK => ?_
  refine w_region (n' := 6) (by kernel_rfl) (by kernel_rfl) ?_
  refine aops_n hTT (M := []) (n := 4) [pv (54 : Nat) (V.agg [V.sl (1 : Nat) (List.length s) fun (k : Nat) => [V.i (gi s k)]]), pv (55 : Nat) (V.agg [V.sl (1 : Nat) (List.length t) fun (k : Nat) => [V.i (gi t k)]]), pv (56 : Nat) (V.sl (2 : Nat) (List.length l) fun (k : Nat) => [V.i (Prod.fst (gp l k)), V.i (Prod.snd (gp l k))]), pv (57 : Nat) (V.i wow)] (by kernel_rfl) (by kernel_rfl) True.intro ?_
  refine e_call (first := []) (caps := []) (Hear_ac s t l wow hs' ht hl) (by kernel_rfl) (by kernel_rfl) (by kernel_rfl) (by kernel_rfl) (by kernel_rfl) ?_
  refine aops_n hTT (M := []) (n := 5) [pv (53 : Nat) (V.tup [V.sl (4 : Nat) (hearNn s t l wow) fun (k : Nat) => vhd (hearAt (readP s l) (readP t l) (List.length l) (Int.toNat wow + (1 : Nat)) k), V.i (hearE s t l wow)]), pv (59 : Nat) (V.sl (4 : Nat) (hearNn s t l wow) fun (k : Nat) => vhd (hearAt (readP s l) (readP t l) (List.length l) (Int.toNat wow + (1 : Nat)) k)), pv (60 : Nat) (V.i (hearE s t l wow)), pv (19 : Nat) (V.sl (4 : Nat) (hearNn s t l wow) fun (k : Nat) => vhd (hearAt (readP s l) (readP t l) (List.length l) (Int.toNat wow + (1 : Nat)) k)), pv (20 : Nat) (V.i (hearE s t l wow))] (by kernel_rfl) (by kernel_rfl) True.intro ?_
  refine aops_nil ?_
  refine xt_n ?_
  refine hK _ ?_
  clear hK K
  refine aw_seq_k fun K hK => ?_
  refine w_region (n' := 7) (by kernel_rfl) (by kernel_rfl) ?_
  refine aops_n hTT (M := []) (n := 4) [pv (62 : Nat) (V.agg [V.sl (1 : Nat) (List.length s) fun (k : Nat) => [V.i (gi s k)]]), pv (63 : Nat) (V.agg [V.sl (1 : Nat) (List.length t) fun (k : Nat) => [V.i (gi t k)]]), pv (64 : Nat) (V.sl (2 : Nat) (List.length l) fun (k : Nat) => [V.i (Prod.fst (gp l k)), V.i (Prod.snd (gp l k))]), pv (65 : Nat) (V.i wow)] (by kernel_rfl) (by kernel_rfl) True.intro ?_
  refine e_call (first := []) (caps := []) (refHear_ac s t l wow hs' ht hl) (by kernel_rfl) (by kernel_rfl) (by kernel_rfl) (by kernel_rfl) (by kernel_rfl) ?_
  refine aops_n hTT (M := []) (n := 5) [pv (61 : Nat) (V.tup [V.sl (4 : Nat) (hearNn s t l wow) fun (k : Nat) => vhd (hearAt (readP s l) (readP t l) (List.length l) (Int.toNat wow + (1 : Nat)) k), V.i (hearE s t l wow)]), pv (67 : Nat) (V.sl (4 : Nat) (hearNn s t l wow) fun (k : Nat) => vhd (hearAt (readP s l) (readP t l) (List.length l) (Int.toNat wow + (1 : Nat)) k)), pv (68 : Nat) (V.i (hearE s t l wow)), pv (21 : Nat) (V.sl (4 : Nat) (hearNn s t l wow) fun (k : Nat) => vhd (hearAt (readP s l) (readP t l) (List.length l) (Int.toNat wow + (1 : Nat)) k)), pv (22 : Nat) (V.i (hearE s t l wow))] (by kernel_rfl) (by kernel_rfl) True.intro ?_
  refine aops_nil ?_
  refine xt_n ?_
  refine hK _ ?_
  clear hK K
  refine aw_seq_k fun K hK => ?_
  refine aw_seq_k fun K hK => ?_
  refine w_region (n' := 8) (by kernel_rfl) (by kernel_rfl) ?_
  refine aops_n hTT (M := []) (n := 20) [pv (69 : Nat) (V.i (Prod.fst (wowI off r per))), pv (70 : Nat) (V.i (Prod.fst (wowI off r per))), pv (71 : Nat) (V.b !decide (Prod.fst (wowI off r per) = Prod.fst (wowI off r per))), pv (72 : Nat) (V.b !decide (Prod.fst (wowI off r per) = Prod.fst (wowI off r per))), pc (73 : Nat) ((True ∧ True) ∧ (((!decide (Prod.fst (wowI off r per) = Prod.fst (wowI off r per))) == false) = true → True)) (V.gd ((!decide (Prod.fst (wowI off r per) = Prod.fst (wowI off r per))) == false) (V.i (Prod.snd (wowI off r per)))), pc (74 : Nat) ((True ∧ True) ∧ (((!decide (Prod.fst (wowI off r per) = Prod.fst (wowI off r per))) == false) = true → True)) (V.gd ((!decide (Prod.fst (wowI off r per) = Prod.fst (wowI off r per))) == false) (V.i (Prod.snd (wowI off r per)))), pc (75 : Nat) (((((!decide (Prod.fst (wowI off r per) = Prod.fst (wowI off r per))) == false) = true → ((!decide (Prod.fst (wowI off r per) = Prod.fst (wowI off r per))) == false) = true) ∧ (((!decide (Prod.fst (wowI off r per) = Prod.fst (wowI off r per))) == false) = true → ((!decide (Prod.fst (wowI off r per) = Prod.fst (wowI off r per))) == false) = true) ∧ True) ∧ (((!decide (Prod.fst (wowI off r per) = Prod.fst (wowI off r per))) == false) = true → True)) (V.gd ((!decide (Prod.fst (wowI off r per) = Prod.fst (wowI off r per))) == false) (V.b !decide (Prod.snd (wowI off r per) = Prod.snd (wowI off r per)))), pc (76 : Nat) (True ∧ ((!decide (Prod.fst (wowI off r per) = Prod.fst (wowI off r per))) = false → ((!decide (Prod.fst (wowI off r per) = Prod.fst (wowI off r per))) == false) = true)) (V.b (!decide (Prod.fst (wowI off r per) = Prod.fst (wowI off r per)) || !decide (Prod.snd (wowI off r per) = Prod.snd (wowI off r per)))), pv (77 : Nat) (V.b (!decide (Prod.fst (wowI off r per) = Prod.fst (wowI off r per)) || !decide (Prod.snd (wowI off r per) = Prod.snd (wowI off r per)))), pc (78 : Nat) ((True ∧ True) ∧ (((!decide (Prod.fst (wowI off r per) = Prod.fst (wowI off r per)) || !decide (Prod.snd (wowI off r per) = Prod.snd (wowI off r per))) == false) = true → True)) (V.gd ((!decide (Prod.fst (wowI off r per) = Prod.fst (wowI off r per)) || !decide (Prod.snd (wowI off r per) = Prod.snd (wowI off r per))) == false) (V.i (hearE s t l wow))), pc (79 : Nat) ((True ∧ True) ∧ (((!decide (Prod.fst (wowI off r per) = Prod.fst (wowI off r per)) || !decide (Prod.snd (wowI off r per) = Prod.snd (wowI off r per))) == false) = true → True)) (V.gd ((!decide (Prod.fst (wowI off r per) = Prod.fst (wowI off r per)) || !decide (Prod.snd (wowI off r per) = Prod.snd (wowI off r per))) == false) (V.i (hearE s t l wow))), pc (80 : Nat) (((((!decide (Prod.fst (wowI off r per) = Prod.fst (wowI off r per)) || !decide (Prod.snd (wowI off r per) = Prod.snd (wowI off r per))) == false) = true → ((!decide (Prod.fst (wowI off r per) = Prod.fst (wowI off r per)) || !decide (Prod.snd (wowI off r per) = Prod.snd (wowI off r per))) == false) = true) ∧ (((!decide (Prod.fst (wowI off r per) = Prod.fst (wowI off r per)) || !decide (Prod.snd (wowI off r per) = Prod.snd (wowI off r per))) == false) = true → ((!decide (Prod.fst (wowI off r per) = Prod.fst (wowI off r per)) || !decide (Prod.snd (wowI off r per) = Prod.snd (wowI off r per))) == false) = true) ∧ True) ∧ (((!decide (Prod.fst (wowI off r per) = Prod.fst (wowI off r per)) || !decide (Prod.snd (wowI off r per) = Prod.snd (wowI off r per))) == false) = true → True)) (V.gd ((!decide (Prod.fst (wowI off r per) = Prod.fst (wowI off r per)) || !decide (Prod.snd (wowI off r per) = Prod.snd (wowI off r per))) == false) (V.b !decide (hearE s t l wow = hearE s t l wow))), pc (81 : Nat) (True ∧ ((!decide (Prod.fst (wowI off r per) = Prod.fst (wowI off r per)) || !decide (Prod.snd (wowI off r per) = Prod.snd (wowI off r per))) = false → ((!decide (Prod.fst (wowI off r per) = Prod.fst (wowI off r per)) || !decide (Prod.snd (wowI off r per) = Prod.snd (wowI off r per))) == false) = true)) (V.b (!decide (Prod.fst (wowI off r per) = Prod.fst (wowI off r per)) || !decide (Prod.snd (wowI off r per) = Prod.snd (wowI off r per)) || !decide (hearE s t l wow = hearE s t l wow))), pv (82 : Nat) (V.b (!decide (Prod.fst (wowI off r per) = Prod.fst (wowI off r per)) || !decide (Prod.snd (wowI off r per) = Prod.snd (wowI off r per)) || !decide (hearE s t l wow = hearE s t l wow))), pc (83 : Nat) ((True ∧ True) ∧ (((!decide (Prod.fst (wowI off r per) = Prod.fst (wowI off r per)) || !decide (Prod.snd (wowI off r per) = Prod.snd (wowI off r per)) || !decide (hearE s t l wow = hearE s t l wow)) == false) = true → True)) (V.gd ((!decide (Prod.fst (wowI off r per) = Prod.fst (wowI off r per)) || !decide (Prod.snd (wowI off r per) = Prod.snd (wowI off r per)) || !decide (hearE s t l wow = hearE s t l wow)) == false) (V.sl (4 : Nat) (hearNn s t l wow) fun (k : Nat) => vhd (hearAt (readP s l) (readP t l) (List.length l) (Int.toNat wow + (1 : Nat)) k))), pc (84 : Nat) (((((!decide (Prod.fst (wowI off r per) = Prod.fst (wowI off r per)) || !decide (Prod.snd (wowI off r per) = Prod.snd (wowI off r per)) || !decide (hearE s t l wow = hearE s t l wow)) == false) = true → ((!decide (Prod.fst (wowI off r per) = Prod.fst (wowI off r per)) || !decide (Prod.snd (wowI off r per) = Prod.snd (wowI off r per)) || !decide (hearE s t l wow = hearE s t l wow)) == false) = true) ∧ True) ∧ (((!decide (Prod.fst (wowI off r per) = Prod.fst (wowI off r per)) || !decide (Prod.snd (wowI off r per) = Prod.snd (wowI off r per)) || !decide (hearE s t l wow = hearE s t l wow)) == false) = true → True)) (V.gd ((!decide (Prod.fst (wowI off r per) = Prod.fst (wowI off r per)) || !decide (Prod.snd (wowI off r per) = Prod.snd (wowI off r per)) || !decide (hearE s t l wow = hearE s t l wow)) == false) (V.i (↑(hearNn s t l wow) : Int))), pc (85 : Nat) ((True ∧ True) ∧ (((!decide (Prod.fst (wowI off r per) = Prod.fst (wowI off r per)) || !decide (Prod.snd (wowI off r per) = Prod.snd (wowI off r per)) || !decide (hearE s t l wow = hearE s t l wow)) == false) = true → True)) (V.gd ((!decide (Prod.fst (wowI off r per) = Prod.fst (wowI off r per)) || !decide (Prod.snd (wowI off r per) = Prod.snd (wowI off r per)) || !decide (hearE s t l wow = hearE s t l wow)) == false) (V.sl (4 : Nat) (hearNn s t l wow) fun (k : Nat) => vhd (hearAt (readP s l) (readP t l) (List.length l) (Int.toNat wow + (1 : Nat)) k))), pc (86 : Nat) (((((!decide (Prod.fst (wowI off r per) = Prod.fst (wowI off r per)) || !decide (Prod.snd (wowI off r per) = Prod.snd (wowI off r per)) || !decide (hearE s t l wow = hearE s t l wow)) == false) = true → ((!decide (Prod.fst (wowI off r per) = Prod.fst (wowI off r per)) || !decide (Prod.snd (wowI off r per) = Prod.snd (wowI off r per)) || !decide (hearE s t l wow = hearE s t l wow)) == false) = true) ∧ True) ∧ (((!decide (Prod.fst (wowI off r per) = Prod.fst (wowI off r per)) || !decide (Prod.snd (wowI off r per) = Prod.snd (wowI off r per)) || !decide (hearE s t l wow = hearE s t l wow)) == false) = true → True)) (V.gd ((!decide (Prod.fst (wowI off r per) = Prod.fst (wowI off r per)) || !decide (Prod.snd (wowI off r per) = Prod.snd (wowI off r per)) || !decide (hearE s t l wow = hearE s t l wow)) == false) (V.i (↑(hearNn s t l wow) : Int))), pc (87 : Nat) (((((!decide (Prod.fst (wowI off r per) = Prod.fst (wowI off r per)) || !decide (Prod.snd (wowI off r per) = Prod.snd (wowI off r per)) || !decide (hearE s t l wow = hearE s t l wow)) == false) = true → ((!decide (Prod.fst (wowI off r per) = Prod.fst (wowI off r per)) || !decide (Prod.snd (wowI off r per) = Prod.snd (wowI off r per)) || !decide (hearE s t l wow = hearE s t l wow)) == false) = true) ∧ (((!decide (Prod.fst (wowI off r per) = Prod.fst (wowI off r per)) || !decide (Prod.snd (wowI off r per) = Prod.snd (wowI off r per)) || !decide (hearE s t l wow = hearE s t l wow)) == false) = true → ((!decide (Prod.fst (wowI off r per) = Prod.fst (wowI off r per)) || !decide (Prod.snd (wowI off r per) = Prod.snd (wowI off r per)) || !decide (hearE s t l wow = hearE s t l wow)) == false) = true) ∧ True) ∧ (((!decide (Prod.fst (wowI off r per) = Prod.fst (wowI off r per)) || !decide (Prod.snd (wowI off r per) = Prod.snd (wowI off r per)) || !decide (hearE s t l wow = hearE s t l wow)) == false) = true → True)) (V.gd ((!decide (Prod.fst (wowI off r per) = Prod.fst (wowI off r per)) || !decide (Prod.snd (wowI off r per) = Prod.snd (wowI off r per)) || !decide (hearE s t l wow = hearE s t l wow)) == false) (V.b !decide ((↑(hearNn s t l wow) : Int) = (↑(hearNn s t l wow) : Int)))), pc (88 : Nat) (True ∧ ((!decide (Prod.fst (wowI off r per) = Prod.fst (wowI off r per)) || !decide (Prod.snd (wowI off r per) = Prod.snd (wowI off r per)) || !decide (hearE s t l wow = hearE s t l wow)) = false → ((!decide (Prod.fst (wowI off r per) = Prod.fst (wowI off r per)) || !decide (Prod.snd (wowI off r per) = Prod.snd (wowI off r per)) || !decide (hearE s t l wow = hearE s t l wow)) == false) = true)) (V.b (!decide (Prod.fst (wowI off r per) = Prod.fst (wowI off r per)) || !decide (Prod.snd (wowI off r per) = Prod.snd (wowI off r per)) || !decide (hearE s t l wow = hearE s t l wow) || !decide ((↑(hearNn s t l wow) : Int) = (↑(hearNn s t l wow) : Int))))] (by kernel_rfl) (by kernel_rfl) ⟨⟨⟨True.intro, True.intro⟩, (fun _ => True.intro)⟩, ⟨⟨True.intro, True.intro⟩, (fun _ => True.intro)⟩, ⟨⟨(by (exact fun h => h)), ⟨(by (exact fun h => h)), True.intro⟩⟩, (fun _ => True.intro)⟩, ⟨True.intro, (by (intro h; rw [h]; rfl))⟩, ⟨⟨True.intro, True.intro⟩, (fun _ => True.intro)⟩, ⟨⟨True.intro, True.intro⟩, (fun _ => True.intro)⟩, ⟨⟨(by (exact fun h => h)), ⟨(by (exact fun h => h)), True.intro⟩⟩, (fun _ => True.intro)⟩, ⟨True.intro, (by (intro h; rw [h]; rfl))⟩, ⟨⟨True.intro, True.intro⟩, (fun _ => True.intro)⟩, ⟨⟨(by (exact fun h => h)), True.intro⟩, (fun _ => True.intro)⟩, ⟨⟨True.intro, True.intro⟩, (fun _ => True.intro)⟩, ⟨⟨(by (exact fun h => h)), True.intro⟩, (fun _ => True.intro)⟩, ⟨⟨(by (exact fun h => h)), ⟨(by (exact fun h => h)), True.intro⟩⟩, (fun _ => True.intro)⟩, ⟨True.intro, (by (intro h; rw [h]; rfl))⟩, True.intro⟩ ?_
  refine aops_nil ?_
  refine xt_n ?_
  refine hK _ ?_
  clear hK K
  refine w_cond (t := !decide (Prod.fst (wowI off r per) = Prod.fst (wowI off r per)) || !decide (Prod.snd (wowI off r per) = Prod.snd (wowI off r per)) || !decide (hearE s t l wow = hearE s t l wow) || !decide ((↑(hearNn s t l wow) : Int) = (↑(hearNn s t l wow) : Int))) (by kernel_rfl) (fun h2 => ?_) (fun h2 => ?_)
  · simp at h2
  have hn := hearNn_le s t l wow
  refine aw_skip ?_
  refine xt_n ?_
  refine hK _ ?_
  clear hK K
  refine aw_seq_k fun K hK => ?_
  refine aw_seq_k fun K hK => ?_
  refine w_region (n' := 9) (by kernel_rfl) (by kernel_rfl) ?_
  refine aops_n hTT (M := []) (n := 1) [pv (23 : Nat) (V.i (0 : Int))] (by kernel_rfl) (by kernel_rfl) True.intro ?_
  refine aops_nil ?_
  refine xt_n ?_
  refine hK _ ?_
  clear hK K
  refine aw_block ?_
  obtain ⟨n, hn'⟩ : ∃ n, hearNn s t l wow = n := ⟨_, rfl⟩
  obtain ⟨f, hf⟩ : ∃ f : Nat → Hd, f = fun k => hearAt (readP s l) (readP t l) l.length (wow.toNat + 1) k := ⟨_, rfl⟩
  refine w_loop (fun k : Nat => [(19, .sl 4 n fun k => vhd (f k)), (21, .sl 4 n fun k => vhd (f k)), (23, .i k)]) (fun _ => []) (fun k => k ≤ n) (fun k => n - k) 0 (Nat.zero_le _) ?_ ?_
  · rw [hn'] at hn ⊢
    subst hf
    refine le_ren [] (.cons (by kernel_rfl) (.cons (by kernel_rfl) (.cons (by kernel_rfl) .nil))) .nil (by kernel_rfl) (by kernel_rfl)
  intro k hk
  refine aw_seq_k fun K hK => ?_
  refine aw_seq_k fun K hK => ?_
  refine w_region (n' := 2) (by kernel_rfl) (by kernel_rfl) ?_
  refine aops_n hTT (M := []) (n := 4) [pv (89 : Nat) (V.i (↑k : Int)), pv (90 : Nat) (V.sl (4 : Nat) n fun (k : Nat) => vhd (f k)), pv (91 : Nat) (V.i (↑n : Int)), pv (92 : Nat) (V.b (decide ((↑k : Int) < (↑n : Int))))] (by kernel_rfl) (by kernel_rfl) True.intro ?_
  refine aops_nil ?_
  refine xt_n ?_
  refine hK _ ?_
  clear hK K
  refine w_cond (t := decide ((↑k : Int) < (↑n : Int))) (by kernel_rfl) (fun hk2 => ?_) (fun hk2 => ?_)
  · simp at hk2
    refine aw_skip ?_
    refine xt_n ?_
    refine hK _ ?_
    clear hK K
    refine aw_seq_k fun K hK => ?_
    refine aw_block ?_
    refine aw_seq_k fun K hK => ?_
    refine w_regionD (n' := 3) (by kernel_rfl) (by kernel_rfl) ?_
    refine aops_n hTT (M := []) (n := 9) [pv (95 : Nat) (V.sl (4 : Nat) n fun (k : Nat) => vhd (f k)), pv (96 : Nat) (V.i (↑k : Int)), pc (97 : Nat) ((0 : Int) ≤ (↑k : Int) ∧ (↑k : Int) < (↑n : Int)) (V.ptr [V.i (Prod.fst (f k)), V.i (Prod.fst (Prod.snd (f k))), V.i (Prod.fst (Prod.snd (Prod.snd (f k)))), V.i (Prod.snd (Prod.snd (Prod.snd (f k))))]), pv (98 : Nat) (V.agg [V.i (Prod.fst (f k)), V.i (Prod.fst (Prod.snd (f k))), V.i (Prod.fst (Prod.snd (Prod.snd (f k)))), V.i (Prod.snd (Prod.snd (Prod.snd (f k))))]), pv (99 : Nat) (V.sl (4 : Nat) n fun (k : Nat) => vhd (f k)), pv (100 : Nat) (V.i (↑k : Int)), pc (101 : Nat) ((0 : Int) ≤ (↑k : Int) ∧ (↑k : Int) < (↑n : Int)) (V.ptr [V.i (Prod.fst (f k)), V.i (Prod.fst (Prod.snd (f k))), V.i (Prod.fst (Prod.snd (Prod.snd (f k)))), V.i (Prod.snd (Prod.snd (Prod.snd (f k))))]), pv (102 : Nat) (V.agg [V.i (Prod.fst (f k)), V.i (Prod.fst (Prod.snd (f k))), V.i (Prod.fst (Prod.snd (Prod.snd (f k)))), V.i (Prod.snd (Prod.snd (Prod.snd (f k))))]), pv (103 : Nat) (V.b !(decide (Prod.fst (f k) = Prod.fst (f k)) && (decide (Prod.fst (Prod.snd (f k)) = Prod.fst (Prod.snd (f k))) && (decide (Prod.fst (Prod.snd (Prod.snd (f k))) = Prod.fst (Prod.snd (Prod.snd (f k)))) && (decide (Prod.snd (Prod.snd (Prod.snd (f k))) = Prod.snd (Prod.snd (Prod.snd (f k)))) && true)))))] (by kernel_rfl) (by kernel_rfl) ⟨(by omega), (by omega), True.intro⟩ ?_
    refine aops_nil ⟨by kernel_rfl, ?_⟩
    refine xt_n ?_
    refine hK _ ?_
    clear hK K
    refine w_cond (t := !(decide (Prod.fst (f k) = Prod.fst (f k)) && (decide (Prod.fst (Prod.snd (f k)) = Prod.fst (Prod.snd (f k))) && (decide (Prod.fst (Prod.snd (Prod.snd (f k))) = Prod.fst (Prod.snd (Prod.snd (f k)))) && (decide (Prod.snd (Prod.snd (Prod.snd (f k))) = Prod.snd (Prod.snd (Prod.snd (f k)))) && true))))) (by kernel_rfl) (fun h3 => ?_) (fun h3 => ?_)
    · simp at h3
    refine aw_skip ?_
    refine xb_n ?_
    refine xt_n ?_
    refine hK _ ?_
    clear hK K
    refine w_region (n' := 4) (by kernel_rfl) (by kernel_rfl) ?_
    refine aops_n hTT (M := []) (n := 3) [pv (93 : Nat) (V.i (↑k : Int)), pc (94 : Nat) ((-9223372036854775808 : Int) ≤ (↑k : Int) + (1 : Int) ∧ (↑k : Int) + (1 : Int) ≤ (9223372036854775807 : Int)) (V.i ((↑k : Int) + (1 : Int))), pv (23 : Nat) (V.i ((↑k : Int) + (1 : Int)))] (by kernel_rfl) (by kernel_rfl) ⟨(by omega), True.intro⟩ ?_
    refine aops_nil ?_
    refine xt_n ?_
    refine ⟨k + 1, by omega, ?_, by omega⟩
    refine le_ren [] (.cons (by kernel_rfl) (.cons (by kernel_rfl) (.cons (by kernel_rfl) .nil))) .nil (by kernel_rfl) (by kernel_rfl)
  refine aw_exit ?_
  refine xt_x ?_
  refine xt_x ?_
  refine xb_same ?_
  refine xt_n ?_
  clear hK K
  refine hK _ ?_
  clear hK K
  refine aw_seq_k fun K hK => ?_
  refine w_region (n' := 3) (by kernel_rfl) (by kernel_rfl) ?_
  refine e_call (first := []) (caps := []) (works_ac) (by kernel_rfl) (by kernel_rfl) (by kernel_rfl) (by kernel_rfl) (by kernel_rfl) ?_
  refine aops_n hTT (M := []) (n := 1) [pv (14 : Nat) (V.b true)] (by kernel_rfl) (by kernel_rfl) True.intro ?_
  refine aops_nil ?_
  refine xt_n ?_
  refine hK _ ?_
  clear hK K
  refine aw_ret ?_
  refine ret_pure (v' := V.b true) (.inr rfl) (by kernel_rfl) (by kernel_rfl) (by kernel_rfl)
theorem hears_calls (A0 : Option Addr) (n0 c0 : Nat) (l0 : List Int) (A1 : Option Addr) (n1 c1 : Nat) (l1 : List Int) (A2 : Option Addr) (n2 c2 : Nat) (l2 : List Pt) (x3 x4 x5 x6 : Int) (w : World)
    (h0 : IntsAt w A0 n0 l0) (m0 : n0 ≤ 4611686018427387904) (k0 : n0 ≤ c0) (h1 : IntsAt w A1 n1 l1) (m1 : n1 ≤ 4611686018427387904) (k1 : n1 ≤ c1) (h2 : PtsAt w A2 n2 l2) (m2 : n2 ≤ 4611686018427387904) (k2 : n2 ≤ c2)
    (_ : -9223372036854775808 ≤ x3 ∧ x3 ≤ 9223372036854775807) (_ : -9223372036854775808 ≤ x4 ∧ x4 ≤ 9223372036854775807) (_ : -9223372036854775808 ≤ x5 ∧ x5 ≤ 9223372036854775807) (_ : -9223372036854775808 ≤ x6 ∧ x6 ≤ 9223372036854775807) :
    Calls Try.prog 14 #[.agg #[.slice A0 n0 c0], .agg #[.slice A1 n1 c1], .slice A2 n2 c2, .int .i64 x3, .int .i64 x4, .int .i64 x5, .int .i64 x6] w fun e w' => e = .returned (.bool true) ∧ Below w.heap.size w w' :=
  law_of_ac (hears_ac l0 l1 l2 x3 x4 x5 x6 (by rw [h0.1]; exact m0) (by rw [h1.1]; exact m1) (by rw [h2.1]; exact m2)) (.cons (old_tip h0 k0) (.cons (old_tip h1 k1) (.cons (old_pts h2 k2) (.cons (.c _ _) (.cons (.c _ _) (.cons (.c _ _) (.cons (.c _ _) .nil)))))))
end Go.Proofs.Ytlfaaddoemcokaa
