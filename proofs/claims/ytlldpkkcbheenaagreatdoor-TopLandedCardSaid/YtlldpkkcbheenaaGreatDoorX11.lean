/-
  Several texts in one: TopLanded: the walk of the law. No condition. .. The listed variables of the top: they are never read; the start that meets the condition.
-/
import Derived.Test.YtlldpkkcbheenaaGreatDoorTie
import Derived.Test.YtlldpkkcbheenaaGreatDoorCards
import Derived.ProofKit
import Derived.LaidMore
import Derived.Lay
import Derived.OpenShut
import Derived.Stop.Joined
import Derived.SevenTiedAt
import Derived.Test.YtlldpkkcbheenaaGreatDoorX06
import Derived.Test.YtlldpkkcbheenaaGreatDoorX08
import Derived.Test.YtlldpkkcbheenaaGreatDoorX09
import Derived.Test.YtlldpkkcbheenaaGreatDoorX10
import Derived.Test.YtlldpkkcbheenaaGreatDoorMC
namespace Go.Proofs.YtlldpkkcbheenaaGreatDoor
open Go.Ab Go.RowKit Go.Dw Go.Shelf
theorem gChk_checkPts {l : List Pt} (h : gChk l = 0) : checkPts l = 0 := by
 obtain ⟨h1, h2⟩ := gChk_ok.1 h
 have h3 : l.all edgeB = true := all_gp.2 fun k hk => by
  have := gE_iff.1 (h2 k hk)
  exact (edgeB_iff _).2 ⟨this.1.1, this.1.2, this.2.1, this.2.2⟩
 rw [checkPts, if_neg oM, if_pos h3]
def landB (b : Bl) : Bl := ⟨b.per, b.rim, b.core, max 1 b.land, b.slow, b.fast⟩
set_option maxHeartbeats 4000000 in
set_option maxRecDepth 100000 in
theorem landed_law (p : List Pt) (c : Cut) (b : Bl) (wh ac : Int) (hl : p.length ≤ 4611686018427387904) (hr : ∀ k, k < p.length → inR2 (gp p k)) (hw : 0 ≤ wh ∧ wh ≤ 255) (ha : 0 ≤ ac ∧ ac ≤ 65535) : AC Tryz.prog 3 [V.pts p, c.v, b.v, .c (.int .u8 wh), .c (.int .u16 ac)] (.b true) [] := by
 refine ac_intro hTT hMX (fn := Tryz.f3) (N := _) ⟨Tryz.func3, rfl, Tryz.ntmps3, kR⟩ (by simp) fun C hC hF => ?_
 refine aw_seq_k fun K hK => ?_
 refine w_region (n' := 2) kR kR ?_
 refine aops_n hTT (M := [7]) (n := 3) [pv (6 : Nat) (V.ptr [V.i (Cut.half c), V.i (Cut.gain c), V.i (Cut.thin c), V.i (Cut.wide c), V.i (Cut.slope c), V.i (Cut.jerk c), V.i (Cut.sty c)]), pn (7 : Nat) (V.ref (100007 : Nat) (0 : Nat)) (100007 : Nat) (Ob.box (26 : Nat) [V.i (Bl.per b), V.i (Bl.rim b), V.i (Bl.core b), V.i (Bl.land b), V.i (Bl.slow b), V.i (Bl.fast b)]), pv (10 : Nat) (V.b false)] kR kR tI ?_
 refine aops_nil ?_
 refine xt_n ?_
 refine hK _ ?_
 clear hK K
 refine aw_seq_k fun K hK => ?_
 refine w_region (n' := 3) kR kR ?_
 refine aops_n hTT (M := [7]) (n := 5) [pv (21 : Nat) (V.ref (100007 : Nat) (3 : Nat)), pc (22 : Nat) ((3 : Nat) ≤ (6 : Nat)) (V.i (Bl.land b)), pv (23 : Nat) (V.i (max (1 : Int) (Bl.land b))), pv (24 : Nat) (V.ref (100007 : Nat) (3 : Nat)), pw ((3 : Nat) + (1 : Nat) ≤ (6 : Nat)) (100007 : Nat) (Ob.box (26 : Nat) [V.i (Bl.per b), V.i (Bl.rim b), V.i (Bl.core b), V.i (max (1 : Int) (Bl.land b)), V.i (Bl.slow b), V.i (Bl.fast b)])] kR kR ⟨oM, oM, tI⟩ ?_
 refine aops_nil ?_
 refine xt_n ?_
 refine hK _ ?_
 clear hK K
 refine aw_seq_k fun K hK => ?_
 refine w_region (n' := 4) kR kR ?_
 refine aops_n hTT (M := [7]) (n := 3) [pv (26 : Nat) (V.sl (2 : Nat) (List.length p) fun (k : Nat) => [V.i (Prod.fst (gp p k)), V.i (Prod.snd (gp p k))]), pv (27 : Nat) (V.agg [V.i (Cut.half c), V.i (Cut.gain c), V.i (Cut.thin c), V.i (Cut.wide c), V.i (Cut.slope c), V.i (Cut.jerk c), V.i (Cut.sty c)]), pc (28 : Nat) ((0 : Nat) ≤ (6 : Nat)) (V.agg [V.i (Bl.per b), V.i (Bl.rim b), V.i (Bl.core b), V.i (max (1 : Int) (Bl.land b)), V.i (Bl.slow b), V.i (Bl.fast b)])] kR kR ⟨oM, tI⟩ ?_
 by_cases h0 : p.length ≤ 40 ∧ blE (landB b) = 0
 ·
  refine e_call (first := []) (caps := []) (cut_some c (landB b) p 40 h0 hl hr) kR kR kR kR kR ?_
  by_cases h1 : (cutR c p).2 = 0 ∧ 0 < p.length
  ·
   have h2 : cutE c = 0 ∧ sChk p = 0 := by
    have h1 := h1.1
    unfold cutR at h1
    split at h1
    ·
     split at h1
     ·
      exact ⟨by assumption, by assumption⟩
     ·
      exact absurd h1 (by assumption)
    ·
     exact absurd h1 (by assumption)
   rw [cutR, if_pos h2.1, if_pos h2.2]
   have hl40 := h0.1
   obtain ⟨⟨q1, q2⟩, ⟨q3, q4⟩, ⟨q5, q6⟩, ⟨q7, q8⟩, ⟨q9, q10⟩, q11, q12⟩ := blE_ok.1 h0.2
   have s1 : SOk (landB b) (p.map (wallP c)) := ⟨h0.2, wall_gChk h2.1 h2.2⟩
   have len1 : (p.map (wallP c)).length = p.length := by simp
   have hp0 := h1.2
   have hland : 1 ≤ (landB b).land := by show 1 ≤ max 1 b.land; omega
   refine aops_n hTT (M := []) (n := 5) [pv (25 : Nat) (V.tup [V.sl (2 : Nat) (List.length (List.map (wallP c) p)) fun (k : Nat) => [V.i (Prod.fst (gp (List.map (wallP c) p) k)), V.i (Prod.snd (gp (List.map (wallP c) p) k))], V.b true]), pv (30 : Nat) (V.sl (2 : Nat) (List.length (List.map (wallP c) p)) fun (k : Nat) => [V.i (Prod.fst (gp (List.map (wallP c) p) k)), V.i (Prod.snd (gp (List.map (wallP c) p) k))]), pv (31 : Nat) (V.b true), pv (11 : Nat) (V.sl (2 : Nat) (List.length (List.map (wallP c) p)) fun (k : Nat) => [V.i (Prod.fst (gp (List.map (wallP c) p) k)), V.i (Prod.snd (gp (List.map (wallP c) p) k))]), pv (12 : Nat) (V.b true)] kR kR tI ?_
   refine aops_nil ?_
   refine xt_n ?_
   refine hK _ ?_
   clear hK K
   refine aw_seq_k fun K hK => ?_
   refine aw_seq_k fun K hK => ?_
   refine w_region (n' := 5) kR kR ?_
   refine aops_n hTT (M := []) (n := 9) [pv (32 : Nat) (V.b true), pv (33 : Nat) (V.b false), pv (34 : Nat) (V.b false), pc (35 : Nat) ((True ∧ True) ∧ ((false == false) = true → True)) (V.gd (false == false) (V.sl (2 : Nat) (List.length (List.map (wallP c) p)) fun (k : Nat) => [V.i (Prod.fst (gp (List.map (wallP c) p) k)), V.i (Prod.snd (gp (List.map (wallP c) p) k))])), pc (36 : Nat) ((((false == false) = true → (false == false) = true) ∧ True) ∧ ((false == false) = true → True)) (V.gd (false == false) (V.i (↑(List.length (List.map (wallP c) p)) : Int))), pc (37 : Nat) ((((false == false) = true → (false == false) = true) ∧ True ∧ True) ∧ ((false == false) = true → True)) (V.gd (false == false) (V.b (decide ((↑(List.length (List.map (wallP c) p)) : Int) = 0)))), pc (38 : Nat) (True ∧ (false = false → (false == false) = true)) (V.b (decide ((↑(List.length (List.map (wallP c) p)) : Int) = 0))), pv (39 : Nat) (V.b (decide ((↑(List.length (List.map (wallP c) p)) : Int) = 0))), pc (40 : Nat) ((True ∧ True) ∧ ((decide ((↑(List.length (List.map (wallP c) p)) : Int) = 0) == false) = true → (0 : Nat) ≤ (6 : Nat))) (V.gd (decide ((↑(List.length (List.map (wallP c) p)) : Int) = 0) == false) (V.agg [V.i (Bl.per b), V.i (Bl.rim b), V.i (Bl.core b), V.i (max (1 : Int) (Bl.land b)), V.i (Bl.slow b), V.i (Bl.fast b)]))] kR kR ⟨⟨⟨tI, tI⟩, (fun _ => tI)⟩, ⟨⟨(by (exact fun h => h)), tI⟩, (fun _ => tI)⟩, ⟨⟨(by (exact fun h => h)), ⟨tI, tI⟩⟩, (fun _ => tI)⟩, ⟨tI, (by (intro h; rw [h]; rfl))⟩, ⟨⟨tI, tI⟩, (by (intro _; simp; done))⟩, tI⟩ ?_
   refine e_callG 1 (g := decide ((↑(List.length (List.map (wallP c) p)) : Int) = 0) == false) (first := []) (caps := []) kR (fun h => rCheck5_ac (landB b)) kR kR kR kR kR kR ?_
   generalize p.map (wallP c) = l at s1 len1 ⊢
   refine aops_n hTT (M := []) (n := 2) [pc (42 : Nat) ((((decide ((↑(List.length l) : Int) = 0) == false) = true → (decide ((↑(List.length l) : Int) = 0) == false) = true) ∧ True ∧ True) ∧ ((decide ((↑(List.length l) : Int) = 0) == false) = true → True)) (V.gd (decide ((↑(List.length l) : Int) = 0) == false) (V.b !decide (blE (landB b) = 0))), pc (43 : Nat) (True ∧ (decide ((↑(List.length l) : Int) = 0) = false → (decide ((↑(List.length l) : Int) = 0) == false) = true)) (V.b (decide ((↑(List.length l) : Int) = 0) || !decide (blE (landB b) = 0)))] kR kR ⟨⟨⟨(by (exact fun h => h)), ⟨tI, tI⟩⟩, (fun _ => tI)⟩, ⟨tI, (by (intro h; rw [h]; rfl))⟩, tI⟩ ?_
   refine aops_nil ?_
   refine xt_n ?_
   refine hK _ ?_
   clear hK K
   refine w_cond (t := decide ((↑(List.length l) : Int) = 0) || !decide (blE (landB b) = 0)) kR (fun c1 => ?_) (fun c1 => ?_)
   ·
    exfalso
    have hne : l ≠ [] := by
     intro h
     rw [h] at len1
     simp at len1
     omega
    simp [hne, h0.2] at c1
   clear c1
   refine w_le (le_freezeBox (t := (26 : Nat)) (cs := [V.i (Bl.per b), V.i (Bl.rim b), V.i (Bl.core b), V.i (max (1 : Int) (Bl.land b)), V.i (Bl.slow b), V.i (Bl.fast b)]) 100007 kR kR) ?_
   have hl0 : 0 < l.length := by omega
   have hlen := s1.len
   refine aw_skip ?_
   refine xt_n ?_
   refine hK _ ?_
   clear hK K
   refine aw_seq_k fun K hK => ?_
   refine aw_seq_k fun K hK => ?_
   refine w_region (n' := 6) kR kR ?_
   refine aops_n hTT (M := []) (n := 1) [pv (13 : Nat) (V.i (0 : Int))] kR kR tI ?_
   refine aops_nil ?_
   refine xt_n ?_
   refine hK _ ?_
   clear hK K
   refine aw_block ?_
   refine w_loop (ι := Nat) (fun k => [(3, .c (.int .u8 wh)), (4, .c (.int .u16 ac)), (7, .ptr (landB b).c), (11, V.pts l), (13, .i k)]) (fun _ => []) (fun k => k ≤ l.length ∧ ∀ j, j < k → (gp l j).1 ≤ (gp l j).2) (fun k => l.length - k) 0 ⟨Nat.zero_le _, fun j hj => by omega⟩ ?_ ?_
   ·
    refine le_ren [] (.cons kR (.cons kR (.cons kR (.cons kR (.cons kR .nil))))) .nil kR kR
   rintro k ⟨hk, hkw⟩
   refine aw_seq_k fun K hK => ?_
   refine aw_seq_k fun K hK => ?_
   refine w_region (n' := 2) kR kR ?_
   refine aops_n hTT (M := []) (n := 4) [pv (45 : Nat) (V.i (↑k : Int)), pv (46 : Nat) (V.sl (2 : Nat) (List.length l) fun (k : Nat) => [V.i (Prod.fst (gp l k)), V.i (Prod.snd (gp l k))]), pv (47 : Nat) (V.i (↑(List.length l) : Int)), pv (48 : Nat) (V.b (decide ((↑k : Int) < (↑(List.length l) : Int))))] kR kR tI ?_
   refine aops_nil ?_
   refine xt_n ?_
   refine hK _ ?_
   clear hK K
   refine w_cond (t := decide ((↑k : Int) < (↑(List.length l) : Int))) kR (fun c2 => ?_) (fun c2 => ?_)
   ·
    have hk1 : k < l.length := by simpa using c2
    refine aw_skip ?_
    refine xt_n ?_
    refine hK _ ?_
    clear hK K
    refine aw_seq_k fun K hK => ?_
    refine aw_block ?_
    refine aw_seq_k fun K hK => ?_
    refine w_regionD (n' := 3) kR kR ?_
    refine aops_n hTT (M := []) (n := 11) [pv (51 : Nat) (V.sl (2 : Nat) (List.length l) fun (k : Nat) => [V.i (Prod.fst (gp l k)), V.i (Prod.snd (gp l k))]), pv (52 : Nat) (V.i (↑k : Int)), pc (53 : Nat) ((0 : Int) ≤ (↑k : Int) ∧ (↑k : Int) < (↑(List.length l) : Int)) (V.ptr [V.i (Prod.fst (gp l k)), V.i (Prod.snd (gp l k))]), pv (54 : Nat) (V.ptr [V.i (Prod.snd (gp l k))]), pv (55 : Nat) (V.i (Prod.snd (gp l k))), pv (56 : Nat) (V.sl (2 : Nat) (List.length l) fun (k : Nat) => [V.i (Prod.fst (gp l k)), V.i (Prod.snd (gp l k))]), pv (57 : Nat) (V.i (↑k : Int)), pc (58 : Nat) ((0 : Int) ≤ (↑k : Int) ∧ (↑k : Int) < (↑(List.length l) : Int)) (V.ptr [V.i (Prod.fst (gp l k)), V.i (Prod.snd (gp l k))]), pv (59 : Nat) (V.ptr [V.i (Prod.fst (gp l k)), V.i (Prod.snd (gp l k))]), pv (60 : Nat) (V.i (Prod.fst (gp l k))), pv (61 : Nat) (V.b (decide (Prod.snd (gp l k) < Prod.fst (gp l k))))] kR kR ⟨oM, oM, tI⟩ ?_
    refine aops_nil ⟨kR, ?_⟩
    refine xt_n ?_
    refine hK _ ?_
    clear hK K
    refine w_cond (t := decide (Prod.snd (gp l k) < Prod.fst (gp l k))) kR (fun c3 => ?_) (fun c3 => ?_)
    ·
     refine aw_seq_k fun K hK => ?_
     refine w_region (n' := 4) kR kR ?_
     refine e_call (first := []) (caps := []) (works07_ac) kR kR kR kR kR ?_
     refine aops_n hTT (M := []) (n := 1) [pv (10 : Nat) (V.b true)] kR kR tI ?_
     refine aops_nil ?_
     refine xt_n ?_
     refine hK _ ?_
     clear hK K
     refine aw_ret ?_
     refine xb_r ?_
     refine xt_r ?_
     refine xt_r ?_
     refine xb_r ?_
     refine xt_r ?_
     refine ret_pure (v' := V.b true) (.inr rfl) kR kR kR
    refine aw_skip ?_
    refine xb_n ?_
    refine xt_n ?_
    refine hK _ ?_
    clear hK K
    refine w_region (n' := 4) kR kR ?_
    refine aops_n hTT (M := []) (n := 3) [pv (49 : Nat) (V.i (↑k : Int)), pc (50 : Nat) ((-9223372036854775808 : Int) ≤ (↑k : Int) + 1 ∧ (↑k : Int) + 1 ≤ (9223372036854775807 : Int)) (V.i ((↑k : Int) + 1)), pv (13 : Nat) (V.i ((↑k : Int) + 1))] kR kR ⟨oM, tI⟩ ?_
    refine aops_nil ?_
    refine xt_n ?_
    refine ⟨k + 1, ⟨by omega, fun j hj => ?_⟩, ?_, by omega⟩
    ·
     simp at c3
     rcases Nat.lt_or_eq_of_le (Nat.le_of_lt_succ hj) with h | rfl
     ·
      exact hkw j h
     ·
      exact c3
    ·
     refine le_ren [] (.cons kR (.cons kR (.cons kR (.cons kR (.cons kR .nil))))) .nil kR kR
   have hWd : WideL l := fun i hi => hkw i (by simp at c2; omega)
   clear hkw c2 hk
   by_cases ho : ∃ o, LOut (landB b) l o
   ·
    obtain ⟨o, ho⟩ := ho
    have e1 := ho.1
    have hro : ∀ v, v < o.length → -16777216 ≤ gi o v ∧ gi o v ≤ 16777216 := fun v hv => by
     have a1 := (ho.2.1.1 v oM).1
     have a2 := ho.2.1.2 v oM
     have a3 := s1.pt v oM
     omega
    have hTurns : TurnsOk l o (landB b).per.toNat := fun k hk hn => by
     have := (ho.2.1.1 k hk).2.2 hn
     omega
    refine aw_exit ?_
    refine xt_x ?_
    refine xt_x ?_
    refine xb_same ?_
    refine xt_n ?_
    clear hK K
    refine hK _ ?_
    clear hK K
    refine aw_seq_k fun K hK => ?_
    refine w_region (n' := 3) kR kR ?_
    refine aops_n hTT (M := []) (n := 2) [pv (64 : Nat) (V.agg [V.i (Bl.per (landB b)), V.i (Bl.rim (landB b)), V.i (Bl.core (landB b)), V.i (Bl.land (landB b)), V.i (Bl.slow (landB b)), V.i (Bl.fast (landB b))]), pv (65 : Nat) (V.sl (2 : Nat) (List.length l) fun (k : Nat) => [V.i (Prod.fst (gp l k)), V.i (Prod.snd (gp l k))])] kR kR tI ?_
    refine e_call (first := []) (caps := []) (Outer_ok (landB b) l s1 ho) kR kR kR kR kR ?_
    refine aops_n hTT (M := []) (n := 5) [pv (63 : Nat) (V.tup [V.sl (1 : Nat) (List.length o) fun (k : Nat) => [V.i (gi o k)], V.i (0 : Int)]), pv (67 : Nat) (V.sl (1 : Nat) (List.length o) fun (k : Nat) => [V.i (gi o k)]), pv (68 : Nat) (V.i (0 : Int)), pv (14 : Nat) (V.sl (1 : Nat) (List.length o) fun (k : Nat) => [V.i (gi o k)]), pv (15 : Nat) (V.i (0 : Int))] kR kR tI ?_
    refine aops_nil ?_
    refine xt_n ?_
    refine hK _ ?_
    clear hK K
    refine aw_seq_k fun K hK => ?_
    refine aw_seq_k fun K hK => ?_
    refine w_region (n' := 4) kR kR ?_
    refine aops_n hTT (M := []) (n := 2) [pv (69 : Nat) (V.i (0 : Int)), pv (70 : Nat) (V.b false)] kR kR tI ?_
    refine aops_nil ?_
    refine xt_n ?_
    refine hK _ ?_
    clear hK K
    refine w_false (t := false) kR rfl ?_
    refine aw_skip ?_
    refine xt_n ?_
    refine hK _ ?_
    clear hK K
    refine aw_seq_k fun K hK => ?_
    refine aw_seq_k fun K hK => ?_
    refine w_region (n' := 5) kR kR ?_
    refine aops_n hTT (M := []) (n := 5) [pv (76 : Nat) (V.sl (1 : Nat) (List.length o) fun (k : Nat) => [V.i (gi o k)]), pv (77 : Nat) (V.i (↑(List.length o) : Int)), pv (78 : Nat) (V.sl (2 : Nat) (List.length l) fun (k : Nat) => [V.i (Prod.fst (gp l k)), V.i (Prod.snd (gp l k))]), pv (79 : Nat) (V.i (↑(List.length l) : Int)), pv (80 : Nat) (V.b !decide ((↑(List.length o) : Int) = (↑(List.length l) : Int)))] kR kR tI ?_
    refine aops_nil ?_
    refine xt_n ?_
    refine hK _ ?_
    clear hK K
    refine w_cond (t := !decide ((↑(List.length o) : Int) = (↑(List.length l) : Int))) kR (fun c4 => ?_) (fun c4 => ?_)
    ·
     simp at c4
     omega
    clear c4
    refine aw_skip ?_
    refine xt_n ?_
    refine hK _ ?_
    clear hK K
    refine aw_seq_k fun K hK => ?_
    refine aw_seq_k fun K hK => ?_
    refine w_region (n' := 6) kR kR ?_
    refine aops_n hTT (M := []) (n := 1) [pv (16 : Nat) (V.i (0 : Int))] kR kR tI ?_
    refine aops_nil ?_
    refine xt_n ?_
    refine hK _ ?_
    clear hK K
    refine aw_block ?_
    refine w_loop (ι := Nat) (fun k => [(3, .c (.int .u8 wh)), (4, .c (.int .u16 ac)), (7, .ptr (landB b).c), (11, V.pts l), (14, V.ints o), (16, .i k)]) (fun _ => []) (fun k => k ≤ o.length) (fun k => o.length - k) 0 (Nat.zero_le _) ?_ ?_
    ·
     refine le_ren [] (.cons kR (.cons kR (.cons kR (.cons kR (.cons kR (.cons kR .nil)))))) .nil kR kR
    intro k hk
    refine aw_seq_k fun K hK => ?_
    refine aw_seq_k fun K hK => ?_
    refine w_region (n' := 2) kR kR ?_
    refine aops_n hTT (M := []) (n := 4) [pv (81 : Nat) (V.i (↑k : Int)), pv (82 : Nat) (V.sl (1 : Nat) (List.length o) fun (k : Nat) => [V.i (gi o k)]), pv (83 : Nat) (V.i (↑(List.length o) : Int)), pv (84 : Nat) (V.b (decide ((↑k : Int) < (↑(List.length o) : Int))))] kR kR tI ?_
    refine aops_nil ?_
    refine xt_n ?_
    refine hK _ ?_
    clear hK K
    refine w_cond (t := decide ((↑k : Int) < (↑(List.length o) : Int))) kR (fun c5 => ?_) (fun c5 => ?_)
    ·
     have hk1 : k < o.length := by simpa using c5
     have hk2 := hro k hk1
     refine aw_skip ?_
     refine xt_n ?_
     refine hK _ ?_
     clear hK K
     refine aw_seq_k fun K hK => ?_
     refine aw_block ?_
     refine aw_seq_k fun K hK => ?_
     refine w_region (n' := 3) kR kR ?_
     refine aops_n hTT (M := []) (n := 12) [pv (87 : Nat) (V.sl (1 : Nat) (List.length o) fun (k : Nat) => [V.i (gi o k)]), pv (88 : Nat) (V.i (↑k : Int)), pc (89 : Nat) ((0 : Int) ≤ (↑k : Int) ∧ (↑k : Int) < (↑(List.length o) : Int)) (V.ptr [V.i (gi o k)]), pv (90 : Nat) (V.i (gi o k)), pv (91 : Nat) (V.b (decide (gi o k < (-16777216 : Int)))), pv (92 : Nat) (V.b (decide (gi o k < (-16777216 : Int)))), pc (93 : Nat) ((True ∧ True) ∧ ((decide (gi o k < (-16777216 : Int)) == false) = true → True)) (V.gd (decide (gi o k < (-16777216 : Int)) == false) (V.sl (1 : Nat) (List.length o) fun (k : Nat) => [V.i (gi o k)])), pc (94 : Nat) ((True ∧ True) ∧ ((decide (gi o k < (-16777216 : Int)) == false) = true → True)) (V.gd (decide (gi o k < (-16777216 : Int)) == false) (V.i (↑k : Int))), pc (95 : Nat) ((((decide (gi o k < (-16777216 : Int)) == false) = true → (decide (gi o k < (-16777216 : Int)) == false) = true) ∧ ((decide (gi o k < (-16777216 : Int)) == false) = true → (decide (gi o k < (-16777216 : Int)) == false) = true) ∧ True) ∧ ((decide (gi o k < (-16777216 : Int)) == false) = true → (0 : Int) ≤ (↑k : Int) ∧ (↑k : Int) < (↑(List.length o) : Int))) (V.gd (decide (gi o k < (-16777216 : Int)) == false) (V.ptr [V.i (gi o k)])), pc (96 : Nat) ((((decide (gi o k < (-16777216 : Int)) == false) = true → (decide (gi o k < (-16777216 : Int)) == false) = true) ∧ True) ∧ ((decide (gi o k < (-16777216 : Int)) == false) = true → True)) (V.gd (decide (gi o k < (-16777216 : Int)) == false) (V.i (gi o k))), pc (97 : Nat) ((((decide (gi o k < (-16777216 : Int)) == false) = true → (decide (gi o k < (-16777216 : Int)) == false) = true) ∧ True ∧ True) ∧ ((decide (gi o k < (-16777216 : Int)) == false) = true → True)) (V.gd (decide (gi o k < (-16777216 : Int)) == false) (V.b (decide ((16777216 : Int) < gi o k)))), pc (98 : Nat) (True ∧ (decide (gi o k < (-16777216 : Int)) = false → (decide (gi o k < (-16777216 : Int)) == false) = true)) (V.b (decide (gi o k < (-16777216 : Int)) || decide ((16777216 : Int) < gi o k)))] kR kR ⟨oM, ⟨⟨tI, tI⟩, (fun _ => tI)⟩, ⟨⟨tI, tI⟩, (fun _ => tI)⟩, ⟨⟨(by (exact fun h => h)), ⟨(by (exact fun h => h)), tI⟩⟩, (by (intro hg; simp at hg; omega))⟩, ⟨⟨(by (exact fun h => h)), tI⟩, (fun _ => tI)⟩, ⟨⟨(by (exact fun h => h)), ⟨tI, tI⟩⟩, (fun _ => tI)⟩, ⟨tI, (by (intro h; rw [h]; rfl))⟩, tI⟩ ?_
     refine aops_nil ?_
     refine xt_n ?_
     refine hK _ ?_
     clear hK K
     refine w_cond (t := decide (gi o k < (-16777216 : Int)) || decide ((16777216 : Int) < gi o k)) kR (fun c6 => ?_) (fun c6 => ?_)
     ·
      simp at c6
      omega
     clear c6
     refine aw_skip ?_
     refine xb_n ?_
     refine xt_n ?_
     refine hK _ ?_
     clear hK K
     refine w_region (n' := 4) kR kR ?_
     refine aops_n hTT (M := []) (n := 3) [pv (85 : Nat) (V.i (↑k : Int)), pc (86 : Nat) ((-9223372036854775808 : Int) ≤ (↑k : Int) + 1 ∧ (↑k : Int) + 1 ≤ (9223372036854775807 : Int)) (V.i ((↑k : Int) + 1)), pv (16 : Nat) (V.i ((↑k : Int) + 1))] kR kR ⟨oM, tI⟩ ?_
     refine aops_nil ?_
     refine xt_n ?_
     refine ⟨k + 1, by omega, ?_, by omega⟩
     refine le_ren [] (.cons kR (.cons kR (.cons kR (.cons kR (.cons kR (.cons kR .nil)))))) .nil kR kR
    clear c5 hk
    obtain ⟨i, hi0, hi⟩ : ∃ i : Nat, wh.tmod (l.length : Int) = (i : Int) ∧ i < l.length := by
     rw [Int.tmod_eq_emod_of_nonneg hw.1]
     have h1 := Int.emod_nonneg wh (b := (l.length : Int)) oM
     have h2 := Int.emod_lt_of_pos wh (b := (l.length : Int)) oM
     exact ⟨(wh % (l.length : Int)).toNat, by omega, by omega⟩
    have hi1 : wh.tmod (l.length : Int) < l.length := by omega
    have hi2 : 0 ≤ wh.tmod (l.length : Int) := by omega
    have ei : (wh.tmod (l.length : Int)).toNat = i := by omega
    have b0 := s1.pt (wh.tmod (l.length : Int)).toNat oM
    have b1 := hro (wh.tmod (l.length : Int)).toNat oM
    have b2 := hWd (wh.tmod (l.length : Int)).toNat oM
    obtain ⟨n, hn, hn0⟩ : ∃ n : Nat, (landB b).per = n ∧ 1 ≤ n := ⟨(landB b).per.toNat, by omega, by omega⟩
    have m1 : 0 ≤ ac.tmod ((gp l (wh.tmod (l.length : Int)).toNat).2 - (gp l (wh.tmod (l.length : Int)).toNat).1 + 1) := Int.tmod_nonneg _ ha.1
    have m2 : ac.tmod ((gp l (wh.tmod (l.length : Int)).toNat).2 - (gp l (wh.tmod (l.length : Int)).toNat).1 + 1) < (gp l (wh.tmod (l.length : Int)).toNat).2 - (gp l (wh.tmod (l.length : Int)).toNat).1 + 1 := Int.tmod_lt_of_pos _ oM
    have hm0 : (i : Int).tmod (landB b).per = ((i % n : Nat) : Int) := by rw [hn, Int.tmod_eq_emod_of_nonneg oM]; omega
    have hc0 := gChk_checkPts s1.l0
    have hT : TurnsOk l o n := by rw [show n = (landB b).per.toNat by omega]; exact hTurns
    have hdrop := fun y => Drop_ac l o n (i % n) y hc0 e1 (fun k hk => by have := hro k hk; simp [radB]; omega) oM (Nat.mod_lt _ oM)
    rw [← hn] at hdrop
    refine aw_exit ?_
    refine xt_x ?_
    refine xt_x ?_
    refine xb_same ?_
    refine xt_n ?_
    clear hK K
    refine hK _ ?_
    clear hK K
    refine aw_seq_k fun K hK => ?_
    refine w_region (n' := 3) kR kR ?_
    refine aops_n hTT (M := []) (n := 6) [pv (99 : Nat) (V.c (Value.int IntKind.u8 wh)), pc (100 : Nat) ((-9223372036854775808 : Int) ≤ wh ∧ wh ≤ 9223372036854775807) (V.i wh), pv (101 : Nat) (V.sl (2 : Nat) (List.length l) fun (k : Nat) => [V.i (Prod.fst (gp l k)), V.i (Prod.snd (gp l k))]), pv (102 : Nat) (V.i (↑(List.length l) : Int)), pc (103 : Nat) ((↑(List.length l) : Int) ≠ 0) (V.i (Int.tmod wh (↑(List.length l) : Int))), pv (17 : Nat) (V.i (Int.tmod wh (↑(List.length l) : Int)))] kR kR ⟨oM, oM, tI⟩ ?_
    refine aops_nil ?_
    refine xt_n ?_
    refine hK _ ?_
    clear hK K
    refine aw_seq_k fun K hK => ?_
    refine w_regionD (n' := 4) kR kR ?_
    refine aops_n hTT (M := []) (n := 12) [pv (104 : Nat) (V.sl (2 : Nat) (List.length l) fun (k : Nat) => [V.i (Prod.fst (gp l k)), V.i (Prod.snd (gp l k))]), pv (105 : Nat) (V.i (Int.tmod wh (↑(List.length l) : Int))), pc (106 : Nat) ((0 : Int) ≤ Int.tmod wh (↑(List.length l) : Int) ∧ Int.tmod wh (↑(List.length l) : Int) < (↑(List.length l) : Int)) (V.ptr [V.i (Prod.fst (gp l (Int.toNat (Int.tmod wh (↑(List.length l) : Int))))), V.i (Prod.snd (gp l (Int.toNat (Int.tmod wh (↑(List.length l) : Int)))))]), pv (107 : Nat) (V.ptr [V.i (Prod.snd (gp l (Int.toNat (Int.tmod wh (↑(List.length l) : Int)))))]), pv (108 : Nat) (V.i (Prod.snd (gp l (Int.toNat (Int.tmod wh (↑(List.length l) : Int)))))), pv (109 : Nat) (V.sl (2 : Nat) (List.length l) fun (k : Nat) => [V.i (Prod.fst (gp l k)), V.i (Prod.snd (gp l k))]), pv (110 : Nat) (V.i (Int.tmod wh (↑(List.length l) : Int))), pc (111 : Nat) ((0 : Int) ≤ Int.tmod wh (↑(List.length l) : Int) ∧ Int.tmod wh (↑(List.length l) : Int) < (↑(List.length l) : Int)) (V.ptr [V.i (Prod.fst (gp l (Int.toNat (Int.tmod wh (↑(List.length l) : Int))))), V.i (Prod.snd (gp l (Int.toNat (Int.tmod wh (↑(List.length l) : Int)))))]), pv (112 : Nat) (V.ptr [V.i (Prod.fst (gp l (Int.toNat (Int.tmod wh (↑(List.length l) : Int))))), V.i (Prod.snd (gp l (Int.toNat (Int.tmod wh (↑(List.length l) : Int)))))]), pv (113 : Nat) (V.i (Prod.fst (gp l (Int.toNat (Int.tmod wh (↑(List.length l) : Int)))))), pc (114 : Nat) ((-9223372036854775808 : Int) ≤ Prod.snd (gp l (Int.toNat (Int.tmod wh (↑(List.length l) : Int)))) - Prod.fst (gp l (Int.toNat (Int.tmod wh (↑(List.length l) : Int)))) ∧ Prod.snd (gp l (Int.toNat (Int.tmod wh (↑(List.length l) : Int)))) - Prod.fst (gp l (Int.toNat (Int.tmod wh (↑(List.length l) : Int)))) ≤ 9223372036854775807) (V.i (Prod.snd (gp l (Int.toNat (Int.tmod wh (↑(List.length l) : Int)))) - Prod.fst (gp l (Int.toNat (Int.tmod wh (↑(List.length l) : Int)))))), pv (18 : Nat) (V.i (Prod.snd (gp l (Int.toNat (Int.tmod wh (↑(List.length l) : Int)))) - Prod.fst (gp l (Int.toNat (Int.tmod wh (↑(List.length l) : Int))))))] kR kR ⟨oM, oM, oM, tI⟩ ?_
    refine aops_nil ⟨kR, ?_⟩
    refine xt_n ?_
    refine hK _ ?_
    clear hK K
    refine aw_seq_k fun K hK => ?_
    refine w_regionD (n' := 5) kR kR ?_
    refine aops_n hTT (M := []) (n := 24) [pv (116 : Nat) (V.sl (2 : Nat) (List.length l) fun (k : Nat) => [V.i (Prod.fst (gp l k)), V.i (Prod.snd (gp l k))]), pv (117 : Nat) (V.sl (1 : Nat) (List.length o) fun (k : Nat) => [V.i (gi o k)]), pv (118 : Nat) (V.ptr [V.i (Bl.per (landB b)), V.i (Bl.rim (landB b)), V.i (Bl.core (landB b)), V.i (Bl.land (landB b)), V.i (Bl.slow (landB b)), V.i (Bl.fast (landB b))]), pv (119 : Nat) (V.i (Bl.per (landB b))), pv (120 : Nat) (V.i (Int.tmod wh (↑(List.length l) : Int))), pv (121 : Nat) (V.ptr [V.i (Bl.per (landB b)), V.i (Bl.rim (landB b)), V.i (Bl.core (landB b)), V.i (Bl.land (landB b)), V.i (Bl.slow (landB b)), V.i (Bl.fast (landB b))]), pv (122 : Nat) (V.i (Bl.per (landB b))), pc (123 : Nat) (Bl.per (landB b) ≠ 0) (V.i (Int.tmod (Int.tmod wh (↑(List.length l) : Int)) (Bl.per (landB b)))), pv (124 : Nat) (V.sl (1 : Nat) (List.length o) fun (k : Nat) => [V.i (gi o k)]), pv (125 : Nat) (V.i (Int.tmod wh (↑(List.length l) : Int))), pc (126 : Nat) ((0 : Int) ≤ Int.tmod wh (↑(List.length l) : Int) ∧ Int.tmod wh (↑(List.length l) : Int) < (↑(List.length o) : Int)) (V.ptr [V.i (gi o (Int.toNat (Int.tmod wh (↑(List.length l) : Int))))]), pv (127 : Nat) (V.i (gi o (Int.toNat (Int.tmod wh (↑(List.length l) : Int))))), pv (128 : Nat) (V.sl (2 : Nat) (List.length l) fun (k : Nat) => [V.i (Prod.fst (gp l k)), V.i (Prod.snd (gp l k))]), pv (129 : Nat) (V.i (Int.tmod wh (↑(List.length l) : Int))), pc (130 : Nat) ((0 : Int) ≤ Int.tmod wh (↑(List.length l) : Int) ∧ Int.tmod wh (↑(List.length l) : Int) < (↑(List.length l) : Int)) (V.ptr [V.i (Prod.fst (gp l (Int.toNat (Int.tmod wh (↑(List.length l) : Int))))), V.i (Prod.snd (gp l (Int.toNat (Int.tmod wh (↑(List.length l) : Int)))))]), pv (131 : Nat) (V.ptr [V.i (Prod.fst (gp l (Int.toNat (Int.tmod wh (↑(List.length l) : Int))))), V.i (Prod.snd (gp l (Int.toNat (Int.tmod wh (↑(List.length l) : Int)))))]), pv (132 : Nat) (V.i (Prod.fst (gp l (Int.toNat (Int.tmod wh (↑(List.length l) : Int)))))), pc (133 : Nat) ((-9223372036854775808 : Int) ≤ gi o (Int.toNat (Int.tmod wh (↑(List.length l) : Int))) + Prod.fst (gp l (Int.toNat (Int.tmod wh (↑(List.length l) : Int)))) ∧ gi o (Int.toNat (Int.tmod wh (↑(List.length l) : Int))) + Prod.fst (gp l (Int.toNat (Int.tmod wh (↑(List.length l) : Int)))) ≤ 9223372036854775807) (V.i (gi o (Int.toNat (Int.tmod wh (↑(List.length l) : Int))) + Prod.fst (gp l (Int.toNat (Int.tmod wh (↑(List.length l) : Int)))))), pv (134 : Nat) (V.c (Value.int IntKind.u16 ac)), pc (135 : Nat) ((-9223372036854775808 : Int) ≤ ac ∧ ac ≤ 9223372036854775807) (V.i ac), pv (136 : Nat) (V.i (Prod.snd (gp l (Int.toNat (Int.tmod wh (↑(List.length l) : Int)))) - Prod.fst (gp l (Int.toNat (Int.tmod wh (↑(List.length l) : Int)))))), pc (137 : Nat) ((-9223372036854775808 : Int) ≤ Prod.snd (gp l (Int.toNat (Int.tmod wh (↑(List.length l) : Int)))) - Prod.fst (gp l (Int.toNat (Int.tmod wh (↑(List.length l) : Int)))) + 1 ∧ Prod.snd (gp l (Int.toNat (Int.tmod wh (↑(List.length l) : Int)))) - Prod.fst (gp l (Int.toNat (Int.tmod wh (↑(List.length l) : Int)))) + 1 ≤ (9223372036854775807 : Int)) (V.i (Prod.snd (gp l (Int.toNat (Int.tmod wh (↑(List.length l) : Int)))) - Prod.fst (gp l (Int.toNat (Int.tmod wh (↑(List.length l) : Int)))) + 1)), pc (138 : Nat) (Prod.snd (gp l (Int.toNat (Int.tmod wh (↑(List.length l) : Int)))) - Prod.fst (gp l (Int.toNat (Int.tmod wh (↑(List.length l) : Int)))) + 1 ≠ (0 : Int)) (V.i (Int.tmod ac (Prod.snd (gp l (Int.toNat (Int.tmod wh (↑(List.length l) : Int)))) - Prod.fst (gp l (Int.toNat (Int.tmod wh (↑(List.length l) : Int)))) + 1))), pc (139 : Nat) ((-9223372036854775808 : Int) ≤ gi o (Int.toNat (Int.tmod wh (↑(List.length l) : Int))) + Prod.fst (gp l (Int.toNat (Int.tmod wh (↑(List.length l) : Int)))) + Int.tmod ac (Prod.snd (gp l (Int.toNat (Int.tmod wh (↑(List.length l) : Int)))) - Prod.fst (gp l (Int.toNat (Int.tmod wh (↑(List.length l) : Int)))) + 1) ∧ gi o (Int.toNat (Int.tmod wh (↑(List.length l) : Int))) + Prod.fst (gp l (Int.toNat (Int.tmod wh (↑(List.length l) : Int)))) + Int.tmod ac (Prod.snd (gp l (Int.toNat (Int.tmod wh (↑(List.length l) : Int)))) - Prod.fst (gp l (Int.toNat (Int.tmod wh (↑(List.length l) : Int)))) + 1) ≤ 9223372036854775807) (V.i (gi o (Int.toNat (Int.tmod wh (↑(List.length l) : Int))) + Prod.fst (gp l (Int.toNat (Int.tmod wh (↑(List.length l) : Int)))) + Int.tmod ac (Prod.snd (gp l (Int.toNat (Int.tmod wh (↑(List.length l) : Int)))) - Prod.fst (gp l (Int.toNat (Int.tmod wh (↑(List.length l) : Int)))) + 1)))] kR kR ⟨oM, oM, oM, oM, oM, oM, oM, oM, tI⟩ ?_
    obtain ⟨x, hx⟩ : ∃ x, x = gi o i + (gp l i).1 + ac.tmod ((gp l i).2 - (gp l i).1 + 1) := ⟨_, rfl⟩
    rw [ei] at m1 m2 b0 b1 b2 ⊢
    rw [hi0, ← hx, hm0]
    refine e_call (first := []) (caps := []) (hdrop x) kR kR kR kR kR ?_
    rw [landed_in oM hWd hT hi oM oM]
    refine aops_n hTT (M := []) (n := 5) [pv (115 : Nat) (V.tup [V.i (↑i : Int), V.i (0 : Int)]), pv (141 : Nat) (V.i (↑i : Int)), pv (142 : Nat) (V.i (0 : Int)), pv (19 : Nat) (V.i (↑i : Int)), pv (15 : Nat) (V.i (0 : Int))] kR kR tI ?_
    refine aops_nil ⟨kR, ?_⟩
    refine xt_n ?_
    refine hK _ ?_
    clear hK K
    refine aw_seq_k fun K hK => ?_
    refine aw_seq_k fun K hK => ?_
    refine w_region (n' := 6) kR kR ?_
    refine aops_n hTT (M := []) (n := 7) [pv (143 : Nat) (V.i (0 : Int)), pv (144 : Nat) (V.b false), pv (145 : Nat) (V.b false), pc (146 : Nat) ((True ∧ True) ∧ ((false == false) = true → True)) (V.gd (false == false) (V.i (↑i : Int))), pc (147 : Nat) ((True ∧ True) ∧ ((false == false) = true → True)) (V.gd (false == false) (V.i (↑i : Int))), pc (148 : Nat) ((((false == false) = true → (false == false) = true) ∧ ((false == false) = true → (false == false) = true) ∧ True) ∧ ((false == false) = true → True)) (V.gd (false == false) (V.b !decide ((↑i : Int) = (↑i : Int)))), pc (149 : Nat) (True ∧ (false = false → (false == false) = true)) (V.b !decide ((↑i : Int) = (↑i : Int)))] kR kR ⟨⟨⟨tI, tI⟩, (fun _ => tI)⟩, ⟨⟨tI, tI⟩, (fun _ => tI)⟩, ⟨⟨(by (exact fun h => h)), ⟨(by (exact fun h => h)), tI⟩⟩, (fun _ => tI)⟩, ⟨tI, (by (intro h; rw [h]; rfl))⟩, tI⟩ ?_
    refine aops_nil ?_
    refine xt_n ?_
    refine hK _ ?_
    clear hK K
    refine w_cond (t := !decide ((↑i : Int) = (↑i : Int))) kR (fun c7 => ?_) (fun c7 => ?_)
    ·
     simp at c7
    clear c7
    refine aw_skip ?_
    refine xt_n ?_
    refine hK _ ?_
    clear hK K
    refine aw_seq_k fun K hK => ?_
    refine aw_seq_k fun K hK => ?_
    refine w_region (n' := 7) kR kR ?_
    refine aops_n hTT (M := []) (n := 4) [pv (150 : Nat) (V.i (↑i : Int)), pv (151 : Nat) (V.ptr [V.i (Bl.per (landB b)), V.i (Bl.rim (landB b)), V.i (Bl.core (landB b)), V.i (Bl.land (landB b)), V.i (Bl.slow (landB b)), V.i (Bl.fast (landB b))]), pv (152 : Nat) (V.i (Bl.per (landB b))), pv (153 : Nat) (V.b (decide ((↑i : Int) < Bl.per (landB b))))] kR kR tI ?_
    refine aops_nil ?_
    refine xt_n ?_
    refine hK _ ?_
    clear hK K
    refine w_cond (t := decide ((↑i : Int) < Bl.per (landB b))) kR (fun c8 => ?_) (fun c8 => ?_)
    ·
     refine aw_seq_k fun K hK => ?_
     refine w_region (n' := 8) kR kR ?_
     refine e_call (first := []) (caps := []) (works07_ac) kR kR kR kR kR ?_
     refine aops_n hTT (M := []) (n := 1) [pv (10 : Nat) (V.b true)] kR kR tI ?_
     refine aops_nil ?_
     refine xt_n ?_
     refine hK _ ?_
     clear hK K
     refine aw_ret ?_
     refine xt_r ?_
     refine ret_pure (v' := V.b true) (.inr rfl) kR kR kR
    simp at c8
    have hp : (landB b).per.toNat ≤ i := by omega
    have hpi : i - (landB b).per.toNat < l.length := by omega
    have a5 := (ho.2.1.1 i hi).2.2 hp
    have D := Land_ac (landB b) l s1 o e1 hro i hi hp
    refine aw_skip ?_
    refine xt_n ?_
    refine hK _ ?_
    clear hK K
    refine aw_seq_k fun K hK => ?_
    refine w_region (n' := 8) kR kR ?_
    refine aops_n hTT (M := []) (n := 4) [pv (156 : Nat) (V.agg [V.i (Bl.per (landB b)), V.i (Bl.rim (landB b)), V.i (Bl.core (landB b)), V.i (Bl.land (landB b)), V.i (Bl.slow (landB b)), V.i (Bl.fast (landB b))]), pv (157 : Nat) (V.sl (2 : Nat) (List.length l) fun (k : Nat) => [V.i (Prod.fst (gp l k)), V.i (Prod.snd (gp l k))]), pv (158 : Nat) (V.sl (1 : Nat) (List.length o) fun (k : Nat) => [V.i (gi o k)]), pv (159 : Nat) (V.i (↑i : Int))] kR kR tI ?_
    refine e_call (first := []) (caps := []) (D) kR kR kR kR kR ?_
    have hpn : (landB b).per.toNat = n := by omega
    rw [hpn] at a5 hpi hp ⊢
    have b3 := hro (i - n) oM
    have b4 := s1.pt (i - n) hpi
    obtain ⟨d, hd⟩ : ∃ d, d = gi o (i - n) + (gp l (i - n)).1 - (gi o i + (gp l i).2) := ⟨_, rfl⟩
    rw [← hd]
    refine aops_n hTT (M := []) (n := 5) [pv (155 : Nat) (V.tup [V.i d, V.i (0 : Int)]), pv (161 : Nat) (V.i d), pv (162 : Nat) (V.i (0 : Int)), pv (20 : Nat) (V.i d), pv (15 : Nat) (V.i (0 : Int))] kR kR tI ?_
    refine aops_nil ?_
    refine xt_n ?_
    refine hK _ ?_
    clear hK K
    refine aw_seq_k fun K hK => ?_
    refine aw_seq_k fun K hK => ?_
    refine w_region (n' := 9) kR kR ?_
    refine aops_n hTT (M := []) (n := 8) [pv (163 : Nat) (V.i (0 : Int)), pv (164 : Nat) (V.b false), pv (165 : Nat) (V.b false), pc (166 : Nat) ((True ∧ True) ∧ ((false == false) = true → True)) (V.gd (false == false) (V.i d)), pc (167 : Nat) ((True ∧ True) ∧ ((false == false) = true → True)) (V.gd (false == false) (V.ptr [V.i (Bl.land (landB b)), V.i (Bl.slow (landB b)), V.i (Bl.fast (landB b))])), pc (168 : Nat) ((((false == false) = true → (false == false) = true) ∧ True) ∧ ((false == false) = true → True)) (V.gd (false == false) (V.i (Bl.land (landB b)))), pc (169 : Nat) ((((false == false) = true → (false == false) = true) ∧ ((false == false) = true → (false == false) = true) ∧ True) ∧ ((false == false) = true → True)) (V.gd (false == false) (V.b (decide (d < Bl.land (landB b))))), pc (170 : Nat) (True ∧ (false = false → (false == false) = true)) (V.b (decide (d < Bl.land (landB b))))] kR kR ⟨⟨⟨tI, tI⟩, (fun _ => tI)⟩, ⟨⟨tI, tI⟩, (fun _ => tI)⟩, ⟨⟨(by (exact fun h => h)), tI⟩, (fun _ => tI)⟩, ⟨⟨(by (exact fun h => h)), ⟨(by (exact fun h => h)), tI⟩⟩, (fun _ => tI)⟩, ⟨tI, (by (intro h; rw [h]; rfl))⟩, tI⟩ ?_
    refine aops_nil ?_
    refine xt_n ?_
    refine hK _ ?_
    clear hK K
    refine w_cond (t := decide (d < Bl.land (landB b))) kR (fun c9 => ?_) (fun c9 => ?_)
    ·
     simp at c9
     omega
    clear c9
    refine aw_skip ?_
    refine xt_n ?_
    refine hK _ ?_
    clear hK K
    refine aw_seq_k fun K hK => ?_
    refine aw_seq_k fun K hK => ?_
    refine w_region (n' := 10) kR kR ?_
    refine aops_n hTT (M := []) (n := 2) [pv (171 : Nat) (V.i d), pv (172 : Nat) (V.b (decide (d = 1)))] kR kR tI ?_
    refine aops_nil ?_
    refine xt_n ?_
    refine hK _ ?_
    clear hK K
    refine w_cond (t := decide (d = 1)) kR (fun c10 => ?_) (fun c10 => ?_)
    ·
     refine aw_seq_k fun K hK => ?_
     refine w_region (n' := 11) kR kR ?_
     refine e_call (first := []) (caps := []) (works07_ac) kR kR kR kR kR ?_
     refine aops_n hTT (M := []) (n := 1) [pv (10 : Nat) (V.b true)] kR kR tI ?_
     refine aops_nil ?_
     refine xt_n ?_
     refine hK _ ?_
     clear hK K
     refine aw_ret ?_
     refine xt_r ?_
     refine ret_pure (v' := V.b true) (.inr rfl) kR kR kR
    simp at c10
    have m3 : 0 ≤ ac.tmod (d - 1) := Int.tmod_nonneg _ ha.1
    have m4 : ac.tmod (d - 1) < d - 1 := Int.tmod_lt_of_pos _ oM
    refine aw_skip ?_
    refine xt_n ?_
    refine hK _ ?_
    clear hK K
    refine aw_seq_k fun K hK => ?_
    refine w_regionD (n' := 11) kR kR ?_
    refine aops_n hTT (M := []) (n := 25) [pv (175 : Nat) (V.sl (2 : Nat) (List.length l) fun (k : Nat) => [V.i (Prod.fst (gp l k)), V.i (Prod.snd (gp l k))]), pv (176 : Nat) (V.sl (1 : Nat) (List.length o) fun (k : Nat) => [V.i (gi o k)]), pv (177 : Nat) (V.ptr [V.i (Bl.per (landB b)), V.i (Bl.rim (landB b)), V.i (Bl.core (landB b)), V.i (Bl.land (landB b)), V.i (Bl.slow (landB b)), V.i (Bl.fast (landB b))]), pv (178 : Nat) (V.i (Bl.per (landB b))), pv (179 : Nat) (V.i (↑i : Int)), pv (180 : Nat) (V.ptr [V.i (Bl.per (landB b)), V.i (Bl.rim (landB b)), V.i (Bl.core (landB b)), V.i (Bl.land (landB b)), V.i (Bl.slow (landB b)), V.i (Bl.fast (landB b))]), pv (181 : Nat) (V.i (Bl.per (landB b))), pc (182 : Nat) (Bl.per (landB b) ≠ 0) (V.i (Int.tmod (↑i : Int) (Bl.per (landB b)))), pv (183 : Nat) (V.sl (1 : Nat) (List.length o) fun (k : Nat) => [V.i (gi o k)]), pv (184 : Nat) (V.i (↑i : Int)), pc (185 : Nat) ((0 : Int) ≤ (↑i : Int) ∧ (↑i : Int) < (↑(List.length o) : Int)) (V.ptr [V.i (gi o i)]), pv (186 : Nat) (V.i (gi o i)), pv (187 : Nat) (V.sl (2 : Nat) (List.length l) fun (k : Nat) => [V.i (Prod.fst (gp l k)), V.i (Prod.snd (gp l k))]), pv (188 : Nat) (V.i (↑i : Int)), pc (189 : Nat) ((0 : Int) ≤ (↑i : Int) ∧ (↑i : Int) < (↑(List.length l) : Int)) (V.ptr [V.i (Prod.fst (gp l i)), V.i (Prod.snd (gp l i))]), pv (190 : Nat) (V.ptr [V.i (Prod.snd (gp l i))]), pv (191 : Nat) (V.i (Prod.snd (gp l i))), pc (192 : Nat) ((-9223372036854775808 : Int) ≤ gi o i + Prod.snd (gp l i) ∧ gi o i + Prod.snd (gp l i) ≤ 9223372036854775807) (V.i (gi o i + Prod.snd (gp l i))), pc (193 : Nat) ((-9223372036854775808 : Int) ≤ gi o i + Prod.snd (gp l i) + 1 ∧ gi o i + Prod.snd (gp l i) + 1 ≤ (9223372036854775807 : Int)) (V.i (gi o i + Prod.snd (gp l i) + 1)), pv (194 : Nat) (V.c (Value.int IntKind.u16 ac)), pc (195 : Nat) ((-9223372036854775808 : Int) ≤ ac ∧ ac ≤ 9223372036854775807) (V.i ac), pv (196 : Nat) (V.i d), pc (197 : Nat) ((-9223372036854775808 : Int) ≤ d - 1 ∧ d - 1 ≤ (9223372036854775807 : Int)) (V.i (d - 1)), pc (198 : Nat) (d - 1 ≠ (0 : Int)) (V.i (Int.tmod ac (d - 1))), pc (199 : Nat) ((-9223372036854775808 : Int) ≤ gi o i + Prod.snd (gp l i) + 1 + Int.tmod ac (d - 1) ∧ gi o i + Prod.snd (gp l i) + 1 + Int.tmod ac (d - 1) ≤ 9223372036854775807) (V.i (gi o i + Prod.snd (gp l i) + 1 + Int.tmod ac (d - 1)))] kR kR ⟨oM, oM, oM, oM, oM, oM, oM, oM, oM, tI⟩ ?_
    obtain ⟨y, hy⟩ : ∃ y, y = gi o i + (gp l i).2 + 1 + ac.tmod (d - 1) := ⟨_, rfl⟩
    rw [← hy, hm0]
    refine e_call (first := []) (caps := []) (hdrop y) kR kR kR kR kR ?_
    rw [landed_no oM hWd hT hi hp oM oM]
    refine aops_n hTT (M := []) (n := 4) [pv (174 : Nat) (V.tup [V.i (0 : Int), V.i (5 : Int)]), pv (201 : Nat) (V.i (0 : Int)), pv (202 : Nat) (V.i (5 : Int)), pv (15 : Nat) (V.i (5 : Int))] kR kR tI ?_
    refine aops_nil ⟨kR, ?_⟩
    refine xt_n ?_
    refine hK _ ?_
    clear hK K
    refine aw_seq_k fun K hK => ?_
    refine w_region (n' := 12) kR kR ?_
    refine aops_n hTT (M := []) (n := 3) [pv (203 : Nat) (V.i (5 : Int)), pv (204 : Nat) (V.b true), pv (205 : Nat) (V.b true)] kR kR tI ?_
    refine e_callG 0 (g := true == true) (first := []) (caps := []) kR (fun h => works07_ac) kR kR kR kR kR kR ?_
    refine aops_n hTT (M := []) (n := 2) [pc (207 : Nat) ((true = true → (true == true) = true) ∧ True) (V.b true), pv (10 : Nat) (V.b true)] kR kR ⟨⟨(by (exact fun h => h)), tI⟩, tI⟩ ?_
    refine aops_nil ?_
    refine xt_n ?_
    refine hK _ ?_
    clear hK K
    refine aw_ret ?_
    refine ret_pure (v' := V.b true) (.inr rfl) kR kR kR
   ·
    refine aw_exit ?_
    refine xt_x ?_
    refine xt_x ?_
    refine xb_same ?_
    refine xt_n ?_
    clear hK K
    refine hK _ ?_
    clear hK K
    refine aw_seq_k fun K hK => ?_
    refine w_region (n' := 3) kR kR ?_
    refine aops_n hTT (M := []) (n := 2) [pv (64 : Nat) (V.agg [V.i (Bl.per (landB b)), V.i (Bl.rim (landB b)), V.i (Bl.core (landB b)), V.i (Bl.land (landB b)), V.i (Bl.slow (landB b)), V.i (Bl.fast (landB b))]), pv (65 : Nat) (V.sl (2 : Nat) (List.length l) fun (k : Nat) => [V.i (Prod.fst (gp l k)), V.i (Prod.snd (gp l k))])] kR kR tI ?_
    refine e_call (first := []) (caps := []) (Outer_no (landB b) l s1 ho) kR kR kR kR kR ?_
    refine aops_n hTT (M := []) (n := 5) [pv (63 : Nat) (V.tup [V.nil, V.i (15 : Int)]), pv (67 : Nat) V.nil, pv (68 : Nat) (V.i (15 : Int)), pv (14 : Nat) V.nil, pv (15 : Nat) (V.i (15 : Int))] kR kR tI ?_
    refine aops_nil ?_
    refine xt_n ?_
    refine hK _ ?_
    clear hK K
    refine aw_seq_k fun K hK => ?_
    refine aw_seq_k fun K hK => ?_
    refine w_region (n' := 4) kR kR ?_
    refine aops_n hTT (M := []) (n := 2) [pv (69 : Nat) (V.i (15 : Int)), pv (70 : Nat) (V.b true)] kR kR tI ?_
    refine aops_nil ?_
    refine xt_n ?_
    refine hK _ ?_
    clear hK K
    refine w_true (t := true) kR rfl ?_
    refine aw_seq_k fun K hK => ?_
    refine w_region (n' := 5) kR kR ?_
    refine aops_n hTT (M := []) (n := 3) [pv (71 : Nat) (V.i (15 : Int)), pv (72 : Nat) (V.b true), pv (73 : Nat) (V.b true)] kR kR tI ?_
    refine e_callG 0 (g := true == true) (first := []) (caps := []) kR (fun h => works07_ac) kR kR kR kR kR kR ?_
    refine aops_n hTT (M := []) (n := 2) [pc (75 : Nat) ((true = true → (true == true) = true) ∧ True) (V.b true), pv (10 : Nat) (V.b true)] kR kR ⟨⟨(by (exact fun h => h)), tI⟩, tI⟩ ?_
    refine aops_nil ?_
    refine xt_n ?_
    refine hK _ ?_
    clear hK K
    refine aw_ret ?_
    refine xt_r ?_
    refine ret_pure (v' := V.b true) (.inr rfl) kR kR kR
  ·
   refine aops_n hTT (M := []) (n := 5) [pv (25 : Nat) (V.tup [V.sl (2 : Nat) (List.length (Prod.fst (cutR c p))) fun (k : Nat) => [V.i (Prod.fst (gp (Prod.fst (cutR c p)) k)), V.i (Prod.snd (gp (Prod.fst (cutR c p)) k))], V.b (decide (Prod.snd (cutR c p) = 0))]), pv (30 : Nat) (V.sl (2 : Nat) (List.length (Prod.fst (cutR c p))) fun (k : Nat) => [V.i (Prod.fst (gp (Prod.fst (cutR c p)) k)), V.i (Prod.snd (gp (Prod.fst (cutR c p)) k))]), pv (31 : Nat) (V.b (decide (Prod.snd (cutR c p) = 0))), pv (11 : Nat) (V.sl (2 : Nat) (List.length (Prod.fst (cutR c p))) fun (k : Nat) => [V.i (Prod.fst (gp (Prod.fst (cutR c p)) k)), V.i (Prod.snd (gp (Prod.fst (cutR c p)) k))]), pv (12 : Nat) (V.b (decide (Prod.snd (cutR c p) = 0)))] kR kR tI ?_
   refine aops_nil ?_
   refine xt_n ?_
   refine hK _ ?_
   clear hK K
   refine aw_seq_k fun K hK => ?_
   refine aw_seq_k fun K hK => ?_
   refine w_region (n' := 5) kR kR ?_
   refine aops_n hTT (M := []) (n := 9) [pv (32 : Nat) (V.b (decide (Prod.snd (cutR c p) = 0))), pv (33 : Nat) (V.b !decide (Prod.snd (cutR c p) = 0)), pv (34 : Nat) (V.b !decide (Prod.snd (cutR c p) = 0)), pc (35 : Nat) ((True ∧ True) ∧ (((!decide (Prod.snd (cutR c p) = 0)) == false) = true → True)) (V.gd ((!decide (Prod.snd (cutR c p) = 0)) == false) (V.sl (2 : Nat) (List.length (Prod.fst (cutR c p))) fun (k : Nat) => [V.i (Prod.fst (gp (Prod.fst (cutR c p)) k)), V.i (Prod.snd (gp (Prod.fst (cutR c p)) k))])), pc (36 : Nat) (((((!decide (Prod.snd (cutR c p) = 0)) == false) = true → ((!decide (Prod.snd (cutR c p) = 0)) == false) = true) ∧ True) ∧ (((!decide (Prod.snd (cutR c p) = 0)) == false) = true → True)) (V.gd ((!decide (Prod.snd (cutR c p) = 0)) == false) (V.i (↑(List.length (Prod.fst (cutR c p))) : Int))), pc (37 : Nat) (((((!decide (Prod.snd (cutR c p) = 0)) == false) = true → ((!decide (Prod.snd (cutR c p) = 0)) == false) = true) ∧ True ∧ True) ∧ (((!decide (Prod.snd (cutR c p) = 0)) == false) = true → True)) (V.gd ((!decide (Prod.snd (cutR c p) = 0)) == false) (V.b (decide ((↑(List.length (Prod.fst (cutR c p))) : Int) = 0)))), pc (38 : Nat) (True ∧ ((!decide (Prod.snd (cutR c p) = 0)) = false → ((!decide (Prod.snd (cutR c p) = 0)) == false) = true)) (V.b (!decide (Prod.snd (cutR c p) = 0) || decide ((↑(List.length (Prod.fst (cutR c p))) : Int) = 0))), pv (39 : Nat) (V.b (!decide (Prod.snd (cutR c p) = 0) || decide ((↑(List.length (Prod.fst (cutR c p))) : Int) = 0))), pc (40 : Nat) ((True ∧ True) ∧ (((!decide (Prod.snd (cutR c p) = 0) || decide ((↑(List.length (Prod.fst (cutR c p))) : Int) = 0)) == false) = true → (0 : Nat) ≤ (6 : Nat))) (V.gd ((!decide (Prod.snd (cutR c p) = 0) || decide ((↑(List.length (Prod.fst (cutR c p))) : Int) = 0)) == false) (V.agg [V.i (Bl.per b), V.i (Bl.rim b), V.i (Bl.core b), V.i (max (1 : Int) (Bl.land b)), V.i (Bl.slow b), V.i (Bl.fast b)]))] kR kR ⟨⟨⟨tI, tI⟩, (fun _ => tI)⟩, ⟨⟨(by (exact fun h => h)), tI⟩, (fun _ => tI)⟩, ⟨⟨(by (exact fun h => h)), ⟨tI, tI⟩⟩, (fun _ => tI)⟩, ⟨tI, (by (intro h; rw [h]; rfl))⟩, ⟨⟨tI, tI⟩, (by (intro _; simp; done))⟩, tI⟩ ?_
   refine e_callG 1 (g := (!decide (Prod.snd (cutR c p) = 0) || decide ((↑(List.length (Prod.fst (cutR c p))) : Int) = 0)) == false) (first := []) (caps := []) kR (fun h => rCheck5_ac (landB b)) kR kR kR kR kR kR ?_
   refine aops_n hTT (M := []) (n := 2) [pc (42 : Nat) (((((!decide (Prod.snd (cutR c p) = 0) || decide ((↑(List.length (Prod.fst (cutR c p))) : Int) = 0)) == false) = true → ((!decide (Prod.snd (cutR c p) = 0) || decide ((↑(List.length (Prod.fst (cutR c p))) : Int) = 0)) == false) = true) ∧ True ∧ True) ∧ (((!decide (Prod.snd (cutR c p) = 0) || decide ((↑(List.length (Prod.fst (cutR c p))) : Int) = 0)) == false) = true → True)) (V.gd ((!decide (Prod.snd (cutR c p) = 0) || decide ((↑(List.length (Prod.fst (cutR c p))) : Int) = 0)) == false) (V.b !decide (blE (landB b) = 0))), pc (43 : Nat) (True ∧ ((!decide (Prod.snd (cutR c p) = 0) || decide ((↑(List.length (Prod.fst (cutR c p))) : Int) = 0)) = false → ((!decide (Prod.snd (cutR c p) = 0) || decide ((↑(List.length (Prod.fst (cutR c p))) : Int) = 0)) == false) = true)) (V.b (!decide (Prod.snd (cutR c p) = 0) || decide ((↑(List.length (Prod.fst (cutR c p))) : Int) = 0) || !decide (blE (landB b) = 0)))] kR kR ⟨⟨⟨(by (exact fun h => h)), ⟨tI, tI⟩⟩, (fun _ => tI)⟩, ⟨tI, (by (intro h; rw [h]; rfl))⟩, tI⟩ ?_
   refine aops_nil ?_
   refine xt_n ?_
   refine hK _ ?_
   clear hK K
   refine w_cond (t := !decide (Prod.snd (cutR c p) = 0) || decide ((↑(List.length (Prod.fst (cutR c p))) : Int) = 0) || !decide (blE (landB b) = 0)) kR (fun c1 => ?_) (fun c1 => ?_)
   ·
    refine aw_seq_k fun K hK => ?_
    refine w_region (n' := 6) kR kR ?_
    refine e_call (first := []) (caps := []) (works07_ac) kR kR kR kR kR ?_
    refine aops_n hTT (M := []) (n := 1) [pv (10 : Nat) (V.b true)] kR kR tI ?_
    refine aops_nil ?_
    refine xt_n ?_
    refine hK _ ?_
    clear hK K
    refine aw_ret ?_
    refine xt_r ?_
    refine ret_pure (v' := V.b true) (.inr rfl) kR kR kR
   ·
    exfalso
    simp at c1
    refine h1 ⟨c1.1.1, ?_⟩
    rcases Nat.eq_zero_or_pos p.length with h | h
    ·
     obtain rfl := List.eq_nil_of_length_eq_zero h
     refine absurd ?_ c1.1.2
     unfold cutR
     split
     ·
      split <;> rfl
     ·
      rfl
    ·
     exact h
 ·
  refine e_call (first := []) (caps := []) (cut_no c (landB b) p 40 oM) kR kR kR kR kR ?_
  refine aops_n hTT (M := []) (n := 5) [pv (25 : Nat) (V.tup [V.nil, V.b false]), pv (30 : Nat) V.nil, pv (31 : Nat) (V.b false), pv (11 : Nat) V.nil, pv (12 : Nat) (V.b false)] kR kR tI ?_
  refine aops_nil ?_
  refine xt_n ?_
  refine hK _ ?_
  clear hK K
  refine aw_seq_k fun K hK => ?_
  refine aw_seq_k fun K hK => ?_
  refine w_region (n' := 5) kR kR ?_
  refine aops_n hTT (M := []) (n := 9) [pv (32 : Nat) (V.b false), pv (33 : Nat) (V.b true), pv (34 : Nat) (V.b true), pc (35 : Nat) ((True ∧ True) ∧ ((true == false) = true → True)) (V.gd (true == false) V.nil), pc (36 : Nat) ((((true == false) = true → (true == false) = true) ∧ True) ∧ ((true == false) = true → True)) (V.gd (true == false) (V.i (0 : Int))), pc (37 : Nat) ((((true == false) = true → (true == false) = true) ∧ True ∧ True) ∧ ((true == false) = true → True)) (V.gd (true == false) (V.b true)), pc (38 : Nat) (True ∧ (true = false → (true == false) = true)) (V.b true), pv (39 : Nat) (V.b true), pc (40 : Nat) ((True ∧ True) ∧ ((true == false) = true → (0 : Nat) ≤ (6 : Nat))) (V.gd (true == false) (V.agg [V.i (Bl.per b), V.i (Bl.rim b), V.i (Bl.core b), V.i (max (1 : Int) (Bl.land b)), V.i (Bl.slow b), V.i (Bl.fast b)]))] kR kR ⟨⟨⟨tI, tI⟩, (fun _ => tI)⟩, ⟨⟨(by (exact fun h => h)), tI⟩, (fun _ => tI)⟩, ⟨⟨(by (exact fun h => h)), ⟨tI, tI⟩⟩, (fun _ => tI)⟩, ⟨tI, (by (intro h; simp at h; done))⟩, ⟨⟨tI, tI⟩, (by (intro _; simp; done))⟩, tI⟩ ?_
  refine e_callG 1 (g := true == false) (first := []) (caps := []) kR (fun h => rCheck5_ac (landB b)) kR kR kR kR kR kR ?_
  refine aops_n hTT (M := []) (n := 2) [pc (42 : Nat) ((((true == false) = true → (true == false) = true) ∧ True ∧ True) ∧ ((true == false) = true → True)) (V.gd (true == false) (V.b !decide (blE (landB b) = 0))), pc (43 : Nat) (True ∧ (true = false → (true == false) = true)) (V.b true)] kR kR ⟨⟨⟨(by (exact fun h => h)), ⟨tI, tI⟩⟩, (fun _ => tI)⟩, ⟨tI, (by (intro h; simp at h; done))⟩, tI⟩ ?_
  refine aops_nil ?_
  refine xt_n ?_
  refine hK _ ?_
  clear hK K
  refine w_true (t := true) kR rfl ?_
  refine aw_seq_k fun K hK => ?_
  refine w_region (n' := 6) kR kR ?_
  refine e_call (first := []) (caps := []) (works07_ac) kR kR kR kR kR ?_
  refine aops_n hTT (M := []) (n := 1) [pv (10 : Nat) (V.b true)] kR kR tI ?_
  refine aops_nil ?_
  refine xt_n ?_
  refine hK _ ?_
  clear hK K
  refine aw_ret ?_
  refine xt_r ?_
  refine ret_pure (v' := V.b true) (.inr rfl) kR kR kR
def landedSh : List Sh := [(.sl (.fld (.int .i64) (.lst (.int .i64)))), (.fld (.int .i64) (.fld (.int .i64) (.fld (.int .i64) (.fld (.int .i64) (.fld (.int .i64) (.fld (.int .i64) (.lst (.int .i64)))))))), (.fld (.int .i64) (.fld (.int .i64) (.fld (.int .i64) (.fld (.int .i64) (.fld (.int .i64) (.lst (.int .i64))))))), (.int .u8), (.int .u16)]
theorem landed_all (x : TL landedSh) (hx : wfL landedSh x) : AC Tryz.prog 3 (valL landedSh x) (V.b true) [] := by
 obtain ⟨p, ⟨h, g, th, wi, sl, je, sty⟩, ⟨b1, b2, b3, b4, b5, b6⟩, w, a, _⟩ := x
 obtain ⟨⟨h4, h5⟩, _, _, hw, ha, _⟩ := hx
 exact landed_law p ⟨h, g, th, wi, sl, je, sty⟩ ⟨b1, b2, b3, b4, b5, b6⟩ w a h4 (wf_ptsT h5) (wf_u8 hw) (wf_u16 ha)
end Go.Proofs.YtlldpkkcbheenaaGreatDoor

namespace Go.Proofs.YtlldpkkcbheenaaGreatDoor
open Go.Ab Go.RowKit Go.Dw Go.Shelf Go.ChangeShapes Go.WideShapes Go.ChangeAt Go.Deep
def growsLaid : List (String × DataW Unit) := [("unicode/utf8.acceptRanges", Rows.laid_unicode_utf8_acceptRanges), ("unicode/utf8.first", Rows.laid_unicode_utf8_first)]
theorem gl_of_laid {W : World} (h : laidMetH Tryz.prog growsLaid W) (g : Nat) : R W (fun b => b < W.heap.size) ρ0 (gvals g) (gval g) := .any _ _
theorem lay_met (os : Os) (args : Array Value) : laidMetH Tryz.prog growsLaid ((World.laidAll Tryz.prog os growsLaid).forCall (fun _ _ => 0) ⟨#[], args, []⟩).memory := by
 rw [MakeChecks.laidMetH_plain _ _ _ kR]; exact laidMet_laidAll _ kR kR
end Go.Proofs.YtlldpkkcbheenaaGreatDoor
