/-
  Several texts in one: Arguments of the top's laws. No condition. .. The listed variables of the top: they are never read; the start that meets the condition.
-/
import Derived.Test.YtepkjobndmmejaaGreatDoorTie
import Derived.Test.YtepkjobndmmejaaGreatDoorCards
import Derived.ProofKit
import Derived.LaidMore
import Derived.Lay
import Derived.OpenShut
import Derived.Stop.Joined
import Derived.SevenTiedAt
import Derived.Test.YtepkjobndmmejaaGreatDoorX06
import Derived.Test.YtepkjobndmmejaaGreatDoorMC
import Derived.Test.YtepkjobndmmejaaGreatDoorX08
import Derived.Test.YtepkjobndmmejaaGreatDoorX11
import Derived.Test.YtepkjobndmmejaaGreatDoorX05
namespace Go.Proofs.YtepkjobndmmejaaGreatDoor
open Go.Ab Go.RowKit Go.Dw Go.Shelf
theorem wf_ptsT {l : List Pt} (h : ∀ x ∈ l, Sh.wf (.fld (.int .i64) (.lst (.int .i64))) x) : ∀ k, k < l.length → inR2 (gp l k) := fun k hk => by
 have : gp l k = l[k] := by simp [gp, List.getD_eq_getElem?_getD, List.getElem?_eq_getElem hk]
 rw [this]
 obtain ⟨h1, h2⟩ := h _ (List.getElem_mem hk)
 have q1 := wf_i64 h1
 have q2 := wf_i64 h2
 exact ⟨by simp only [inR]; omega, by simp only [inR]; omega⟩
end Go.Proofs.YtepkjobndmmejaaGreatDoor

namespace Go.Proofs.YtepkjobndmmejaaGreatDoor
open Go.Ab Go.RowKit Go.Dw Go.Shelf
theorem blunt_zero {t : List Int} (h : checkTip t = 0) : bluntB t [0] = true := by
 obtain ⟨h1, _, h2, _⟩ := checkTip_ok h
 refine bluntB_iff.2 ⟨by simp; omega, fun k hk => ?_⟩
 have : k = 0 := by simpa using hk
 subst this
 rw [h2]; decide
theorem tip_zero : checkTip [0] = 0 := by decide +kernel
theorem hb_chan {c : Cut} {p : Pt} (hc : cutE c = 0) (hp : sE p = true) {h : Hd} (h1 : h.1 ≤ (wallP c p).1) (h2 : (wallP c p).1 ≤ h.2.1) (h3 : h.2.2.1 ≤ (wallP c p).2) (h4 : (wallP c p).2 ≤ h.2.2.2) :
  ∃ F G : Fs, F.ok c c.half h.2.2.1 h.2.2.2 ∧ G.ok c (-c.half) h.1 h.2.1 ∧ (F.F ≤ p.1 ∧ p.1 < F.G) ∧ (G.F ≤ p.2 ∧ p.2 < G.G) ∧ AC Tryz.prog 13 [c.v, .agg [.i h.1, .i h.2.1, .i h.2.2.1, .i h.2.2.2]] (.tup [.agg [.i F.F, .i (F.G - 1)], .agg [.i G.F, .i (G.G - 1)], .i 0]) [] := by
 have sb := sE_iff.1 hp
 obtain ⟨F, hF⟩ := fs_exists c hc c.half h.2.2.1 h.2.2.2
 obtain ⟨G, hG⟩ := fs_exists c hc (-c.half) h.1 h.2.1
 simp only [wallP] at h1 h2 h3 h4
 have fF := fs_in hF sb.1 (by rw [edge_chE]; omega) (by rw [edge_chE]; omega)
 have fG := fs_in hG sb.2 (by rw [edge_chE]; omega) (by rw [edge_chE]; omega)
 have A := Channels_ac c h.1 h.2.1 h.2.2.1 h.2.2.2 F G (fun _ => ⟨hF, hG⟩)
 rw [chanV_4 hc oM (by simp [isB]; omega)] at A
 exact ⟨F, G, hF, hG, fF, fG, A⟩
def hbW (t : List Int) (l : List Pt) (r k : Nat) : Hd := hearAt (readP t l) l l.length r k
def hbJ (l : List Pt) (k : Nat) : Hd := hearAt l l l.length 1 k
theorem eFWHBack {x : Bool} (h : x = false) : (x == false) = true := by rw [h]; rfl
abbrev wckB0 (F : Fs) (F' : Fs) : Bool := decide (Fs.F F' < Fs.F F) == false
abbrev wckB1 (F : Fs) (k : Nat) (p : List Pt) : Bool := decide (Prod.fst (gp p k) < Fs.F F) == false
abbrev wckB2 (p : List Pt) : Bool := decide ((30 : Int) < (↑(List.length p) : Int)) == false
abbrev wckB3 (c : Cut) (p : List Pt) : Bool := decide ((30 : Int) < (↑(List.length p) : Int)) || !decide (cutE c = 0)
abbrev wckB4 (F : Fs) (F' : Fs) : Bool := decide (Fs.F F' < Fs.F F) || decide (Fs.G F - 1 < Fs.G F' - 1)
abbrev wckB5 (F' : Fs) (G' : Fs) : Bool := !decide (Fs.F F' = Fs.G F' - 1) || !decide (Fs.F G' = Fs.G G' - 1)
abbrev wckB6 (F : Fs) (k : Nat) (p : List Pt) : Bool := decide (Prod.fst (gp p k) < Fs.F F) || decide (Fs.G F - 1 < Prod.fst (gp p k))
abbrev wckB7 (c : Cut) (p : List Pt) : Bool := (!decide ((↑(List.length (List.map (wallP c) p)) : Int) = (↑(List.length p) : Int))) == false
abbrev wckB8 (F : Fs) (F' : Fs) (G : Fs) (G' : Fs) : Bool := decide (Fs.F F' < Fs.F F) || decide (Fs.G F - 1 < Fs.G F' - 1) || decide (Fs.F G' < Fs.F G)
abbrev wckB9 (c : Cut) (p : List Pt) : Bool := decide ((30 : Int) < (↑(List.length p) : Int)) || !decide (cutE c = 0) || !decide (sChk p = 0)
abbrev wckB10 (F : Fs) (G : Fs) (k : Nat) (p : List Pt) : Bool := decide (Prod.fst (gp p k) < Fs.F F) || decide (Fs.G F - 1 < Prod.fst (gp p k)) || decide (Prod.snd (gp p k) < Fs.F G)
abbrev wckB11 (F : Fs) (F' : Fs) (G : Fs) (G' : Fs) : Bool := decide (Fs.F F' < Fs.F F) || decide (Fs.G F - 1 < Fs.G F' - 1) || decide (Fs.F G' < Fs.F G) || decide (Fs.G G - 1 < Fs.G G' - 1)
abbrev wckB12 (F : Fs) (F' : Fs) (G : Fs) (G' : Fs) (c : Cut) : Bool := (wckB11 F F' G G') == false && decide ((1000 : Int) ≤ Cut.gain c) == true
abbrev wckB13 (F : Fs) (F' : Fs) (G : Fs) (G' : Fs) (c : Cut) : Bool := (wckB11 F F' G G') == false && decide ((1000 : Int) ≤ Cut.gain c) == true && (!decide (Fs.F F' = Fs.G F' - 1)) == false
abbrev wckB14 (c : Cut) (p : List Pt) : Bool := !decide ((↑(List.length (List.map (wallP c) p)) : Int) = (↑(List.length p) : Int)) || !decide ((↑(List.length (List.map (wallP c) p)) : Int) = (↑(List.length p) : Int))
abbrev wckB15 (F : Fs) (G : Fs) (k : Nat) (p : List Pt) : Bool := decide (Prod.fst (gp p k) < Fs.F F) || decide (Fs.G F - 1 < Prod.fst (gp p k)) || decide (Prod.snd (gp p k) < Fs.F G) || decide (Fs.G G - 1 < Prod.snd (gp p k))
abbrev wckB16 (F : Fs) (F' : Fs) (G : Fs) (k : Nat) (p : List Pt) : Bool := decide (Prod.fst (gp p k) < Fs.F F) || decide (Fs.G F - 1 < Prod.fst (gp p k)) || decide (Prod.snd (gp p k) < Fs.F G) || decide (Fs.G G - 1 < Prod.snd (gp p k)) || decide (Prod.fst (gp p k) < Fs.F F')
abbrev wckB17 (F : Fs) (F' : Fs) (G : Fs) (k : Nat) (p : List Pt) : Bool := decide (Prod.fst (gp p k) < Fs.F F) || decide (Fs.G F - 1 < Prod.fst (gp p k)) || decide (Prod.snd (gp p k) < Fs.F G) || decide (Fs.G G - 1 < Prod.snd (gp p k)) || decide (Prod.fst (gp p k) < Fs.F F') || decide (Fs.G F' - 1 < Prod.fst (gp p k))
abbrev wckB18 (F : Fs) (F' : Fs) (G : Fs) (G' : Fs) (k : Nat) (p : List Pt) : Bool := decide (Prod.fst (gp p k) < Fs.F F) || decide (Fs.G F - 1 < Prod.fst (gp p k)) || decide (Prod.snd (gp p k) < Fs.F G) || decide (Fs.G G - 1 < Prod.snd (gp p k)) || decide (Prod.fst (gp p k) < Fs.F F') || decide (Fs.G F' - 1 < Prod.fst (gp p k)) || decide (Prod.snd (gp p k) < Fs.F G')
abbrev wckB19 (F : Fs) (F' : Fs) (G : Fs) (G' : Fs) (k : Nat) (p : List Pt) : Bool := (wckB18 F F' G G' k p) == false
set_option maxRecDepth 100000 in
theorem hback_law (p : List Pt) (c : Cut) (t : List Int) (wow : Int) (hl : p.length ≤ 4611686018427387904) (hr : ∀ k, k < p.length → inR2 (gp p k)) (ht : t.length ≤ 4611686018427387904) (hw : 0 ≤ wow ∧ wow ≤ 255) : AC Tryz.prog 3 [V.pts p, c.v, .agg [V.ints t], .c (.int .u8 wow)] (.b true) [] := by
 refine ac_intro hTT hMX (fn := Tryz.f3) (N := _) ⟨Tryz.func3, rfl, Tryz.ntmps3, kR⟩ (by simp) fun C hC hF => ?_
 refine aw_seq_k fun K hK => ?_
 refine w_region (n' := 2) kR kR ?_
 refine aops_n hTT (M := []) (n := 3) [pv (5 : Nat) (V.ptr [V.i (Cut.half c), V.i (Cut.gain c), V.i (Cut.thin c), V.i (Cut.wide c), V.i (Cut.slope c), V.i (Cut.jerk c), V.i (Cut.sty c)]), pv (6 : Nat) (V.ptr [V.sl (1 : Nat) (List.length t) fun (k : Nat) => [V.i (gi t k)]]), pv (8 : Nat) (V.b false)] kR kR tI ?_
 refine aops_nil ?_
 refine xt_n ?_
 refine hK _ ?_
 clear hK K
 refine aw_seq_k fun K hK => ?_
 refine aw_seq_k fun K hK => ?_
 refine w_region (n' := 3) kR kR ?_
 refine aops_n hTT (M := []) (n := 5) [pv (23 : Nat) (V.sl (2 : Nat) (List.length p) fun (k : Nat) => [V.i (Prod.fst (gp p k)), V.i (Prod.snd (gp p k))]), pv (24 : Nat) (V.i (↑(List.length p) : Int)), pv (25 : Nat) (V.b (decide ((30 : Int) < (↑(List.length p) : Int)))), pv (26 : Nat) (V.b (decide ((30 : Int) < (↑(List.length p) : Int)))), pc (27 : Nat) ((True ∧ True) ∧ ((wckB2 p) = true → True)) (V.gd (wckB2 p) (V.agg [V.i (Cut.half c), V.i (Cut.gain c), V.i (Cut.thin c), V.i (Cut.wide c), V.i (Cut.slope c), V.i (Cut.jerk c), V.i (Cut.sty c)]))] kR kR ⟨⟨⟨tI, tI⟩, (fun _ => tI)⟩, tI⟩ ?_
 refine e_callG 1 (g := decide ((30 : Int) < (↑(List.length p) : Int)) == false) (first := []) (caps := []) kR (fun h => refCheck_ac c) kR kR kR kR kR kR ?_
 refine aops_n hTT (M := []) (n := 4) [pc (29 : Nat) ((((wckB2 p) = true → (wckB2 p) = true) ∧ True ∧ True) ∧ ((wckB2 p) = true → True)) (V.gd (wckB2 p) (V.b !decide (cutE c = 0))), pc (30 : Nat) (True ∧ (decide ((30 : Int) < (↑(List.length p) : Int)) = false → (wckB2 p) = true)) (V.b (wckB3 c p)), pv (31 : Nat) (V.b (wckB3 c p)), pc (32 : Nat) ((True ∧ True) ∧ (((wckB3 c p) == false) = true → True)) (V.gd ((wckB3 c p) == false) (V.sl (2 : Nat) (List.length p) fun (k : Nat) => [V.i (Prod.fst (gp p k)), V.i (Prod.snd (gp p k))]))] kR kR ⟨⟨⟨(by (exact fun h => h)), ⟨tI, tI⟩⟩, (fun _ => tI)⟩, ⟨tI, eFWHBack⟩, ⟨⟨tI, tI⟩, (fun _ => tI)⟩, tI⟩ ?_
 refine e_callG 1 (g := (decide ((30 : Int) < (↑(List.length p) : Int)) || !decide (cutE c = 0)) == false) (first := []) (caps := []) kR (fun h => rCheckSamples_ac p hl hr) kR kR kR kR kR kR ?_
 refine aops_n hTT (M := []) (n := 4) [pc (34 : Nat) (((((wckB3 c p) == false) = true → ((wckB3 c p) == false) = true) ∧ True ∧ True) ∧ (((wckB3 c p) == false) = true → True)) (V.gd ((wckB3 c p) == false) (V.b !decide (sChk p = 0))), pc (35 : Nat) (True ∧ ((wckB3 c p) = false → ((wckB3 c p) == false) = true)) (V.b (wckB9 c p)), pv (36 : Nat) (V.b (wckB9 c p)), pc (37 : Nat) ((True ∧ True) ∧ (((wckB9 c p) == false) = true → True)) (V.gd ((wckB9 c p) == false) (V.agg [V.sl (1 : Nat) (List.length t) fun (k : Nat) => [V.i (gi t k)]]))] kR kR ⟨⟨⟨(by (exact fun h => h)), ⟨tI, tI⟩⟩, (fun _ => tI)⟩, ⟨tI, eFWHBack⟩, ⟨⟨tI, tI⟩, (fun _ => tI)⟩, tI⟩ ?_
 refine e_callG 1 (g := (decide ((30 : Int) < (↑(List.length p) : Int)) || !decide (cutE c = 0) || !decide (sChk p = 0)) == false) (first := []) (caps := []) kR (fun h => refCheckTip_ac t ht) kR kR kR kR kR kR ?_
 refine aops_n hTT (M := []) (n := 2) [pc (39 : Nat) (((((wckB9 c p) == false) = true → ((wckB9 c p) == false) = true) ∧ True ∧ True) ∧ (((wckB9 c p) == false) = true → True)) (V.gd ((wckB9 c p) == false) (V.b !decide (checkTip t = 0))), pc (40 : Nat) (True ∧ ((wckB9 c p) = false → ((wckB9 c p) == false) = true)) (V.b (decide ((30 : Int) < (↑(List.length p) : Int)) || !decide (cutE c = 0) || !decide (sChk p = 0) || !decide (checkTip t = 0)))] kR kR ⟨⟨⟨(by (exact fun h => h)), ⟨tI, tI⟩⟩, (fun _ => tI)⟩, ⟨tI, eFWHBack⟩, tI⟩ ?_
 refine aops_nil ?_
 refine xt_n ?_
 refine hK _ ?_
 clear hK K
 refine w_cond (t := decide ((30 : Int) < (↑(List.length p) : Int)) || !decide (cutE c = 0) || !decide (sChk p = 0) || !decide (checkTip t = 0)) kR (fun c1 => ?_) (fun c1 => ?_)
 ·
  refine aw_seq_k fun K hK => ?_
  refine w_region (n' := 4) kR kR ?_
  refine e_call (first := []) (caps := []) (works06_ac) kR kR kR kR kR ?_
  refine aops_n hTT (M := []) (n := 1) [pv (8 : Nat) (V.b true)] kR kR tI ?_
  refine aops_nil ?_
  refine xt_n ?_
  refine hK _ ?_
  clear hK K
  refine aw_ret ?_
  refine xt_r ?_
  refine ret_pure (v' := V.b true) (.inr rfl) kR kR kR
 simp at c1
 obtain ⟨⟨⟨n1, n2⟩, n3⟩, n4⟩ := c1
 have hs := sChkA_ok.1 n3
 have hpts := wall_pts n2 n3
 have hlen : (p.map (wallP c)).length = p.length := by simp
 have hw2 : 0 ≤ wow.tmod 21 ∧ wow.tmod 21 ≤ 20 := by rw [Int.tmod_eq_emod_of_nonneg hw.1]; omega
 refine aw_skip ?_
 refine xt_n ?_
 refine hK _ ?_
 clear hK K
 refine aw_seq_k fun K hK => ?_
 refine w_region (n' := 4) kR kR ?_
 refine aops_n hTT (M := []) (n := 4) [pv (42 : Nat) (V.sl (1 : Nat) (1 : Nat) fun (i : Nat) => List.take (1 : Nat) (List.drop (i * 1) [V.i (0 : Int)])), pv (43 : Nat) (V.agg [V.sl (1 : Nat) (1 : Nat) fun (i : Nat) => List.take (1 : Nat) (List.drop (i * 1) [V.i (0 : Int)])]), pn (9 : Nat) (V.ref (300009 : Nat) (0 : Nat)) (300009 : Nat) (Ob.box (27 : Nat) [V.nil]), pw ((0 : Nat) + (1 : Nat) ≤ (1 : Nat)) (300009 : Nat) (Ob.box (27 : Nat) [V.sl (1 : Nat) (1 : Nat) fun (i : Nat) => List.take (1 : Nat) (List.drop (i * 1) [V.i (0 : Int)])])] kR kR ⟨oM, tI⟩ ?_
 refine aops_nil ?_
 refine xt_n ?_
 refine hK _ ?_
 clear hK K
 refine aw_seq_k fun K hK => ?_
 refine w_region (n' := 5) kR kR ?_
 refine aops_n hTT (M := []) (n := 2) [pv (45 : Nat) (V.agg [V.i (Cut.half c), V.i (Cut.gain c), V.i (Cut.thin c), V.i (Cut.wide c), V.i (Cut.slope c), V.i (Cut.jerk c), V.i (Cut.sty c)]), pv (46 : Nat) (V.sl (2 : Nat) (List.length p) fun (k : Nat) => [V.i (Prod.fst (gp p k)), V.i (Prod.snd (gp p k))])] kR kR tI ?_
 refine e_call (first := []) (caps := []) (Cut_ac c p hl) kR kR kR kR kR ?_
 rw [cutR, if_pos n2, if_pos n3]
 refine aops_n hTT (M := []) (n := 5) [pv (44 : Nat) (V.tup [V.sl (2 : Nat) (List.length (List.map (wallP c) p)) fun (k : Nat) => [V.i (Prod.fst (gp (List.map (wallP c) p) k)), V.i (Prod.snd (gp (List.map (wallP c) p) k))], V.i (0 : Int)]), pv (48 : Nat) (V.sl (2 : Nat) (List.length (List.map (wallP c) p)) fun (k : Nat) => [V.i (Prod.fst (gp (List.map (wallP c) p) k)), V.i (Prod.snd (gp (List.map (wallP c) p) k))]), pv (49 : Nat) (V.i (0 : Int)), pv (10 : Nat) (V.sl (2 : Nat) (List.length (List.map (wallP c) p)) fun (k : Nat) => [V.i (Prod.fst (gp (List.map (wallP c) p) k)), V.i (Prod.snd (gp (List.map (wallP c) p) k))]), pv (11 : Nat) (V.i (0 : Int))] kR kR tI ?_
 refine aops_nil ?_
 refine xt_n ?_
 refine hK _ ?_
 clear hK K
 refine aw_seq_k fun K hK => ?_
 refine w_region (n' := 6) kR kR ?_
 refine aops_n hTT (M := []) (n := 6) [pv (51 : Nat) (V.agg [V.sl (1 : Nat) (List.length t) fun (k : Nat) => [V.i (gi t k)]]), pc (52 : Nat) ((0 : Nat) ≤ (1 : Nat)) (V.agg [V.sl (1 : Nat) (1 : Nat) fun (i : Nat) => List.take (1 : Nat) (List.drop (i * 1) [V.i (0 : Int)])]), pv (53 : Nat) (V.sl (2 : Nat) (List.length (List.map (wallP c) p)) fun (k : Nat) => [V.i (Prod.fst (gp (List.map (wallP c) p) k)), V.i (Prod.snd (gp (List.map (wallP c) p) k))]), pv (54 : Nat) (V.c (Value.int IntKind.u8 wow)), pc (55 : Nat) ((-9223372036854775808 : Int) ≤ wow ∧ wow ≤ 9223372036854775807) (V.i wow), pc (56 : Nat) ((21 : Int) ≠ (0 : Int)) (V.i (Int.tmod wow (21 : Int)))] kR kR ⟨oM, oM, oM, tI⟩ ?_
 have A := Hear_ac t [0] (p.map (wallP c)) (wow.tmod 21) ht (by decide) oM
 have B := Hear_ac [0] [0] (p.map (wallP c)) 0 (by decide) (by decide) oM
 have eA : hearE t [0] (p.map (wallP c)) (wow.tmod 21) = 0 := hearE_5 n4 (checkBoth_of tip_zero hpts) (blunt_zero n4) oM
 have eB : hearE [0] [0] (p.map (wallP c)) 0 = 0 := hearE_5 tip_zero (checkBoth_of tip_zero hpts) (blunt_zero tip_zero) oM
 rw [hearV, hearNn, if_pos eA, eA, read_zero] at A
 rw [hearV, hearNn, if_pos eB, eB, read_zero] at B
 skip
 refine e_call (first := []) (caps := []) (AC.conv (A) (args' := [V.agg [V.sl (1 : Nat) (List.length t) fun (k : Nat) => [V.i (gi t k)]], V.agg [V.sl (1 : Nat) (1 : Nat) fun (i : Nat) => List.take (1 : Nat) (List.drop (i * 1) [V.i (0 : Int)])], V.sl (2 : Nat) (List.length (List.map (wallP c) p)) fun (k : Nat) => [V.i (Prod.fst (gp (List.map (wallP c) p) k)), V.i (Prod.snd (gp (List.map (wallP c) p) k))], V.i (Int.tmod wow (21 : Int))]) ⟨RImp.refl _, ?_, RImp.refl _, RImp.refl _, trivial⟩) kR kR kR kR kR ?_
 ·
  exact RImp.agg ⟨RImp.lit1 [0], trivial⟩
 refine aops_n hTT (M := []) (n := 5) [pv (50 : Nat) (V.tup [V.sl (4 : Nat) (List.length (List.map (wallP c) p)) fun (k : Nat) => vhd (hearAt (readP t (List.map (wallP c) p)) (List.map (wallP c) p) (List.length (List.map (wallP c) p)) (Int.toNat (Int.tmod wow (21 : Int)) + 1) k), V.i (0 : Int)]), pv (58 : Nat) (V.sl (4 : Nat) (List.length (List.map (wallP c) p)) fun (k : Nat) => vhd (hearAt (readP t (List.map (wallP c) p)) (List.map (wallP c) p) (List.length (List.map (wallP c) p)) (Int.toNat (Int.tmod wow (21 : Int)) + 1) k)), pv (59 : Nat) (V.i (0 : Int)), pv (12 : Nat) (V.sl (4 : Nat) (List.length (List.map (wallP c) p)) fun (k : Nat) => vhd (hearAt (readP t (List.map (wallP c) p)) (List.map (wallP c) p) (List.length (List.map (wallP c) p)) (Int.toNat (Int.tmod wow (21 : Int)) + 1) k)), pv (13 : Nat) (V.i (0 : Int))] kR kR tI ?_
 refine aops_nil ?_
 refine xt_n ?_
 refine hK _ ?_
 clear hK K
 refine aw_seq_k fun K hK => ?_
 refine w_region (n' := 7) kR kR ?_
 refine aops_n hTT (M := []) (n := 3) [pc (61 : Nat) ((0 : Nat) ≤ (1 : Nat)) (V.agg [V.sl (1 : Nat) (1 : Nat) fun (i : Nat) => List.take (1 : Nat) (List.drop (i * 1) [V.i (0 : Int)])]), pc (62 : Nat) ((0 : Nat) ≤ (1 : Nat)) (V.agg [V.sl (1 : Nat) (1 : Nat) fun (i : Nat) => List.take (1 : Nat) (List.drop (i * 1) [V.i (0 : Int)])]), pv (63 : Nat) (V.sl (2 : Nat) (List.length (List.map (wallP c) p)) fun (k : Nat) => [V.i (Prod.fst (gp (List.map (wallP c) p) k)), V.i (Prod.snd (gp (List.map (wallP c) p) k))])] kR kR ⟨oM, oM, tI⟩ ?_
 refine e_call (first := []) (caps := []) (AC.conv (B) (args' := [V.agg [V.sl (1 : Nat) (1 : Nat) fun (i : Nat) => List.take (1 : Nat) (List.drop (i * 1) [V.i (0 : Int)])], V.agg [V.sl (1 : Nat) (1 : Nat) fun (i : Nat) => List.take (1 : Nat) (List.drop (i * 1) [V.i (0 : Int)])], V.sl (2 : Nat) (List.length (List.map (wallP c) p)) fun (k : Nat) => [V.i (Prod.fst (gp (List.map (wallP c) p) k)), V.i (Prod.snd (gp (List.map (wallP c) p) k))], V.i (0 : Int)]) ⟨?_, ?_, RImp.refl _, RImp.refl _, trivial⟩) kR kR kR kR kR ?_
 ·
  exact RImp.agg ⟨RImp.lit1 [0], trivial⟩
 ·
  exact RImp.agg ⟨RImp.lit1 [0], trivial⟩
 refine aops_n hTT (M := []) (n := 5) [pv (60 : Nat) (V.tup [V.sl (4 : Nat) (List.length (List.map (wallP c) p)) fun (k : Nat) => vhd (hearAt (List.map (wallP c) p) (List.map (wallP c) p) (List.length (List.map (wallP c) p)) ((0 : Nat) + (1 : Nat)) k), V.i (0 : Int)]), pv (65 : Nat) (V.sl (4 : Nat) (List.length (List.map (wallP c) p)) fun (k : Nat) => vhd (hearAt (List.map (wallP c) p) (List.map (wallP c) p) (List.length (List.map (wallP c) p)) ((0 : Nat) + (1 : Nat)) k)), pv (66 : Nat) (V.i (0 : Int)), pv (14 : Nat) (V.sl (4 : Nat) (List.length (List.map (wallP c) p)) fun (k : Nat) => vhd (hearAt (List.map (wallP c) p) (List.map (wallP c) p) (List.length (List.map (wallP c) p)) ((0 : Nat) + (1 : Nat)) k)), pv (15 : Nat) (V.i (0 : Int))] kR kR tI ?_
 refine aops_nil ?_
 refine xt_n ?_
 refine hK _ ?_
 clear hK K
 refine aw_seq_k fun K hK => ?_
 refine aw_seq_k fun K hK => ?_
 refine w_region (n' := 8) kR kR ?_
 refine aops_n hTT (M := []) (n := 31) [pv (67 : Nat) (V.i (0 : Int)), pv (68 : Nat) (V.b false), pv (69 : Nat) (V.b false), pc (70 : Nat) ((True ∧ True) ∧ ((false == false) = true → True)) (V.gd (false == false) (V.i (0 : Int))), pc (71 : Nat) ((((false == false) = true → (false == false) = true) ∧ True ∧ True) ∧ ((false == false) = true → True)) (V.gd (false == false) (V.b false)), pc (72 : Nat) (True ∧ (false = false → (false == false) = true)) (V.b false), pv (73 : Nat) (V.b false), pc (74 : Nat) ((True ∧ True) ∧ ((false == false) = true → True)) (V.gd (false == false) (V.i (0 : Int))), pc (75 : Nat) ((((false == false) = true → (false == false) = true) ∧ True ∧ True) ∧ ((false == false) = true → True)) (V.gd (false == false) (V.b false)), pc (76 : Nat) (True ∧ (false = false → (false == false) = true)) (V.b false), pv (77 : Nat) (V.b false), pc (78 : Nat) ((True ∧ True) ∧ ((false == false) = true → True)) (V.gd (false == false) (V.sl (2 : Nat) (List.length (List.map (wallP c) p)) fun (k : Nat) => [V.i (Prod.fst (gp (List.map (wallP c) p) k)), V.i (Prod.snd (gp (List.map (wallP c) p) k))])), pc (79 : Nat) ((((false == false) = true → (false == false) = true) ∧ True) ∧ ((false == false) = true → True)) (V.gd (false == false) (V.i (↑(List.length (List.map (wallP c) p)) : Int))), pc (80 : Nat) ((True ∧ True) ∧ ((false == false) = true → True)) (V.gd (false == false) (V.sl (2 : Nat) (List.length p) fun (k : Nat) => [V.i (Prod.fst (gp p k)), V.i (Prod.snd (gp p k))])), pc (81 : Nat) ((((false == false) = true → (false == false) = true) ∧ True) ∧ ((false == false) = true → True)) (V.gd (false == false) (V.i (↑(List.length p) : Int))), pc (82 : Nat) ((((false == false) = true → (false == false) = true) ∧ ((false == false) = true → (false == false) = true) ∧ True) ∧ ((false == false) = true → True)) (V.gd (false == false) (V.b !decide ((↑(List.length (List.map (wallP c) p)) : Int) = (↑(List.length p) : Int)))), pc (83 : Nat) (True ∧ (false = false → (false == false) = true)) (V.b !decide ((↑(List.length (List.map (wallP c) p)) : Int) = (↑(List.length p) : Int))), pv (84 : Nat) (V.b !decide ((↑(List.length (List.map (wallP c) p)) : Int) = (↑(List.length p) : Int))), pc (85 : Nat) ((True ∧ True) ∧ ((wckB7 c p) = true → True)) (V.gd (wckB7 c p) (V.sl (4 : Nat) (List.length (List.map (wallP c) p)) fun (k : Nat) => vhd (hearAt (readP t (List.map (wallP c) p)) (List.map (wallP c) p) (List.length (List.map (wallP c) p)) (Int.toNat (Int.tmod wow (21 : Int)) + 1) k))), pc (86 : Nat) ((((wckB7 c p) = true → (wckB7 c p) = true) ∧ True) ∧ ((wckB7 c p) = true → True)) (V.gd (wckB7 c p) (V.i (↑(List.length (List.map (wallP c) p)) : Int))), pc (87 : Nat) ((True ∧ True) ∧ ((wckB7 c p) = true → True)) (V.gd (wckB7 c p) (V.sl (2 : Nat) (List.length p) fun (k : Nat) => [V.i (Prod.fst (gp p k)), V.i (Prod.snd (gp p k))])), pc (88 : Nat) ((((wckB7 c p) = true → (wckB7 c p) = true) ∧ True) ∧ ((wckB7 c p) = true → True)) (V.gd (wckB7 c p) (V.i (↑(List.length p) : Int))), pc (89 : Nat) ((((wckB7 c p) = true → (wckB7 c p) = true) ∧ ((wckB7 c p) = true → (wckB7 c p) = true) ∧ True) ∧ ((wckB7 c p) = true → True)) (V.gd (wckB7 c p) (V.b !decide ((↑(List.length (List.map (wallP c) p)) : Int) = (↑(List.length p) : Int)))), pc (90 : Nat) (True ∧ ((!decide ((↑(List.length (List.map (wallP c) p)) : Int) = (↑(List.length p) : Int))) = false → (wckB7 c p) = true)) (V.b (wckB14 c p)), pv (91 : Nat) (V.b (wckB14 c p)), pc (92 : Nat) ((True ∧ True) ∧ (((wckB14 c p) == false) = true → True)) (V.gd ((wckB14 c p) == false) (V.sl (4 : Nat) (List.length (List.map (wallP c) p)) fun (k : Nat) => vhd (hearAt (List.map (wallP c) p) (List.map (wallP c) p) (List.length (List.map (wallP c) p)) ((0 : Nat) + (1 : Nat)) k))), pc (93 : Nat) (((((wckB14 c p) == false) = true → ((wckB14 c p) == false) = true) ∧ True) ∧ (((wckB14 c p) == false) = true → True)) (V.gd ((wckB14 c p) == false) (V.i (↑(List.length (List.map (wallP c) p)) : Int))), pc (94 : Nat) ((True ∧ True) ∧ (((wckB14 c p) == false) = true → True)) (V.gd ((wckB14 c p) == false) (V.sl (2 : Nat) (List.length p) fun (k : Nat) => [V.i (Prod.fst (gp p k)), V.i (Prod.snd (gp p k))])), pc (95 : Nat) (((((wckB14 c p) == false) = true → ((wckB14 c p) == false) = true) ∧ True) ∧ (((wckB14 c p) == false) = true → True)) (V.gd ((wckB14 c p) == false) (V.i (↑(List.length p) : Int))), pc (96 : Nat) (((((wckB14 c p) == false) = true → ((wckB14 c p) == false) = true) ∧ (((wckB14 c p) == false) = true → ((wckB14 c p) == false) = true) ∧ True) ∧ (((wckB14 c p) == false) = true → True)) (V.gd ((wckB14 c p) == false) (V.b !decide ((↑(List.length (List.map (wallP c) p)) : Int) = (↑(List.length p) : Int)))), pc (97 : Nat) (True ∧ ((wckB14 c p) = false → ((wckB14 c p) == false) = true)) (V.b (!decide ((↑(List.length (List.map (wallP c) p)) : Int) = (↑(List.length p) : Int)) || !decide ((↑(List.length (List.map (wallP c) p)) : Int) = (↑(List.length p) : Int)) || !decide ((↑(List.length (List.map (wallP c) p)) : Int) = (↑(List.length p) : Int))))] kR kR ⟨⟨⟨tI, tI⟩, (fun _ => tI)⟩, ⟨⟨(by (exact fun h => h)), ⟨tI, tI⟩⟩, (fun _ => tI)⟩, ⟨tI, eFWHBack⟩, ⟨⟨tI, tI⟩, (fun _ => tI)⟩, ⟨⟨(by (exact fun h => h)), ⟨tI, tI⟩⟩, (fun _ => tI)⟩, ⟨tI, eFWHBack⟩, ⟨⟨tI, tI⟩, (fun _ => tI)⟩, ⟨⟨(by (exact fun h => h)), tI⟩, (fun _ => tI)⟩, ⟨⟨tI, tI⟩, (fun _ => tI)⟩, ⟨⟨(by (exact fun h => h)), tI⟩, (fun _ => tI)⟩, ⟨⟨(by (exact fun h => h)), ⟨(by (exact fun h => h)), tI⟩⟩, (fun _ => tI)⟩, ⟨tI, eFWHBack⟩, ⟨⟨tI, tI⟩, (fun _ => tI)⟩, ⟨⟨(by (exact fun h => h)), tI⟩, (fun _ => tI)⟩, ⟨⟨tI, tI⟩, (fun _ => tI)⟩, ⟨⟨(by (exact fun h => h)), tI⟩, (fun _ => tI)⟩, ⟨⟨(by (exact fun h => h)), ⟨(by (exact fun h => h)), tI⟩⟩, (fun _ => tI)⟩, ⟨tI, eFWHBack⟩, ⟨⟨tI, tI⟩, (fun _ => tI)⟩, ⟨⟨(by (exact fun h => h)), tI⟩, (fun _ => tI)⟩, ⟨⟨tI, tI⟩, (fun _ => tI)⟩, ⟨⟨(by (exact fun h => h)), tI⟩, (fun _ => tI)⟩, ⟨⟨(by (exact fun h => h)), ⟨(by (exact fun h => h)), tI⟩⟩, (fun _ => tI)⟩, ⟨tI, eFWHBack⟩, tI⟩ ?_
 refine aops_nil ?_
 refine xt_n ?_
 refine hK _ ?_
 clear hK K
 refine w_cond (t := !decide ((↑(List.length (List.map (wallP c) p)) : Int) = (↑(List.length p) : Int)) || !decide ((↑(List.length (List.map (wallP c) p)) : Int) = (↑(List.length p) : Int)) || !decide ((↑(List.length (List.map (wallP c) p)) : Int) = (↑(List.length p) : Int))) kR (fun c2 => ?_) (fun c2 => ?_)
 ·
  simp at c2
 clear c2
 refine aw_skip ?_
 refine xt_n ?_
 refine hK _ ?_
 clear hK K
 refine aw_seq_k fun K hK => ?_
 refine aw_seq_k fun K hK => ?_
 refine w_region (n' := 9) kR kR ?_
 refine aops_n hTT (M := []) (n := 1) [pv (16 : Nat) (V.i (0 : Int))] kR kR tI ?_
 refine aops_nil ?_
 refine xt_n ?_
 refine hK _ ?_
 clear hK K
 refine aw_block ?_
 generalize wow.tmod 21 = w at hw2 A eA ⊢
 refine w_loop (ι := Nat) (fun k => [(0, V.pts p), (5, .ptr [.i c.half, .i c.gain, .i c.thin, .i c.wide, .i c.slope, .i c.jerk, .i c.sty]), (12, .sl 4 (p.map (wallP c)).length fun k => vhd (hbW t (p.map (wallP c)) (w.toNat + 1) k)), (14, .sl 4 (p.map (wallP c)).length fun k => vhd (hbJ (p.map (wallP c)) k)), (16, .i k)]) (fun _ => []) (fun k => k ≤ p.length) (fun k => p.length - k) 0 (Nat.zero_le _) ?_ ?_
 ·
  refine le_ren [] (.cons kR (.cons kR (.cons kR (.cons kR (.cons kR .nil))))) .nil kR kR
 intro k hk
 refine aw_seq_k fun K hK => ?_
 refine aw_seq_k fun K hK => ?_
 refine w_region (n' := 2) kR kR ?_
 refine aops_n hTT (M := []) (n := 4) [pv (98 : Nat) (V.i (↑k : Int)), pv (99 : Nat) (V.sl (2 : Nat) (List.length p) fun (k : Nat) => [V.i (Prod.fst (gp p k)), V.i (Prod.snd (gp p k))]), pv (100 : Nat) (V.i (↑(List.length p) : Int)), pv (101 : Nat) (V.b (decide ((↑k : Int) < (↑(List.length p) : Int))))] kR kR tI ?_
 refine aops_nil ?_
 refine xt_n ?_
 refine hK _ ?_
 clear hK K
 refine w_cond (t := decide ((↑k : Int) < (↑(List.length p) : Int))) kR (fun c3 => ?_) (fun c3 => ?_)
 ·
  simp at c3
  have hk1 : k < p.length := by omega
  have hsE := sE_iff.2 (hs.2 k hk1)
  have hg := gp_map (f := wallP c) hk1
  have q1 := hear_pt (t := t) (l := p.map (wallP c)) (r := w.toNat + 1) (i := k) oM oM
  rw [hg] at q1
  obtain ⟨F, G, f1, f2, f3, f4, K1⟩ := hb_chan n2 hsE q1.1 q1.2.1 q1.2.2.1 q1.2.2.2
  have q2 : hbJ (p.map (wallP c)) k = ((wallP c (gp p k)).1, (wallP c (gp p k)).1, (wallP c (gp p k)).2, (wallP c (gp p k)).2) := by rw [hbJ, hear_one, hg]
  obtain ⟨F', G', g1, g2, g3, g4, K2⟩ := hb_chan (h := hbJ (p.map (wallP c)) k) n2 hsE (by rw [q2]; exact Int.le_refl _) (by rw [q2]; exact Int.le_refl _) (by rw [q2]; exact Int.le_refl _) (by rw [q2]; exact Int.le_refl _)
  refine aw_skip ?_
  refine xt_n ?_
  refine hK _ ?_
  clear hK K
  refine aw_seq_k fun K hK => ?_
  refine aw_block ?_
  refine aw_seq_k fun K hK => ?_
  refine w_regionD (n' := 3) kR kR ?_
  refine aops_n hTT (M := []) (n := 5) [pv (105 : Nat) (V.agg [V.i (Cut.half c), V.i (Cut.gain c), V.i (Cut.thin c), V.i (Cut.wide c), V.i (Cut.slope c), V.i (Cut.jerk c), V.i (Cut.sty c)]), pv (106 : Nat) (V.sl (4 : Nat) (List.length (List.map (wallP c) p)) fun (k : Nat) => vhd (hbW t (List.map (wallP c) p) (Int.toNat w + 1) k)), pv (107 : Nat) (V.i (↑k : Int)), pc (108 : Nat) ((0 : Int) ≤ (↑k : Int) ∧ (↑k : Int) < (↑(List.length (List.map (wallP c) p)) : Int)) (V.ptr [V.i (Prod.fst (hbW t (List.map (wallP c) p) (Int.toNat w + 1) k)), V.i (Prod.fst (Prod.snd (hbW t (List.map (wallP c) p) (Int.toNat w + 1) k))), V.i (Prod.fst (Prod.snd (Prod.snd (hbW t (List.map (wallP c) p) (Int.toNat w + 1) k)))), V.i (Prod.snd (Prod.snd (Prod.snd (hbW t (List.map (wallP c) p) (Int.toNat w + 1) k))))]), pv (109 : Nat) (V.agg [V.i (Prod.fst (hbW t (List.map (wallP c) p) (Int.toNat w + 1) k)), V.i (Prod.fst (Prod.snd (hbW t (List.map (wallP c) p) (Int.toNat w + 1) k))), V.i (Prod.fst (Prod.snd (Prod.snd (hbW t (List.map (wallP c) p) (Int.toNat w + 1) k)))), V.i (Prod.snd (Prod.snd (Prod.snd (hbW t (List.map (wallP c) p) (Int.toNat w + 1) k))))])] kR kR ⟨oM, tI⟩ ?_
  refine e_call (first := []) (caps := []) (K1) kR kR kR kR kR ?_
  refine aops_n hTT (M := []) (n := 9) [pv (104 : Nat) (V.tup [V.agg [V.i (Fs.F F), V.i (Fs.G F - 1)], V.agg [V.i (Fs.F G), V.i (Fs.G G - 1)], V.i (0 : Int)]), pv (111 : Nat) (V.agg [V.i (Fs.F F), V.i (Fs.G F - 1)]), pv (112 : Nat) (V.agg [V.i (Fs.F G), V.i (Fs.G G - 1)]), pv (113 : Nat) (V.i (0 : Int)), pn (17 : Nat) (V.ref (200017 : Nat) (0 : Nat)) (200017 : Nat) (Ob.box (40 : Nat) [V.i (0 : Int), V.i (0 : Int)]), pn (18 : Nat) (V.ref (200018 : Nat) (0 : Nat)) (200018 : Nat) (Ob.box (40 : Nat) [V.i (0 : Int), V.i (0 : Int)]), pw ((0 : Nat) + (2 : Nat) ≤ (2 : Nat)) (200017 : Nat) (Ob.box (40 : Nat) [V.i (Fs.F F), V.i (Fs.G F - 1)]), pw ((0 : Nat) + (2 : Nat) ≤ (2 : Nat)) (200018 : Nat) (Ob.box (40 : Nat) [V.i (Fs.F G), V.i (Fs.G G - 1)]), pv (19 : Nat) (V.i (0 : Int))] kR kR ⟨oM, oM, tI⟩ ?_
  refine aops_nil ⟨kR, ?_⟩
  refine xt_n ?_
  refine hK _ ?_
  clear hK K
  refine aw_seq_k fun K hK => ?_
  refine w_regionD (n' := 4) kR kR ?_
  refine aops_n hTT (M := []) (n := 5) [pv (115 : Nat) (V.agg [V.i (Cut.half c), V.i (Cut.gain c), V.i (Cut.thin c), V.i (Cut.wide c), V.i (Cut.slope c), V.i (Cut.jerk c), V.i (Cut.sty c)]), pv (116 : Nat) (V.sl (4 : Nat) (List.length (List.map (wallP c) p)) fun (k : Nat) => vhd (hbJ (List.map (wallP c) p) k)), pv (117 : Nat) (V.i (↑k : Int)), pc (118 : Nat) ((0 : Int) ≤ (↑k : Int) ∧ (↑k : Int) < (↑(List.length (List.map (wallP c) p)) : Int)) (V.ptr [V.i (Prod.fst (hbJ (List.map (wallP c) p) k)), V.i (Prod.fst (Prod.snd (hbJ (List.map (wallP c) p) k))), V.i (Prod.fst (Prod.snd (Prod.snd (hbJ (List.map (wallP c) p) k)))), V.i (Prod.snd (Prod.snd (Prod.snd (hbJ (List.map (wallP c) p) k))))]), pv (119 : Nat) (V.agg [V.i (Prod.fst (hbJ (List.map (wallP c) p) k)), V.i (Prod.fst (Prod.snd (hbJ (List.map (wallP c) p) k))), V.i (Prod.fst (Prod.snd (Prod.snd (hbJ (List.map (wallP c) p) k)))), V.i (Prod.snd (Prod.snd (Prod.snd (hbJ (List.map (wallP c) p) k))))])] kR kR ⟨oM, tI⟩ ?_
  refine e_call (first := []) (caps := []) (K2) kR kR kR kR kR ?_
  refine aops_n hTT (M := []) (n := 9) [pv (114 : Nat) (V.tup [V.agg [V.i (Fs.F F'), V.i (Fs.G F' - 1)], V.agg [V.i (Fs.F G'), V.i (Fs.G G' - 1)], V.i (0 : Int)]), pv (121 : Nat) (V.agg [V.i (Fs.F F'), V.i (Fs.G F' - 1)]), pv (122 : Nat) (V.agg [V.i (Fs.F G'), V.i (Fs.G G' - 1)]), pv (123 : Nat) (V.i (0 : Int)), pn (20 : Nat) (V.ref (300020 : Nat) (0 : Nat)) (300020 : Nat) (Ob.box (40 : Nat) [V.i (0 : Int), V.i (0 : Int)]), pn (21 : Nat) (V.ref (300021 : Nat) (0 : Nat)) (300021 : Nat) (Ob.box (40 : Nat) [V.i (0 : Int), V.i (0 : Int)]), pw ((0 : Nat) + (2 : Nat) ≤ (2 : Nat)) (300020 : Nat) (Ob.box (40 : Nat) [V.i (Fs.F F'), V.i (Fs.G F' - 1)]), pw ((0 : Nat) + (2 : Nat) ≤ (2 : Nat)) (300021 : Nat) (Ob.box (40 : Nat) [V.i (Fs.F G'), V.i (Fs.G G' - 1)]), pv (22 : Nat) (V.i (0 : Int))] kR kR ⟨oM, oM, tI⟩ ?_
  refine aops_nil ⟨kR, ?_⟩
  refine xt_n ?_
  refine hK _ ?_
  clear hK K
  refine aw_seq_k fun K hK => ?_
  refine aw_seq_k fun K hK => ?_
  refine w_regionD (n' := 5) kR kR ?_
  refine aops_n hTT (M := []) (n := 86) [pv (124 : Nat) (V.i (0 : Int)), pv (125 : Nat) (V.b false), pv (126 : Nat) (V.b false), pc (127 : Nat) ((True ∧ True) ∧ ((false == false) = true → True)) (V.gd (false == false) (V.i (0 : Int))), pc (128 : Nat) ((((false == false) = true → (false == false) = true) ∧ True ∧ True) ∧ ((false == false) = true → True)) (V.gd (false == false) (V.b false)), pc (129 : Nat) (True ∧ (false = false → (false == false) = true)) (V.b false), pv (130 : Nat) (V.b false), pc (131 : Nat) ((True ∧ True) ∧ ((false == false) = true → True)) (V.gd (false == false) (V.sl (2 : Nat) (List.length p) fun (k : Nat) => [V.i (Prod.fst (gp p k)), V.i (Prod.snd (gp p k))])), pc (132 : Nat) ((True ∧ True) ∧ ((false == false) = true → True)) (V.gd (false == false) (V.i (↑k : Int))), pc (133 : Nat) ((((false == false) = true → (false == false) = true) ∧ ((false == false) = true → (false == false) = true) ∧ True) ∧ ((false == false) = true → (0 : Int) ≤ (↑k : Int) ∧ (↑k : Int) < (↑(List.length p) : Int))) (V.gd (false == false) (V.ptr [V.i (Prod.fst (gp p k)), V.i (Prod.snd (gp p k))])), pc (134 : Nat) ((((false == false) = true → (false == false) = true) ∧ True) ∧ ((false == false) = true → True)) (V.gd (false == false) (V.ptr [V.i (Prod.fst (gp p k)), V.i (Prod.snd (gp p k))])), pc (135 : Nat) ((((false == false) = true → (false == false) = true) ∧ True) ∧ ((false == false) = true → True)) (V.gd (false == false) (V.i (Prod.fst (gp p k)))), pc (136 : Nat) ((True ∧ True) ∧ ((false == false) = true → True)) (V.gd (false == false) (V.ref (200017 : Nat) (0 : Nat))), pc (137 : Nat) ((((false == false) = true → (false == false) = true) ∧ True) ∧ ((false == false) = true → (0 : Nat) ≤ (2 : Nat))) (V.gd (false == false) (V.i (Fs.F F))), pc (138 : Nat) ((((false == false) = true → (false == false) = true) ∧ ((false == false) = true → (false == false) = true) ∧ True) ∧ ((false == false) = true → True)) (V.gd (false == false) (V.b (decide (Prod.fst (gp p k) < Fs.F F)))), pc (139 : Nat) (True ∧ (false = false → (false == false) = true)) (V.b (decide (Prod.fst (gp p k) < Fs.F F))), pv (140 : Nat) (V.b (decide (Prod.fst (gp p k) < Fs.F F))), pc (141 : Nat) ((True ∧ True) ∧ ((wckB1 F k p) = true → True)) (V.gd (wckB1 F k p) (V.sl (2 : Nat) (List.length p) fun (k : Nat) => [V.i (Prod.fst (gp p k)), V.i (Prod.snd (gp p k))])), pc (142 : Nat) ((True ∧ True) ∧ ((wckB1 F k p) = true → True)) (V.gd (wckB1 F k p) (V.i (↑k : Int))), pc (143 : Nat) ((((wckB1 F k p) = true → (wckB1 F k p) = true) ∧ ((wckB1 F k p) = true → (wckB1 F k p) = true) ∧ True) ∧ ((wckB1 F k p) = true → (0 : Int) ≤ (↑k : Int) ∧ (↑k : Int) < (↑(List.length p) : Int))) (V.gd (wckB1 F k p) (V.ptr [V.i (Prod.fst (gp p k)), V.i (Prod.snd (gp p k))])), pc (144 : Nat) ((((wckB1 F k p) = true → (wckB1 F k p) = true) ∧ True) ∧ ((wckB1 F k p) = true → True)) (V.gd (wckB1 F k p) (V.ptr [V.i (Prod.fst (gp p k)), V.i (Prod.snd (gp p k))])), pc (145 : Nat) ((((wckB1 F k p) = true → (wckB1 F k p) = true) ∧ True) ∧ ((wckB1 F k p) = true → True)) (V.gd (wckB1 F k p) (V.i (Prod.fst (gp p k)))), pc (146 : Nat) ((True ∧ True) ∧ ((wckB1 F k p) = true → True)) (V.gd (wckB1 F k p) (V.ref (200017 : Nat) (1 : Nat))), pc (147 : Nat) ((((wckB1 F k p) = true → (wckB1 F k p) = true) ∧ True) ∧ ((wckB1 F k p) = true → (1 : Nat) ≤ (2 : Nat))) (V.gd (wckB1 F k p) (V.i (Fs.G F - 1))), pc (148 : Nat) ((((wckB1 F k p) = true → (wckB1 F k p) = true) ∧ ((wckB1 F k p) = true → (wckB1 F k p) = true) ∧ True) ∧ ((wckB1 F k p) = true → True)) (V.gd (wckB1 F k p) (V.b (decide (Fs.G F - 1 < Prod.fst (gp p k))))), pc (149 : Nat) (True ∧ (decide (Prod.fst (gp p k) < Fs.F F) = false → (wckB1 F k p) = true)) (V.b (wckB6 F k p)), pv (150 : Nat) (V.b (wckB6 F k p)), pc (151 : Nat) ((True ∧ True) ∧ (((wckB6 F k p) == false) = true → True)) (V.gd ((wckB6 F k p) == false) (V.sl (2 : Nat) (List.length p) fun (k : Nat) => [V.i (Prod.fst (gp p k)), V.i (Prod.snd (gp p k))])), pc (152 : Nat) ((True ∧ True) ∧ (((wckB6 F k p) == false) = true → True)) (V.gd ((wckB6 F k p) == false) (V.i (↑k : Int))), pc (153 : Nat) (((((wckB6 F k p) == false) = true → ((wckB6 F k p) == false) = true) ∧ (((wckB6 F k p) == false) = true → ((wckB6 F k p) == false) = true) ∧ True) ∧ (((wckB6 F k p) == false) = true → (0 : Int) ≤ (↑k : Int) ∧ (↑k : Int) < (↑(List.length p) : Int))) (V.gd ((wckB6 F k p) == false) (V.ptr [V.i (Prod.fst (gp p k)), V.i (Prod.snd (gp p k))])), pc (154 : Nat) (((((wckB6 F k p) == false) = true → ((wckB6 F k p) == false) = true) ∧ True) ∧ (((wckB6 F k p) == false) = true → True)) (V.gd ((wckB6 F k p) == false) (V.ptr [V.i (Prod.snd (gp p k))])), pc (155 : Nat) (((((wckB6 F k p) == false) = true → ((wckB6 F k p) == false) = true) ∧ True) ∧ (((wckB6 F k p) == false) = true → True)) (V.gd ((wckB6 F k p) == false) (V.i (Prod.snd (gp p k)))), pc (156 : Nat) ((True ∧ True) ∧ (((wckB6 F k p) == false) = true → True)) (V.gd ((wckB6 F k p) == false) (V.ref (200018 : Nat) (0 : Nat))), pc (157 : Nat) (((((wckB6 F k p) == false) = true → ((wckB6 F k p) == false) = true) ∧ True) ∧ (((wckB6 F k p) == false) = true → (0 : Nat) ≤ (2 : Nat))) (V.gd ((wckB6 F k p) == false) (V.i (Fs.F G))), pc (158 : Nat) (((((wckB6 F k p) == false) = true → ((wckB6 F k p) == false) = true) ∧ (((wckB6 F k p) == false) = true → ((wckB6 F k p) == false) = true) ∧ True) ∧ (((wckB6 F k p) == false) = true → True)) (V.gd ((wckB6 F k p) == false) (V.b (decide (Prod.snd (gp p k) < Fs.F G)))), pc (159 : Nat) (True ∧ ((wckB6 F k p) = false → ((wckB6 F k p) == false) = true)) (V.b (wckB10 F G k p)), pv (160 : Nat) (V.b (wckB10 F G k p)), pc (161 : Nat) ((True ∧ True) ∧ (((wckB10 F G k p) == false) = true → True)) (V.gd ((wckB10 F G k p) == false) (V.sl (2 : Nat) (List.length p) fun (k : Nat) => [V.i (Prod.fst (gp p k)), V.i (Prod.snd (gp p k))])), pc (162 : Nat) ((True ∧ True) ∧ (((wckB10 F G k p) == false) = true → True)) (V.gd ((wckB10 F G k p) == false) (V.i (↑k : Int))), pc (163 : Nat) (((((wckB10 F G k p) == false) = true → ((wckB10 F G k p) == false) = true) ∧ (((wckB10 F G k p) == false) = true → ((wckB10 F G k p) == false) = true) ∧ True) ∧ (((wckB10 F G k p) == false) = true → (0 : Int) ≤ (↑k : Int) ∧ (↑k : Int) < (↑(List.length p) : Int))) (V.gd ((wckB10 F G k p) == false) (V.ptr [V.i (Prod.fst (gp p k)), V.i (Prod.snd (gp p k))])), pc (164 : Nat) (((((wckB10 F G k p) == false) = true → ((wckB10 F G k p) == false) = true) ∧ True) ∧ (((wckB10 F G k p) == false) = true → True)) (V.gd ((wckB10 F G k p) == false) (V.ptr [V.i (Prod.snd (gp p k))])), pc (165 : Nat) (((((wckB10 F G k p) == false) = true → ((wckB10 F G k p) == false) = true) ∧ True) ∧ (((wckB10 F G k p) == false) = true → True)) (V.gd ((wckB10 F G k p) == false) (V.i (Prod.snd (gp p k)))), pc (166 : Nat) ((True ∧ True) ∧ (((wckB10 F G k p) == false) = true → True)) (V.gd ((wckB10 F G k p) == false) (V.ref (200018 : Nat) (1 : Nat))), pc (167 : Nat) (((((wckB10 F G k p) == false) = true → ((wckB10 F G k p) == false) = true) ∧ True) ∧ (((wckB10 F G k p) == false) = true → (1 : Nat) ≤ (2 : Nat))) (V.gd ((wckB10 F G k p) == false) (V.i (Fs.G G - 1))), pc (168 : Nat) (((((wckB10 F G k p) == false) = true → ((wckB10 F G k p) == false) = true) ∧ (((wckB10 F G k p) == false) = true → ((wckB10 F G k p) == false) = true) ∧ True) ∧ (((wckB10 F G k p) == false) = true → True)) (V.gd ((wckB10 F G k p) == false) (V.b (decide (Fs.G G - 1 < Prod.snd (gp p k))))), pc (169 : Nat) (True ∧ ((wckB10 F G k p) = false → ((wckB10 F G k p) == false) = true)) (V.b (wckB15 F G k p)), pv (170 : Nat) (V.b (wckB15 F G k p)), pc (171 : Nat) ((True ∧ True) ∧ (((wckB15 F G k p) == false) = true → True)) (V.gd ((wckB15 F G k p) == false) (V.sl (2 : Nat) (List.length p) fun (k : Nat) => [V.i (Prod.fst (gp p k)), V.i (Prod.snd (gp p k))])), pc (172 : Nat) ((True ∧ True) ∧ (((wckB15 F G k p) == false) = true → True)) (V.gd ((wckB15 F G k p) == false) (V.i (↑k : Int))), pc (173 : Nat) (((((wckB15 F G k p) == false) = true → ((wckB15 F G k p) == false) = true) ∧ (((wckB15 F G k p) == false) = true → ((wckB15 F G k p) == false) = true) ∧ True) ∧ (((wckB15 F G k p) == false) = true → (0 : Int) ≤ (↑k : Int) ∧ (↑k : Int) < (↑(List.length p) : Int))) (V.gd ((wckB15 F G k p) == false) (V.ptr [V.i (Prod.fst (gp p k)), V.i (Prod.snd (gp p k))])), pc (174 : Nat) (((((wckB15 F G k p) == false) = true → ((wckB15 F G k p) == false) = true) ∧ True) ∧ (((wckB15 F G k p) == false) = true → True)) (V.gd ((wckB15 F G k p) == false) (V.ptr [V.i (Prod.fst (gp p k)), V.i (Prod.snd (gp p k))])), pc (175 : Nat) (((((wckB15 F G k p) == false) = true → ((wckB15 F G k p) == false) = true) ∧ True) ∧ (((wckB15 F G k p) == false) = true → True)) (V.gd ((wckB15 F G k p) == false) (V.i (Prod.fst (gp p k)))), pc (176 : Nat) ((True ∧ True) ∧ (((wckB15 F G k p) == false) = true → True)) (V.gd ((wckB15 F G k p) == false) (V.ref (300020 : Nat) (0 : Nat))), pc (177 : Nat) (((((wckB15 F G k p) == false) = true → ((wckB15 F G k p) == false) = true) ∧ True) ∧ (((wckB15 F G k p) == false) = true → (0 : Nat) ≤ (2 : Nat))) (V.gd ((wckB15 F G k p) == false) (V.i (Fs.F F'))), pc (178 : Nat) (((((wckB15 F G k p) == false) = true → ((wckB15 F G k p) == false) = true) ∧ (((wckB15 F G k p) == false) = true → ((wckB15 F G k p) == false) = true) ∧ True) ∧ (((wckB15 F G k p) == false) = true → True)) (V.gd ((wckB15 F G k p) == false) (V.b (decide (Prod.fst (gp p k) < Fs.F F')))), pc (179 : Nat) (True ∧ ((wckB15 F G k p) = false → ((wckB15 F G k p) == false) = true)) (V.b (wckB16 F F' G k p)), pv (180 : Nat) (V.b (wckB16 F F' G k p)), pc (181 : Nat) ((True ∧ True) ∧ (((wckB16 F F' G k p) == false) = true → True)) (V.gd ((wckB16 F F' G k p) == false) (V.sl (2 : Nat) (List.length p) fun (k : Nat) => [V.i (Prod.fst (gp p k)), V.i (Prod.snd (gp p k))])), pc (182 : Nat) ((True ∧ True) ∧ (((wckB16 F F' G k p) == false) = true → True)) (V.gd ((wckB16 F F' G k p) == false) (V.i (↑k : Int))), pc (183 : Nat) (((((wckB16 F F' G k p) == false) = true → ((wckB16 F F' G k p) == false) = true) ∧ (((wckB16 F F' G k p) == false) = true → ((wckB16 F F' G k p) == false) = true) ∧ True) ∧ (((wckB16 F F' G k p) == false) = true → (0 : Int) ≤ (↑k : Int) ∧ (↑k : Int) < (↑(List.length p) : Int))) (V.gd ((wckB16 F F' G k p) == false) (V.ptr [V.i (Prod.fst (gp p k)), V.i (Prod.snd (gp p k))])), pc (184 : Nat) (((((wckB16 F F' G k p) == false) = true → ((wckB16 F F' G k p) == false) = true) ∧ True) ∧ (((wckB16 F F' G k p) == false) = true → True)) (V.gd ((wckB16 F F' G k p) == false) (V.ptr [V.i (Prod.fst (gp p k)), V.i (Prod.snd (gp p k))])), pc (185 : Nat) (((((wckB16 F F' G k p) == false) = true → ((wckB16 F F' G k p) == false) = true) ∧ True) ∧ (((wckB16 F F' G k p) == false) = true → True)) (V.gd ((wckB16 F F' G k p) == false) (V.i (Prod.fst (gp p k)))), pc (186 : Nat) ((True ∧ True) ∧ (((wckB16 F F' G k p) == false) = true → True)) (V.gd ((wckB16 F F' G k p) == false) (V.ref (300020 : Nat) (1 : Nat))), pc (187 : Nat) (((((wckB16 F F' G k p) == false) = true → ((wckB16 F F' G k p) == false) = true) ∧ True) ∧ (((wckB16 F F' G k p) == false) = true → (1 : Nat) ≤ (2 : Nat))) (V.gd ((wckB16 F F' G k p) == false) (V.i (Fs.G F' - 1))), pc (188 : Nat) (((((wckB16 F F' G k p) == false) = true → ((wckB16 F F' G k p) == false) = true) ∧ (((wckB16 F F' G k p) == false) = true → ((wckB16 F F' G k p) == false) = true) ∧ True) ∧ (((wckB16 F F' G k p) == false) = true → True)) (V.gd ((wckB16 F F' G k p) == false) (V.b (decide (Fs.G F' - 1 < Prod.fst (gp p k))))), pc (189 : Nat) (True ∧ ((wckB16 F F' G k p) = false → ((wckB16 F F' G k p) == false) = true)) (V.b (wckB17 F F' G k p)), pv (190 : Nat) (V.b (wckB17 F F' G k p)), pc (191 : Nat) ((True ∧ True) ∧ (((wckB17 F F' G k p) == false) = true → True)) (V.gd ((wckB17 F F' G k p) == false) (V.sl (2 : Nat) (List.length p) fun (k : Nat) => [V.i (Prod.fst (gp p k)), V.i (Prod.snd (gp p k))])), pc (192 : Nat) ((True ∧ True) ∧ (((wckB17 F F' G k p) == false) = true → True)) (V.gd ((wckB17 F F' G k p) == false) (V.i (↑k : Int))), pc (193 : Nat) (((((wckB17 F F' G k p) == false) = true → ((wckB17 F F' G k p) == false) = true) ∧ (((wckB17 F F' G k p) == false) = true → ((wckB17 F F' G k p) == false) = true) ∧ True) ∧ (((wckB17 F F' G k p) == false) = true → (0 : Int) ≤ (↑k : Int) ∧ (↑k : Int) < (↑(List.length p) : Int))) (V.gd ((wckB17 F F' G k p) == false) (V.ptr [V.i (Prod.fst (gp p k)), V.i (Prod.snd (gp p k))])), pc (194 : Nat) (((((wckB17 F F' G k p) == false) = true → ((wckB17 F F' G k p) == false) = true) ∧ True) ∧ (((wckB17 F F' G k p) == false) = true → True)) (V.gd ((wckB17 F F' G k p) == false) (V.ptr [V.i (Prod.snd (gp p k))])), pc (195 : Nat) (((((wckB17 F F' G k p) == false) = true → ((wckB17 F F' G k p) == false) = true) ∧ True) ∧ (((wckB17 F F' G k p) == false) = true → True)) (V.gd ((wckB17 F F' G k p) == false) (V.i (Prod.snd (gp p k)))), pc (196 : Nat) ((True ∧ True) ∧ (((wckB17 F F' G k p) == false) = true → True)) (V.gd ((wckB17 F F' G k p) == false) (V.ref (300021 : Nat) (0 : Nat))), pc (197 : Nat) (((((wckB17 F F' G k p) == false) = true → ((wckB17 F F' G k p) == false) = true) ∧ True) ∧ (((wckB17 F F' G k p) == false) = true → (0 : Nat) ≤ (2 : Nat))) (V.gd ((wckB17 F F' G k p) == false) (V.i (Fs.F G'))), pc (198 : Nat) (((((wckB17 F F' G k p) == false) = true → ((wckB17 F F' G k p) == false) = true) ∧ (((wckB17 F F' G k p) == false) = true → ((wckB17 F F' G k p) == false) = true) ∧ True) ∧ (((wckB17 F F' G k p) == false) = true → True)) (V.gd ((wckB17 F F' G k p) == false) (V.b (decide (Prod.snd (gp p k) < Fs.F G')))), pc (199 : Nat) (True ∧ ((wckB17 F F' G k p) = false → ((wckB17 F F' G k p) == false) = true)) (V.b (wckB18 F F' G G' k p)), pv (200 : Nat) (V.b (wckB18 F F' G G' k p)), pc (201 : Nat) ((True ∧ True) ∧ ((wckB19 F F' G G' k p) = true → True)) (V.gd (wckB19 F F' G G' k p) (V.sl (2 : Nat) (List.length p) fun (k : Nat) => [V.i (Prod.fst (gp p k)), V.i (Prod.snd (gp p k))])), pc (202 : Nat) ((True ∧ True) ∧ ((wckB19 F F' G G' k p) = true → True)) (V.gd (wckB19 F F' G G' k p) (V.i (↑k : Int))), pc (203 : Nat) ((((wckB19 F F' G G' k p) = true → (wckB19 F F' G G' k p) = true) ∧ ((wckB19 F F' G G' k p) = true → (wckB19 F F' G G' k p) = true) ∧ True) ∧ ((wckB19 F F' G G' k p) = true → (0 : Int) ≤ (↑k : Int) ∧ (↑k : Int) < (↑(List.length p) : Int))) (V.gd (wckB19 F F' G G' k p) (V.ptr [V.i (Prod.fst (gp p k)), V.i (Prod.snd (gp p k))])), pc (204 : Nat) ((((wckB19 F F' G G' k p) = true → (wckB19 F F' G G' k p) = true) ∧ True) ∧ ((wckB19 F F' G G' k p) = true → True)) (V.gd (wckB19 F F' G G' k p) (V.ptr [V.i (Prod.snd (gp p k))])), pc (205 : Nat) ((((wckB19 F F' G G' k p) = true → (wckB19 F F' G G' k p) = true) ∧ True) ∧ ((wckB19 F F' G G' k p) = true → True)) (V.gd (wckB19 F F' G G' k p) (V.i (Prod.snd (gp p k)))), pc (206 : Nat) ((True ∧ True) ∧ ((wckB19 F F' G G' k p) = true → True)) (V.gd (wckB19 F F' G G' k p) (V.ref (300021 : Nat) (1 : Nat))), pc (207 : Nat) ((((wckB19 F F' G G' k p) = true → (wckB19 F F' G G' k p) = true) ∧ True) ∧ ((wckB19 F F' G G' k p) = true → (1 : Nat) ≤ (2 : Nat))) (V.gd (wckB19 F F' G G' k p) (V.i (Fs.G G' - 1))), pc (208 : Nat) ((((wckB19 F F' G G' k p) = true → (wckB19 F F' G G' k p) = true) ∧ ((wckB19 F F' G G' k p) = true → (wckB19 F F' G G' k p) = true) ∧ True) ∧ ((wckB19 F F' G G' k p) = true → True)) (V.gd (wckB19 F F' G G' k p) (V.b (decide (Fs.G G' - 1 < Prod.snd (gp p k))))), pc (209 : Nat) (True ∧ ((wckB18 F F' G G' k p) = false → (wckB19 F F' G G' k p) = true)) (V.b (decide (Prod.fst (gp p k) < Fs.F F) || decide (Fs.G F - 1 < Prod.fst (gp p k)) || decide (Prod.snd (gp p k) < Fs.F G) || decide (Fs.G G - 1 < Prod.snd (gp p k)) || decide (Prod.fst (gp p k) < Fs.F F') || decide (Fs.G F' - 1 < Prod.fst (gp p k)) || decide (Prod.snd (gp p k) < Fs.F G') || decide (Fs.G G' - 1 < Prod.snd (gp p k))))] kR kR ⟨⟨⟨tI, tI⟩, (fun _ => tI)⟩, ⟨⟨(by (exact fun h => h)), ⟨tI, tI⟩⟩, (fun _ => tI)⟩, ⟨tI, eFWHBack⟩, ⟨⟨tI, tI⟩, (fun _ => tI)⟩, ⟨⟨tI, tI⟩, (fun _ => tI)⟩, ⟨⟨(by (exact fun h => h)), ⟨(by (exact fun h => h)), tI⟩⟩, (by (intro hg; simp at hg; omega))⟩, ⟨⟨(by (exact fun h => h)), tI⟩, (fun _ => tI)⟩, ⟨⟨(by (exact fun h => h)), tI⟩, (fun _ => tI)⟩, ⟨⟨tI, tI⟩, (fun _ => tI)⟩, ⟨⟨(by (exact fun h => h)), tI⟩, (by (intro _; simp; done))⟩, ⟨⟨(by (exact fun h => h)), ⟨(by (exact fun h => h)), tI⟩⟩, (fun _ => tI)⟩, ⟨tI, eFWHBack⟩, ⟨⟨tI, tI⟩, (fun _ => tI)⟩, ⟨⟨tI, tI⟩, (fun _ => tI)⟩, ⟨⟨(by (exact fun h => h)), ⟨(by (exact fun h => h)), tI⟩⟩, (by (intro hg; simp at hg; omega))⟩, ⟨⟨(by (exact fun h => h)), tI⟩, (fun _ => tI)⟩, ⟨⟨(by (exact fun h => h)), tI⟩, (fun _ => tI)⟩, ⟨⟨tI, tI⟩, (fun _ => tI)⟩, ⟨⟨(by (exact fun h => h)), tI⟩, (by (intro _; simp; done))⟩, ⟨⟨(by (exact fun h => h)), ⟨(by (exact fun h => h)), tI⟩⟩, (fun _ => tI)⟩, ⟨tI, eFWHBack⟩, ⟨⟨tI, tI⟩, (fun _ => tI)⟩, ⟨⟨tI, tI⟩, (fun _ => tI)⟩, ⟨⟨(by (exact fun h => h)), ⟨(by (exact fun h => h)), tI⟩⟩, (by (intro hg; simp at hg; omega))⟩, ⟨⟨(by (exact fun h => h)), tI⟩, (fun _ => tI)⟩, ⟨⟨(by (exact fun h => h)), tI⟩, (fun _ => tI)⟩, ⟨⟨tI, tI⟩, (fun _ => tI)⟩, ⟨⟨(by (exact fun h => h)), tI⟩, (by (intro _; simp; done))⟩, ⟨⟨(by (exact fun h => h)), ⟨(by (exact fun h => h)), tI⟩⟩, (fun _ => tI)⟩, ⟨tI, eFWHBack⟩, ⟨⟨tI, tI⟩, (fun _ => tI)⟩, ⟨⟨tI, tI⟩, (fun _ => tI)⟩, ⟨⟨(by (exact fun h => h)), ⟨(by (exact fun h => h)), tI⟩⟩, (by (intro hg; simp at hg; omega))⟩, ⟨⟨(by (exact fun h => h)), tI⟩, (fun _ => tI)⟩, ⟨⟨(by (exact fun h => h)), tI⟩, (fun _ => tI)⟩, ⟨⟨tI, tI⟩, (fun _ => tI)⟩, ⟨⟨(by (exact fun h => h)), tI⟩, (by (intro _; simp; done))⟩, ⟨⟨(by (exact fun h => h)), ⟨(by (exact fun h => h)), tI⟩⟩, (fun _ => tI)⟩, ⟨tI, eFWHBack⟩, ⟨⟨tI, tI⟩, (fun _ => tI)⟩, ⟨⟨tI, tI⟩, (fun _ => tI)⟩, ⟨⟨(by (exact fun h => h)), ⟨(by (exact fun h => h)), tI⟩⟩, (by (intro hg; simp at hg; omega))⟩, ⟨⟨(by (exact fun h => h)), tI⟩, (fun _ => tI)⟩, ⟨⟨(by (exact fun h => h)), tI⟩, (fun _ => tI)⟩, ⟨⟨tI, tI⟩, (fun _ => tI)⟩, ⟨⟨(by (exact fun h => h)), tI⟩, (by (intro _; simp; done))⟩, ⟨⟨(by (exact fun h => h)), ⟨(by (exact fun h => h)), tI⟩⟩, (fun _ => tI)⟩, ⟨tI, eFWHBack⟩, ⟨⟨tI, tI⟩, (fun _ => tI)⟩, ⟨⟨tI, tI⟩, (fun _ => tI)⟩, ⟨⟨(by (exact fun h => h)), ⟨(by (exact fun h => h)), tI⟩⟩, (by (intro hg; simp at hg; omega))⟩, ⟨⟨(by (exact fun h => h)), tI⟩, (fun _ => tI)⟩, ⟨⟨(by (exact fun h => h)), tI⟩, (fun _ => tI)⟩, ⟨⟨tI, tI⟩, (fun _ => tI)⟩, ⟨⟨(by (exact fun h => h)), tI⟩, (by (intro _; simp; done))⟩, ⟨⟨(by (exact fun h => h)), ⟨(by (exact fun h => h)), tI⟩⟩, (fun _ => tI)⟩, ⟨tI, eFWHBack⟩, ⟨⟨tI, tI⟩, (fun _ => tI)⟩, ⟨⟨tI, tI⟩, (fun _ => tI)⟩, ⟨⟨(by (exact fun h => h)), ⟨(by (exact fun h => h)), tI⟩⟩, (by (intro hg; simp at hg; omega))⟩, ⟨⟨(by (exact fun h => h)), tI⟩, (fun _ => tI)⟩, ⟨⟨(by (exact fun h => h)), tI⟩, (fun _ => tI)⟩, ⟨⟨tI, tI⟩, (fun _ => tI)⟩, ⟨⟨(by (exact fun h => h)), tI⟩, (by (intro _; simp; done))⟩, ⟨⟨(by (exact fun h => h)), ⟨(by (exact fun h => h)), tI⟩⟩, (fun _ => tI)⟩, ⟨tI, eFWHBack⟩, ⟨⟨tI, tI⟩, (fun _ => tI)⟩, ⟨⟨tI, tI⟩, (fun _ => tI)⟩, ⟨⟨(by (exact fun h => h)), ⟨(by (exact fun h => h)), tI⟩⟩, (by (intro hg; simp at hg; omega))⟩, ⟨⟨(by (exact fun h => h)), tI⟩, (fun _ => tI)⟩, ⟨⟨(by (exact fun h => h)), tI⟩, (fun _ => tI)⟩, ⟨⟨tI, tI⟩, (fun _ => tI)⟩, ⟨⟨(by (exact fun h => h)), tI⟩, (by (intro _; simp; done))⟩, ⟨⟨(by (exact fun h => h)), ⟨(by (exact fun h => h)), tI⟩⟩, (fun _ => tI)⟩, ⟨tI, eFWHBack⟩, tI⟩ ?_
  refine aops_nil ⟨kR, ?_⟩
  refine xt_n ?_
  refine hK _ ?_
  clear hK K
  refine w_cond (t := decide (Prod.fst (gp p k) < Fs.F F) || decide (Fs.G F - 1 < Prod.fst (gp p k)) || decide (Prod.snd (gp p k) < Fs.F G) || decide (Fs.G G - 1 < Prod.snd (gp p k)) || decide (Prod.fst (gp p k) < Fs.F F') || decide (Fs.G F' - 1 < Prod.fst (gp p k)) || decide (Prod.snd (gp p k) < Fs.F G') || decide (Fs.G G' - 1 < Prod.snd (gp p k))) kR (fun c4 => ?_) (fun c4 => ?_)
  ·
   exfalso
   simp at c4
   omega
  clear c4
  have m1 := fs_mono f1 g1 (by rw [q2]; exact q1.2.2.1) (by rw [q2]; exact q1.2.2.2)
  have m2 := fs_mono f2 g2 (by rw [q2]; exact q1.1) (by rw [q2]; exact q1.2.1)
  have m3 : 1000 ≤ c.gain → (F'.F = (gp p k).1 ∧ F'.G = (gp p k).1 + 1) ∧ G'.F = (gp p k).2 ∧ G'.G = (gp p k).2 + 1 := fun h => by
   rw [q2] at g1 g2
   exact ⟨fs_one (half := c.half) h (by simpa only [wallP, edge_chE, Int.add_comm] using g1) (sE_iff.1 hsE).1, fs_one (half := -c.half) h (by simpa only [wallP, edge_chE, Int.add_comm, Int.sub_eq_add_neg] using g2) (sE_iff.1 hsE).2⟩
  refine aw_skip ?_
  refine xt_n ?_
  refine hK _ ?_
  clear hK K
  refine aw_seq_k fun K hK => ?_
  refine w_region (n' := 6) kR kR ?_
  refine aops_n hTT (M := []) (n := 45) [pv (210 : Nat) (V.ref (300020 : Nat) (0 : Nat)), pc (211 : Nat) ((0 : Nat) ≤ (2 : Nat)) (V.i (Fs.F F')), pv (212 : Nat) (V.ref (200017 : Nat) (0 : Nat)), pc (213 : Nat) ((0 : Nat) ≤ (2 : Nat)) (V.i (Fs.F F)), pv (214 : Nat) (V.b (decide (Fs.F F' < Fs.F F))), pv (215 : Nat) (V.b (decide (Fs.F F' < Fs.F F))), pc (216 : Nat) ((True ∧ True) ∧ ((wckB0 F F') = true → True)) (V.gd (wckB0 F F') (V.ref (300020 : Nat) (1 : Nat))), pc (217 : Nat) ((((wckB0 F F') = true → (wckB0 F F') = true) ∧ True) ∧ ((wckB0 F F') = true → (1 : Nat) ≤ (2 : Nat))) (V.gd (wckB0 F F') (V.i (Fs.G F' - 1))), pc (218 : Nat) ((True ∧ True) ∧ ((wckB0 F F') = true → True)) (V.gd (wckB0 F F') (V.ref (200017 : Nat) (1 : Nat))), pc (219 : Nat) ((((wckB0 F F') = true → (wckB0 F F') = true) ∧ True) ∧ ((wckB0 F F') = true → (1 : Nat) ≤ (2 : Nat))) (V.gd (wckB0 F F') (V.i (Fs.G F - 1))), pc (220 : Nat) ((((wckB0 F F') = true → (wckB0 F F') = true) ∧ ((wckB0 F F') = true → (wckB0 F F') = true) ∧ True) ∧ ((wckB0 F F') = true → True)) (V.gd (wckB0 F F') (V.b (decide (Fs.G F - 1 < Fs.G F' - 1)))), pc (221 : Nat) (True ∧ (decide (Fs.F F' < Fs.F F) = false → (wckB0 F F') = true)) (V.b (wckB4 F F')), pv (222 : Nat) (V.b (wckB4 F F')), pc (223 : Nat) ((True ∧ True) ∧ (((wckB4 F F') == false) = true → True)) (V.gd ((wckB4 F F') == false) (V.ref (300021 : Nat) (0 : Nat))), pc (224 : Nat) (((((wckB4 F F') == false) = true → ((wckB4 F F') == false) = true) ∧ True) ∧ (((wckB4 F F') == false) = true → (0 : Nat) ≤ (2 : Nat))) (V.gd ((wckB4 F F') == false) (V.i (Fs.F G'))), pc (225 : Nat) ((True ∧ True) ∧ (((wckB4 F F') == false) = true → True)) (V.gd ((wckB4 F F') == false) (V.ref (200018 : Nat) (0 : Nat))), pc (226 : Nat) (((((wckB4 F F') == false) = true → ((wckB4 F F') == false) = true) ∧ True) ∧ (((wckB4 F F') == false) = true → (0 : Nat) ≤ (2 : Nat))) (V.gd ((wckB4 F F') == false) (V.i (Fs.F G))), pc (227 : Nat) (((((wckB4 F F') == false) = true → ((wckB4 F F') == false) = true) ∧ (((wckB4 F F') == false) = true → ((wckB4 F F') == false) = true) ∧ True) ∧ (((wckB4 F F') == false) = true → True)) (V.gd ((wckB4 F F') == false) (V.b (decide (Fs.F G' < Fs.F G)))), pc (228 : Nat) (True ∧ ((wckB4 F F') = false → ((wckB4 F F') == false) = true)) (V.b (wckB8 F F' G G')), pv (229 : Nat) (V.b (wckB8 F F' G G')), pc (230 : Nat) ((True ∧ True) ∧ (((wckB8 F F' G G') == false) = true → True)) (V.gd ((wckB8 F F' G G') == false) (V.ref (300021 : Nat) (1 : Nat))), pc (231 : Nat) (((((wckB8 F F' G G') == false) = true → ((wckB8 F F' G G') == false) = true) ∧ True) ∧ (((wckB8 F F' G G') == false) = true → (1 : Nat) ≤ (2 : Nat))) (V.gd ((wckB8 F F' G G') == false) (V.i (Fs.G G' - 1))), pc (232 : Nat) ((True ∧ True) ∧ (((wckB8 F F' G G') == false) = true → True)) (V.gd ((wckB8 F F' G G') == false) (V.ref (200018 : Nat) (1 : Nat))), pc (233 : Nat) (((((wckB8 F F' G G') == false) = true → ((wckB8 F F' G G') == false) = true) ∧ True) ∧ (((wckB8 F F' G G') == false) = true → (1 : Nat) ≤ (2 : Nat))) (V.gd ((wckB8 F F' G G') == false) (V.i (Fs.G G - 1))), pc (234 : Nat) (((((wckB8 F F' G G') == false) = true → ((wckB8 F F' G G') == false) = true) ∧ (((wckB8 F F' G G') == false) = true → ((wckB8 F F' G G') == false) = true) ∧ True) ∧ (((wckB8 F F' G G') == false) = true → True)) (V.gd ((wckB8 F F' G G') == false) (V.b (decide (Fs.G G - 1 < Fs.G G' - 1)))), pc (235 : Nat) (True ∧ ((wckB8 F F' G G') = false → ((wckB8 F F' G G') == false) = true)) (V.b (wckB11 F F' G G')), pv (236 : Nat) (V.b (wckB11 F F' G G')), pc (237 : Nat) ((True ∧ True) ∧ (((wckB11 F F' G G') == false) = true → True)) (V.gd ((wckB11 F F' G G') == false) (V.ptr [V.i (Cut.gain c), V.i (Cut.thin c), V.i (Cut.wide c), V.i (Cut.slope c), V.i (Cut.jerk c), V.i (Cut.sty c)])), pc (238 : Nat) (((((wckB11 F F' G G') == false) = true → ((wckB11 F F' G G') == false) = true) ∧ True) ∧ (((wckB11 F F' G G') == false) = true → True)) (V.gd ((wckB11 F F' G G') == false) (V.i (Cut.gain c))), pc (239 : Nat) (((((wckB11 F F' G G') == false) = true → ((wckB11 F F' G G') == false) = true) ∧ True ∧ True) ∧ (((wckB11 F F' G G') == false) = true → True)) (V.gd ((wckB11 F F' G G') == false) (V.b (decide ((1000 : Int) ≤ Cut.gain c)))), pc (240 : Nat) (((((wckB11 F F' G G') == false) = true → ((wckB11 F F' G G') == false) = true) ∧ True) ∧ (((wckB11 F F' G G') == false) = true → True)) (V.gd ((wckB11 F F' G G') == false) (V.b (decide ((1000 : Int) ≤ Cut.gain c)))), pc (241 : Nat) ((True ∧ True) ∧ ((wckB12 F F' G G' c) = true → True)) (V.gd (wckB12 F F' G G' c) (V.ref (300020 : Nat) (0 : Nat))), pc (242 : Nat) ((((wckB12 F F' G G' c) = true → (wckB12 F F' G G' c) = true) ∧ True) ∧ ((wckB12 F F' G G' c) = true → (0 : Nat) ≤ (2 : Nat))) (V.gd (wckB12 F F' G G' c) (V.i (Fs.F F'))), pc (243 : Nat) ((True ∧ True) ∧ ((wckB12 F F' G G' c) = true → True)) (V.gd (wckB12 F F' G G' c) (V.ref (300020 : Nat) (1 : Nat))), pc (244 : Nat) ((((wckB12 F F' G G' c) = true → (wckB12 F F' G G' c) = true) ∧ True) ∧ ((wckB12 F F' G G' c) = true → (1 : Nat) ≤ (2 : Nat))) (V.gd (wckB12 F F' G G' c) (V.i (Fs.G F' - 1))), pc (245 : Nat) ((((wckB12 F F' G G' c) = true → (wckB12 F F' G G' c) = true) ∧ ((wckB12 F F' G G' c) = true → (wckB12 F F' G G' c) = true) ∧ True) ∧ ((wckB12 F F' G G' c) = true → True)) (V.gd (wckB12 F F' G G' c) (V.b !decide (Fs.F F' = Fs.G F' - 1))), pc (246 : Nat) ((((wckB12 F F' G G' c) = true → (wckB12 F F' G G' c) = true) ∧ True) ∧ ((wckB12 F F' G G' c) = true → True)) (V.gd (wckB12 F F' G G' c) (V.b !decide (Fs.F F' = Fs.G F' - 1))), pc (247 : Nat) ((True ∧ True) ∧ ((wckB13 F F' G G' c) = true → True)) (V.gd (wckB13 F F' G G' c) (V.ref (300021 : Nat) (0 : Nat))), pc (248 : Nat) ((((wckB13 F F' G G' c) = true → (wckB13 F F' G G' c) = true) ∧ True) ∧ ((wckB13 F F' G G' c) = true → (0 : Nat) ≤ (2 : Nat))) (V.gd (wckB13 F F' G G' c) (V.i (Fs.F G'))), pc (249 : Nat) ((True ∧ True) ∧ ((wckB13 F F' G G' c) = true → True)) (V.gd (wckB13 F F' G G' c) (V.ref (300021 : Nat) (1 : Nat))), pc (250 : Nat) ((((wckB13 F F' G G' c) = true → (wckB13 F F' G G' c) = true) ∧ True) ∧ ((wckB13 F F' G G' c) = true → (1 : Nat) ≤ (2 : Nat))) (V.gd (wckB13 F F' G G' c) (V.i (Fs.G G' - 1))), pc (251 : Nat) ((((wckB13 F F' G G' c) = true → (wckB13 F F' G G' c) = true) ∧ ((wckB13 F F' G G' c) = true → (wckB13 F F' G G' c) = true) ∧ True) ∧ ((wckB13 F F' G G' c) = true → True)) (V.gd (wckB13 F F' G G' c) (V.b !decide (Fs.F G' = Fs.G G' - 1))), pc (252 : Nat) (((wckB12 F F' G G' c) = true → (wckB12 F F' G G' c) = true) ∧ ((wckB12 F F' G G' c) = true → True) ∧ ((wckB12 F F' G G' c) = true → (!decide (Fs.F F' = Fs.G F' - 1)) = false → (wckB13 F F' G G' c) = true)) (V.gd (wckB12 F F' G G' c) (V.b (wckB5 F' G'))), pc (253 : Nat) ((((wckB11 F F' G G') == false) = true → ((wckB11 F F' G G') == false) = true) ∧ (((wckB11 F F' G G') == false) = true → decide ((1000 : Int) ≤ Cut.gain c) = true → (wckB12 F F' G G' c) = true) ∧ (((wckB11 F F' G G') == false) = true → True)) (V.gd ((wckB11 F F' G G') == false) (V.b (decide ((1000 : Int) ≤ Cut.gain c) && (wckB5 F' G')))), pc (254 : Nat) (True ∧ ((wckB11 F F' G G') = false → ((wckB11 F F' G G') == false) = true)) (V.b (decide (Fs.F F' < Fs.F F) || decide (Fs.G F - 1 < Fs.G F' - 1) || decide (Fs.F G' < Fs.F G) || decide (Fs.G G - 1 < Fs.G G' - 1) || decide ((1000 : Int) ≤ Cut.gain c) && (wckB5 F' G')))] kR kR ⟨oM, oM, ⟨⟨tI, tI⟩, (fun _ => tI)⟩, ⟨⟨(by (exact fun h => h)), tI⟩, (by (intro _; simp; done))⟩, ⟨⟨tI, tI⟩, (fun _ => tI)⟩, ⟨⟨(by (exact fun h => h)), tI⟩, (by (intro _; simp; done))⟩, ⟨⟨(by (exact fun h => h)), ⟨(by (exact fun h => h)), tI⟩⟩, (fun _ => tI)⟩, ⟨tI, eFWHBack⟩, ⟨⟨tI, tI⟩, (fun _ => tI)⟩, ⟨⟨(by (exact fun h => h)), tI⟩, (by (intro _; simp; done))⟩, ⟨⟨tI, tI⟩, (fun _ => tI)⟩, ⟨⟨(by (exact fun h => h)), tI⟩, (by (intro _; simp; done))⟩, ⟨⟨(by (exact fun h => h)), ⟨(by (exact fun h => h)), tI⟩⟩, (fun _ => tI)⟩, ⟨tI, eFWHBack⟩, ⟨⟨tI, tI⟩, (fun _ => tI)⟩, ⟨⟨(by (exact fun h => h)), tI⟩, (by (intro _; simp; done))⟩, ⟨⟨tI, tI⟩, (fun _ => tI)⟩, ⟨⟨(by (exact fun h => h)), tI⟩, (by (intro _; simp; done))⟩, ⟨⟨(by (exact fun h => h)), ⟨(by (exact fun h => h)), tI⟩⟩, (fun _ => tI)⟩, ⟨tI, eFWHBack⟩, ⟨⟨tI, tI⟩, (fun _ => tI)⟩, ⟨⟨(by (exact fun h => h)), tI⟩, (fun _ => tI)⟩, ⟨⟨(by (exact fun h => h)), ⟨tI, tI⟩⟩, (fun _ => tI)⟩, ⟨⟨(by (exact fun h => h)), tI⟩, (fun _ => tI)⟩, ⟨⟨tI, tI⟩, (fun _ => tI)⟩, ⟨⟨(by (exact fun h => h)), tI⟩, (by (intro _; simp; done))⟩, ⟨⟨tI, tI⟩, (fun _ => tI)⟩, ⟨⟨(by (exact fun h => h)), tI⟩, (by (intro _; simp; done))⟩, ⟨⟨(by (exact fun h => h)), ⟨(by (exact fun h => h)), tI⟩⟩, (fun _ => tI)⟩, ⟨⟨(by (exact fun h => h)), tI⟩, (fun _ => tI)⟩, ⟨⟨tI, tI⟩, (fun _ => tI)⟩, ⟨⟨(by (exact fun h => h)), tI⟩, (by (intro _; simp; done))⟩, ⟨⟨tI, tI⟩, (fun _ => tI)⟩, ⟨⟨(by (exact fun h => h)), tI⟩, (by (intro _; simp; done))⟩, ⟨⟨(by (exact fun h => h)), ⟨(by (exact fun h => h)), tI⟩⟩, (fun _ => tI)⟩, ⟨(by (exact fun h => h)), ⟨(fun _ => tI), (by (simp; omega))⟩⟩, ⟨(by (exact fun h => h)), ⟨(by (simp; omega)), (fun _ => tI)⟩⟩, ⟨tI, eFWHBack⟩, tI⟩ ?_
  refine aops_nil ?_
  refine xt_n ?_
  refine hK _ ?_
  clear hK K
  refine w_cond (t := decide (Fs.F F' < Fs.F F) || decide (Fs.G F - 1 < Fs.G F' - 1) || decide (Fs.F G' < Fs.F G) || decide (Fs.G G - 1 < Fs.G G' - 1) || decide ((1000 : Int) ≤ Cut.gain c) && (!decide (Fs.F F' = Fs.G F' - 1) || !decide (Fs.F G' = Fs.G G' - 1))) kR (fun c5 => ?_) (fun c5 => ?_)
  ·
   exfalso
   simp at c5
   omega
  clear c5
  refine aw_skip ?_
  refine xb_n ?_
  refine xt_n ?_
  refine hK _ ?_
  clear hK K
  refine w_region (n' := 7) kR kR ?_
  refine aops_n hTT (M := []) (n := 3) [pv (102 : Nat) (V.i (↑k : Int)), pc (103 : Nat) ((-9223372036854775808 : Int) ≤ (↑k : Int) + 1 ∧ (↑k : Int) + 1 ≤ (9223372036854775807 : Int)) (V.i ((↑k : Int) + 1)), pv (16 : Nat) (V.i ((↑k : Int) + 1))] kR kR ⟨oM, tI⟩ ?_
  refine aops_nil ?_
  refine xt_n ?_
  refine ⟨k + 1, by omega, by refine le_ren [] (.cons kR (.cons kR (.cons kR (.cons kR (.cons kR .nil))))) .nil kR kR, by omega⟩
 ·
  refine aw_exit ?_
  refine xt_x ?_
  refine xt_x ?_
  refine xb_same ?_
  refine xt_n ?_
  clear hK K
  refine hK _ ?_
  clear hK K
  refine aw_seq_k fun K hK => ?_
  refine w_region (n' := 3) kR kR ?_
  refine e_call (first := []) (caps := []) (works06_ac) kR kR kR kR kR ?_
  refine aops_n hTT (M := []) (n := 1) [pv (8 : Nat) (V.b true)] kR kR tI ?_
  refine aops_nil ?_
  refine xt_n ?_
  refine hK _ ?_
  clear hK K
  refine aw_ret ?_
  refine ret_pure (v' := V.b true) (.inr rfl) kR kR kR
def hbackSh : List Sh := [(.sl (.fld (.int .i64) (.lst (.int .i64)))), (.fld (.int .i64) (.fld (.int .i64) (.fld (.int .i64) (.fld (.int .i64) (.fld (.int .i64) (.fld (.int .i64) (.lst (.int .i64)))))))), (.lst (.sl (.int .i64))), (.int .u8)]
theorem hback_all (x : TL hbackSh) (hx : wfL hbackSh x) : AC Tryz.prog 3 (valL hbackSh x) (V.b true) [] := by
 obtain ⟨p, ⟨h, g, th, wi, sl, je, sty⟩, t, w, _⟩ := x
 obtain ⟨⟨h4, h5⟩, _, ⟨h6, _⟩, hw, _⟩ := hx
 exact hback_law p ⟨h, g, th, wi, sl, je, sty⟩ t w h4 (wf_ptsT h5) h6 (wf_u8 hw)
end Go.Proofs.YtepkjobndmmejaaGreatDoor

namespace Go.Proofs.YtepkjobndmmejaaGreatDoor
open Go.Ab Go.RowKit Go.Dw Go.Shelf Go.ChangeShapes Go.WideShapes Go.ChangeAt Go.Deep
def growsLaid : List (String × DataW Unit) := [("unicode/utf8.acceptRanges", Rows.laid_unicode_utf8_acceptRanges), ("unicode/utf8.first", Rows.laid_unicode_utf8_first)]
theorem gl_of_laid {W : World} (h : laidMetH Tryz.prog growsLaid W) (g : Nat) : R W (fun b => b < W.heap.size) ρ0 (gvals g) (gval g) := .any _ _
theorem lay_met (os : Os) (args : Array Value) : laidMetH Tryz.prog growsLaid ((World.laidAll Tryz.prog os growsLaid).forCall (fun _ _ => 0) ⟨#[], args, []⟩).memory := by
 rw [MakeChecks.laidMetH_plain _ _ _ kR]; exact laidMet_laidAll _ kR kR
end Go.Proofs.YtepkjobndmmejaaGreatDoor
