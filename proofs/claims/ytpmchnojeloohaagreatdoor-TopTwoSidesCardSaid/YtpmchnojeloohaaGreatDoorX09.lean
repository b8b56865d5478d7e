/-
  Several texts in one: Takes and parts as arguments. No condition. .. The listed variables of the top: they are never read; the start that meets the condition.
-/
import Derived.Test.YtpmchnojeloohaaGreatDoorTie
import Derived.Test.YtpmchnojeloohaaGreatDoorCards
import Derived.ProofKit
import Derived.LaidMore
import Derived.Lay
import Derived.OpenShut
import Derived.Stop.Joined
import Derived.SevenTiedAt
import Derived.Test.YtpmchnojeloohaaGreatDoorX05
import Derived.Test.YtpmchnojeloohaaGreatDoorMC
import Derived.Test.YtpmchnojeloohaaGreatDoorAbs42
import Derived.Test.YtpmchnojeloohaaGreatDoorX06
import Derived.Test.YtpmchnojeloohaaGreatDoorX08
namespace Go.Proofs.YtpmchnojeloohaaGreatDoor
open Go.Ab Go.RowKit Go.Dw Go.Shelf
abbrev takeS : Sh := .fld .str (.lst (.sl (.fld (.int .i64) (.lst (.int .i64)))))
abbrev partS : Sh := .fld (.int .i64) (.fld (.int .i64) (.fld (.int .i64) (.fld (.int .i64) (.fld (.int .i64) (.fld (.int .i64) (.lst (.int .i64)))))))
theorem wtk_of {l : List Tk} (h : Sh.wf (.sl takeS) l) : WTk l := by
 obtain ⟨h1, h2⟩ := h
 refine ⟨h1, fun i hi => ?_, fun i hi => ?_, fun i hi k hk => ?_⟩
 ·
  obtain ⟨h3, _⟩ := h2 _ (gtk_mem hi)
  exact Nat.le_trans h3 (by decide)
 ·
  obtain ⟨_, h4, _⟩ := h2 _ (gtk_mem hi)
  exact h4
 ·
  obtain ⟨_, _, h5⟩ := h2 _ (gtk_mem hi)
  obtain ⟨q1, q2⟩ := h5 (gp (gtk l i).2 k) (by
   rw [gp, List.getD_eq_getElem?_getD, List.getElem?_eq_getElem hk]
   exact List.getElem_mem _)
  have q1 := wf_i64 q1
  have q2 := wf_i64 q2
  exact ⟨by simp only [inR]; omega, by simp only [inR]; omega⟩
end Go.Proofs.YtpmchnojeloohaaGreatDoor

namespace Go.Proofs.YtpmchnojeloohaaGreatDoor
open Go.Ab Go.RowKit Go.Dw Go.Shelf
theorem eFWTwoS {x c : Bool} (h : x = c) : (x == c) = true := by rw [h]; cases c <;> rfl
theorem tmod_natT {a : Int} (h : 0 ≤ a) {m : Nat} (hm : 0 < m) : ∃ k : Nat, a.tmod m = k ∧ k < m := by
 have h1 := Int.emod_nonneg a (show (m : Int) ≠ 0 by omega)
 have h2 := Int.emod_lt_of_pos a (show 0 < (m : Int) by omega)
 refine ⟨(a.tmod m).toNat, ?_, ?_⟩
 ·
  rw [Int.tmod_eq_emod_of_nonneg h]; omega
 ·
  rw [Int.tmod_eq_emod_of_nonneg h]; omega
theorem sChk_in {s : List Pt} (h : sChk s = 0) : ∀ k, k < s.length → inR2 (gp s k) := fun k hk => by
 have h1 := sE_bd ((sChk_all h).2 (gp s k) (by
  rw [gp, List.getD_eq_getElem?_getD, List.getElem?_eq_getElem hk]
  exact List.getElem_mem _))
 exact ⟨by simp only [inR]; omega, by simp only [inR]; omega⟩
abbrev zzWTwoS0 : V := V.sl 2 0 fun (k : Nat) => [V.i (Prod.fst (gp [] k)), V.i (Prod.snd (gp [] k))]
abbrev yyWTwoS2 (c : Cut) : List V := [V.i (Cut.half c), V.i (Cut.gain c), V.i (Cut.thin c), V.i (Cut.wide c), V.i (Cut.slope c), V.i (Cut.jerk c), V.i (Cut.sty c)]
abbrev yyWTwoS0 (c : Cut) : V := V.ptr (yyWTwoS2 c)
abbrev yyWTwoS1 (c : Cut) : V := V.agg (yyWTwoS2 c)
abbrev yyWTwoS3 (b : Bl) : V := V.ptr [V.i (Bl.per b), V.i (Bl.rim b), V.i (Bl.core b), V.i (Bl.land b), V.i (Bl.slow b), V.i (Bl.fast b)]
abbrev yyWTwoS4 (b : Bl) : V := V.agg [V.i (Bl.per b), V.i (Bl.rim b), V.i (Bl.core b), V.i (Bl.land b), V.i (Bl.slow b), V.i (Bl.fast b)]
abbrev yyWTwoS5 := ((false == false) = true → (false == false) = true)
abbrev wosB0 (o : List Int) (s : List Pt) : Bool := (!decide ((↑(List.length o) : Int) = (↑(List.length s) : Int))) == false
abbrev wosB1 (c : Cut) (n : Nat) (o : List Int) (o1 : List Int) (p : List Pr) (s : List Pt) : Bool := !decide ((↑(List.length o) : Int) = (↑(List.length s) : Int)) || !decide ((↑(List.length o1) : Int) = (↑(List.length (List.map (wallP c) (List.take (Int.toNat (enN p n)) s))) : Int))
abbrev wosB2 (c : Cut) (n : Nat) (o : List Int) (o1 : List Int) (p : List Pr) (s : List Pt) : Bool := (wosB1 c n o o1 p s) == false
abbrev wosB3 (c : Cut) (n : Nat) (o : List Int) (o1 : List Int) (o2 : List Int) (p : List Pr) (s : List Pt) (t : Nat) : Bool := !decide ((↑(List.length o) : Int) = (↑(List.length s) : Int)) || !decide ((↑(List.length o1) : Int) = (↑(List.length (List.map (wallP c) (List.take (Int.toNat (enN p n)) s))) : Int)) || !decide ((↑(List.length o2) : Int) = (↑(List.length (List.map (wallP c) (List.drop t s))) : Int))
abbrev wosB4 (c : Cut) (n : Nat) (o : List Int) (o1 : List Int) (o2 : List Int) (p : List Pr) (s : List Pt) (t : Nat) : Bool := (wosB3 c n o o1 o2 p s t) == false
abbrev wosB5 (c : Cut) (n : Nat) (o : List Int) (o1 : List Int) (o2 : List Int) (p : List Pr) (s : List Pt) (t : Nat) : Bool := !decide ((↑(List.length o) : Int) = (↑(List.length s) : Int)) || !decide ((↑(List.length o1) : Int) = (↑(List.length (List.map (wallP c) (List.take (Int.toNat (enN p n)) s))) : Int)) || !decide ((↑(List.length o2) : Int) = (↑(List.length (List.map (wallP c) (List.drop t s))) : Int)) || decide ((↑t : Int) < (↑(List.length (List.map (wallP c) (List.take (Int.toNat (enN p n)) s))) : Int))
abbrev wosB6 (c : Cut) (n : Nat) (o : List Int) (o1 : List Int) (o2 : List Int) (p : List Pr) (s : List Pt) (t : Nat) : Bool := (wosB5 c n o o1 o2 p s t) == false
set_option maxHeartbeats 4000000 in
set_option maxRecDepth 100000 in
theorem twos_law (l : List Tk) (p : List Pr) (at' : Int) (c : Cut) (b : Bl) (h : WTk l) (hp : p.length ≤ 4611686018427387904) (ha : 0 ≤ at' ∧ at' ≤ 255) : AC Tryz.prog 3 [V.tks l, V.prs p, .c (.int .u8 at'), c.v, b.v] (.b true) [] := by
 refine acI hTT hMX Tryz.func3 Tryz.ntmps3 fun C hC hF => ?_
 by_cases hpg : p.length ≤ 6 ∧ cpE l p = 0 ∧ enN p p.length ≤ 200 ∧ rnE l p = 0
 ·
  obtain ⟨g1, g2, g3, g4⟩ := hpg
  have hk := cpE_ok g2
  have hlen := rndL_len (l := l) (p := p)
  have hnn := hk.nn (Nat.le_refl p.length)
  have hs : sChk (rndL l p) = 0 := by
   unfold rnE at g4
   split at g4
   ·
    assumption
   ·
    omega
  have hin := sChk_in hs
  refine sK fun K hK => wR 2 ?_
  refine aops_n hTT (M := []) (n := 3) [pv 8 ((yyWTwoS0 c)), pv 9 ((yyWTwoS3 b)), pv 10 (V.b false)] kR kR tI ?_
  refine nK hK ?_; clear hK K; refine sK fun K hK => wR 3 ?_
  refine aops_n hTT (M := []) (n := 2) [pv 34 (V.sl 2 (List.length l) fun (k : Nat) => [nmV (Prod.fst (gtk l k)), V.pts (Prod.snd (gtk l k))]), pv 35 (V.sl 7 (List.length p) fun (k : Nat) => Pr.c (gpr p k))] kR kR tI ?_
  refine eC (programme_ok l p h g1 g2 g3 g4) ?_
  obtain ⟨s, hsd⟩ : ∃ s, s = rndL l p := ⟨_, rfl⟩
  rw [← hsd] at hlen hs hin ⊢
  refine aops_n hTT (M := []) (n := 5) [pv 33 (V.tup [V.sl 2 (List.length s) fun (k : Nat) => [V.i (Prod.fst (gp s k)), V.i (Prod.snd (gp s k))], V.b true]), pv 37 (V.sl 2 (List.length s) fun (k : Nat) => [V.i (Prod.fst (gp s k)), V.i (Prod.snd (gp s k))]), pv 38 (V.b true), pv 11 (V.sl 2 (List.length s) fun (k : Nat) => [V.i (Prod.fst (gp s k)), V.i (Prod.snd (gp s k))]), pv 12 (V.b true)] kR kR tI ?_
  refine nK hK ?_; clear hK K; refine sK fun K hK => ?_; refine sK fun K hK => wR 4 ?_
  refine aops_n hTT (M := []) (n := 2) [pv 39 (V.b true), pv 40 (V.b false)] kR kR tI ?_
  refine nK hK ?_; clear hK K; refine w_false (t := false) kR rfl ?_
  refine aw_skip ?_
  refine xt_n (hK _ ?_); clear hK K; refine sK fun K hK => wR 5 ?_
  refine aops_n hTT (M := []) (n := 3) [pv 43 (V.sl 2 (List.length s) fun (k : Nat) => [V.i (Prod.fst (gp s k)), V.i (Prod.snd (gp s k))]), pv 44 ((yyWTwoS1 c)), pv 45 ((yyWTwoS4 b))] kR kR tI ?_
  by_cases h0 : s.length ≤ 40 ∧ blE b = 0
  ·
   refine eC (cut_some c b s 40 h0 oM hin) ?_
   by_cases hc1 : cutE c = 0
   ·
    rw [cutR_3 hc1 hs]
    have hs1 : SOk b (s.map (wallP c)) := ⟨h0.2, wall_gChk hc1 hs⟩
    have hlg : (s.map (wallP c)).length = s.length := by simp
    have hb1 := (blE_ok.1 h0.2).1.1
    obtain ⟨t, ht1, ht2⟩ := tmod_natT ha.1 (m := s.length + 1) oM
    have ht1 : at'.tmod ((s.length : Int) + 1) = t := ht1
    have htn : (t : Int) ≤ enN p p.length := by omega
    have S := Split_ac l p t hk oM htn
    refine aops_n hTT (M := []) (n := 5) [pv 42 (V.tup [V.sl 2 (List.length (List.map (wallP c) s)) fun (k : Nat) => [V.i (Prod.fst (gp (List.map (wallP c) s) k)), V.i (Prod.snd (gp (List.map (wallP c) s) k))], V.b true]), pv 47 (V.sl 2 (List.length (List.map (wallP c) s)) fun (k : Nat) => [V.i (Prod.fst (gp (List.map (wallP c) s) k)), V.i (Prod.snd (gp (List.map (wallP c) s) k))]), pv 48 (V.b true), pv 13 (V.sl 2 (List.length (List.map (wallP c) s)) fun (k : Nat) => [V.i (Prod.fst (gp (List.map (wallP c) s) k)), V.i (Prod.snd (gp (List.map (wallP c) s) k))]), pv 12 (V.b true)] kR kR tI ?_
    refine nK hK ?_; clear hK K; refine sK fun K hK => ?_; refine sK fun K hK => wR 6 ?_
    refine aops_n hTT (M := []) (n := 2) [pv 49 (V.b true), pv 50 (V.b false)] kR kR tI ?_
    refine nK hK ?_; clear hK K; refine w_false (t := false) kR rfl ?_
    refine aw_skip ?_
    refine xt_n (hK _ ?_); clear hK K; refine sK fun K hK => wR 7 ?_
    refine aops_n hTT (M := []) (n := 7) [pv 52 (V.c (Value.int IntKind.u8 at')), pc 53 ((-9223372036854775808 : Int) ≤ at' ∧ at' ≤ 9223372036854775807) (V.i at'), pv 54 (V.sl 2 (List.length s) fun (k : Nat) => [V.i (Prod.fst (gp s k)), V.i (Prod.snd (gp s k))]), pv 55 (V.i (↑(List.length s) : Int)), pc 56 ((-9223372036854775808 : Int) ≤ (↑(List.length s) : Int) + 1 ∧ (↑(List.length s) : Int) + 1 ≤ (9223372036854775807 : Int)) (V.i ((↑(List.length s) : Int) + 1)), pc 57 ((↑(List.length s) : Int) + 1 ≠ (0 : Int)) (V.i (Int.tmod at' ((↑(List.length s) : Int) + 1))), pv 14 (V.i (Int.tmod at' ((↑(List.length s) : Int) + 1)))] kR kR ⟨oM, oM, oM, tI⟩ ?_
    refine nK hK ?_; clear hK K; refine sK fun K hK => wR 8 ?_
    refine aops_n hTT (M := []) (n := 3) [pv 59 (V.sl 2 (List.length l) fun (k : Nat) => [nmV (Prod.fst (gtk l k)), V.pts (Prod.snd (gtk l k))]), pv 60 (V.sl 7 (List.length p) fun (k : Nat) => Pr.c (gpr p k)), pv 61 (V.i (Int.tmod at' ((↑(List.length s) : Int) + 1)))] kR kR tI ?_
    rw [ht1]
    by_cases hst : strB' p t = true
    ·
     rw [if_pos hst] at S
     refine eC (S) ?_
     refine aops_n hTT (M := []) (n := 7) [pv 58 (V.tup [V.nil, V.nil, V.i 10]), pv 63 V.nil, pv 64 V.nil, pv 65 (V.i 10), pv 15 V.nil, pv 16 V.nil, pv 17 (V.i 10)] kR kR tI ?_
     refine nK hK ?_; clear hK K; refine sK fun K hK => ?_; refine sK fun K hK => wR 9 ?_
     refine aops_n hTT (M := []) (n := 2) [pv 66 (V.i 10), pv 67 (V.b true)] kR kR tI ?_
     refine nK hK ?_; clear hK K; refine w_true (t := true) kR rfl ?_; refine sK fun K hK => wR 10 ?_
     refine aops_n hTT (M := []) (n := 3) [pv 68 (V.i 10), pv 69 (V.b true), pv 70 (V.b true)] kR kR tI ?_
     refine eG 0 (g := true == true) (fun g => works05_ac) ?_
     refine aops_n hTT (M := []) (n := 2) [pc 72 ((true = true → (true == true) = true) ∧ True) (V.b true), pv 10 (V.b true)] kR kR ⟨⟨(by (exact fun h => h)), tI⟩, tI⟩ ?_
     refine nK hK ?_; clear hK K
     refine aw_ret ?_
     refine xt_r ?_
     refine rP (V.b true)
    have hst2 : strB' p t = false := by simpa using hst
    have hsk := split_ok hk oM htn hst2
    rw [if_neg hst] at S
    obtain ⟨n, hn⟩ : ∃ n, n = cutN p t p.length := ⟨_, rfl⟩
    rw [← hn] at S hsk
    refine eC (S) ?_
    refine aops_n hTT (M := []) (n := 7) [pv 58 (V.tup [V.sl 7 (List.length (List.take n p)) fun (k : Nat) => Pr.c (gpr (List.take n p) k), V.sl 7 (List.length (secL p n (↑t : Int))) fun (k : Nat) => Pr.c (gpr (secL p n (↑t : Int)) k), V.i 0]), pv 63 (V.sl 7 (List.length (List.take n p)) fun (k : Nat) => Pr.c (gpr (List.take n p) k)), pv 64 (V.sl 7 (List.length (secL p n (↑t : Int))) fun (k : Nat) => Pr.c (gpr (secL p n (↑t : Int)) k)), pv 65 (V.i 0), pv 15 (V.sl 7 (List.length (List.take n p)) fun (k : Nat) => Pr.c (gpr (List.take n p) k)), pv 16 (V.sl 7 (List.length (secL p n (↑t : Int))) fun (k : Nat) => Pr.c (gpr (secL p n (↑t : Int)) k)), pv 17 (V.i 0)] kR kR tI ?_
    refine nK hK ?_; clear hK K; refine sK fun K hK => ?_; refine sK fun K hK => wR 9 ?_
    refine aops_n hTT (M := []) (n := 2) [pv 66 (V.i 0), pv 67 (V.b false)] kR kR tI ?_
    refine nK hK ?_; clear hK K; refine w_false (t := false) kR rfl ?_
    refine aw_skip ?_
    refine xt_n (hK _ ?_); clear hK K; refine sK fun K hK => wR 10 ?_
    refine aops_n hTT (M := []) (n := 2) [pv 74 ((yyWTwoS4 b)), pv 75 (V.sl 2 (List.length (List.map (wallP c) s)) fun (k : Nat) => [V.i (Prod.fst (gp (List.map (wallP c) s) k)), V.i (Prod.snd (gp (List.map (wallP c) s) k))])] kR kR tI ?_
    by_cases ho : ∃ o, LOut b (s.map (wallP c)) o
    ·
     obtain ⟨o, ho⟩ := ho
     have e1 := first_eq hsk
     have e2 := second_eq hsk
     have e3 := (first_rnd hsk).2.1
     have e4 := hsk.ok.nn (i := n) hsk.n1
     rw [← hsd] at e1 e2
     rw [Int.toNat_natCast] at e2
     have hs2 : sChk (rndL l (p.take n)) = 0 := by rw [e1]; exact sChk_take hs _
     have hs3 : sChk (rndL l (secL p n t)) = 0 := by rw [e2]; exact sChk_drop hs _
     have R1 := Render_ac l (p.take n) (first_ok hsk)
     have R2 := Render_ac l (secL p n t) (second_ok hsk)
     rw [if_pos (show rnE l (p.take n) = 0 by rw [rnE, if_pos hs2]), e1] at R1
     rw [if_pos (show rnE l (secL p n t) = 0 by rw [rnE, if_pos hs3]), e2] at R2
     rw [e1] at hs2
     rw [e2] at hs3
     have C1 := Cut_ac c (s.take (enN p n).toNat) (by rw [List.length_take]; omega)
     have C2 := Cut_ac c (s.drop t) (by rw [List.length_drop]; omega)
     rw [cutR_3 hc1 hs2] at C1
     rw [cutR_3 hc1 hs3] at C2
     obtain ⟨o1, k1, k2⟩ := lout_take hb1 ho (enN p n).toNat
     obtain ⟨o2, k3, k4⟩ := lout_drop hb1 ho t
     rw [← List.map_take] at k1 k2
     rw [← List.map_drop] at k3 k4
     have hs4 : SOk b ((s.take (enN p n).toNat).map (wallP c)) := ⟨h0.2, wall_gChk hc1 hs2⟩
     have hs5 : SOk b ((s.drop t).map (wallP c)) := ⟨h0.2, wall_gChk hc1 hs3⟩
     have lo := ho.1
     have lo1 := k1.1
     have lo2 := k3.1
     have m1 : ((s.take (enN p n).toNat).map (wallP c)).length = (enN p n).toNat := by rw [List.length_map, List.length_take]; omega
     have m2 : ((s.drop t).map (wallP c)).length = s.length - t := by rw [List.length_map, List.length_drop]
     rw [hlg] at lo
     rw [m1] at lo1 k2
     rw [m2] at lo2 k4
     refine eC (Outer_ok b _ hs1 ho) ?_
     refine aops_n hTT (M := []) (n := 5) [pv 73 (V.tup [V.sl 1 (List.length o) fun (k : Nat) => [V.i (gi o k)], V.i 0]), pv 77 (V.sl 1 (List.length o) fun (k : Nat) => [V.i (gi o k)]), pv 78 (V.i 0), pv 18 (V.sl 1 (List.length o) fun (k : Nat) => [V.i (gi o k)]), pv 17 (V.i 0)] kR kR tI ?_
     refine nK hK ?_; clear hK K; refine sK fun K hK => ?_; refine sK fun K hK => wR 11 ?_
     refine aops_n hTT (M := []) (n := 2) [pv 79 (V.i 0), pv 80 (V.b false)] kR kR tI ?_
     refine nK hK ?_; clear hK K; refine w_false (t := false) kR rfl ?_
     refine aw_skip ?_
     refine xt_n (hK _ ?_); clear hK K; refine sK fun K hK => wR 12 ?_
     refine aops_n hTT (M := []) (n := 2) [pv 87 (V.sl 2 (List.length l) fun (k : Nat) => [nmV (Prod.fst (gtk l k)), V.pts (Prod.snd (gtk l k))]), pv 88 (V.sl 7 (List.length (List.take n p)) fun (k : Nat) => Pr.c (gpr (List.take n p) k))] kR kR tI ?_
     refine eC (R1) ?_
     refine aops_n hTT (M := []) (n := 5) [pv 86 (V.tup [V.sl 2 (List.length (List.take (Int.toNat (enN p n)) s)) fun (k : Nat) => [V.i (Prod.fst (gp (List.take (Int.toNat (enN p n)) s) k)), V.i (Prod.snd (gp (List.take (Int.toNat (enN p n)) s) k))], V.i 0]), pv 90 (V.sl 2 (List.length (List.take (Int.toNat (enN p n)) s)) fun (k : Nat) => [V.i (Prod.fst (gp (List.take (Int.toNat (enN p n)) s) k)), V.i (Prod.snd (gp (List.take (Int.toNat (enN p n)) s) k))]), pv 91 (V.i 0), pv 19 (V.sl 2 (List.length (List.take (Int.toNat (enN p n)) s)) fun (k : Nat) => [V.i (Prod.fst (gp (List.take (Int.toNat (enN p n)) s) k)), V.i (Prod.snd (gp (List.take (Int.toNat (enN p n)) s) k))]), pv 20 (V.i 0)] kR kR tI ?_
     refine nK hK ?_; clear hK K; refine sK fun K hK => wR 13 ?_
     refine aops_n hTT (M := []) (n := 2) [pv 93 (V.sl 2 (List.length l) fun (k : Nat) => [nmV (Prod.fst (gtk l k)), V.pts (Prod.snd (gtk l k))]), pv 94 (V.sl 7 (List.length (secL p n (↑t : Int))) fun (k : Nat) => Pr.c (gpr (secL p n (↑t : Int)) k))] kR kR tI ?_
     refine eC (R2) ?_
     refine aops_n hTT (M := []) (n := 5) [pv 92 (V.tup [V.sl 2 (List.length (List.drop t s)) fun (k : Nat) => [V.i (Prod.fst (gp (List.drop t s) k)), V.i (Prod.snd (gp (List.drop t s) k))], V.i 0]), pv 96 (V.sl 2 (List.length (List.drop t s)) fun (k : Nat) => [V.i (Prod.fst (gp (List.drop t s) k)), V.i (Prod.snd (gp (List.drop t s) k))]), pv 97 (V.i 0), pv 21 (V.sl 2 (List.length (List.drop t s)) fun (k : Nat) => [V.i (Prod.fst (gp (List.drop t s) k)), V.i (Prod.snd (gp (List.drop t s) k))]), pv 22 (V.i 0)] kR kR tI ?_
     refine nK hK ?_; clear hK K; refine sK fun K hK => wR 14 ?_
     refine aops_n hTT (M := []) (n := 2) [pv 99 ((yyWTwoS1 c)), pv 100 (V.sl 2 (List.length (List.take (Int.toNat (enN p n)) s)) fun (k : Nat) => [V.i (Prod.fst (gp (List.take (Int.toNat (enN p n)) s) k)), V.i (Prod.snd (gp (List.take (Int.toNat (enN p n)) s) k))])] kR kR tI ?_
     refine eC (C1) ?_
     refine aops_n hTT (M := []) (n := 5) [pv 98 (V.tup [V.sl 2 (List.length (List.map (wallP c) (List.take (Int.toNat (enN p n)) s))) fun (k : Nat) => [V.i (Prod.fst (gp (List.map (wallP c) (List.take (Int.toNat (enN p n)) s)) k)), V.i (Prod.snd (gp (List.map (wallP c) (List.take (Int.toNat (enN p n)) s)) k))], V.i 0]), pv 102 (V.sl 2 (List.length (List.map (wallP c) (List.take (Int.toNat (enN p n)) s))) fun (k : Nat) => [V.i (Prod.fst (gp (List.map (wallP c) (List.take (Int.toNat (enN p n)) s)) k)), V.i (Prod.snd (gp (List.map (wallP c) (List.take (Int.toNat (enN p n)) s)) k))]), pv 103 (V.i 0), pv 23 (V.sl 2 (List.length (List.map (wallP c) (List.take (Int.toNat (enN p n)) s))) fun (k : Nat) => [V.i (Prod.fst (gp (List.map (wallP c) (List.take (Int.toNat (enN p n)) s)) k)), V.i (Prod.snd (gp (List.map (wallP c) (List.take (Int.toNat (enN p n)) s)) k))]), pv 24 (V.i 0)] kR kR tI ?_
     refine nK hK ?_; clear hK K; refine sK fun K hK => wR 15 ?_
     refine aops_n hTT (M := []) (n := 2) [pv 105 ((yyWTwoS1 c)), pv 106 (V.sl 2 (List.length (List.drop t s)) fun (k : Nat) => [V.i (Prod.fst (gp (List.drop t s) k)), V.i (Prod.snd (gp (List.drop t s) k))])] kR kR tI ?_
     refine eC (C2) ?_
     refine aops_n hTT (M := []) (n := 5) [pv 104 (V.tup [V.sl 2 (List.length (List.map (wallP c) (List.drop t s))) fun (k : Nat) => [V.i (Prod.fst (gp (List.map (wallP c) (List.drop t s)) k)), V.i (Prod.snd (gp (List.map (wallP c) (List.drop t s)) k))], V.i 0]), pv 108 (V.sl 2 (List.length (List.map (wallP c) (List.drop t s))) fun (k : Nat) => [V.i (Prod.fst (gp (List.map (wallP c) (List.drop t s)) k)), V.i (Prod.snd (gp (List.map (wallP c) (List.drop t s)) k))]), pv 109 (V.i 0), pv 25 (V.sl 2 (List.length (List.map (wallP c) (List.drop t s))) fun (k : Nat) => [V.i (Prod.fst (gp (List.map (wallP c) (List.drop t s)) k)), V.i (Prod.snd (gp (List.map (wallP c) (List.drop t s)) k))]), pv 26 (V.i 0)] kR kR tI ?_
     refine nK hK ?_; clear hK K; refine sK fun K hK => wR 16 ?_
     refine aops_n hTT (M := []) (n := 2) [pv 111 ((yyWTwoS4 b)), pv 112 (V.sl 2 (List.length (List.map (wallP c) (List.take (Int.toNat (enN p n)) s))) fun (k : Nat) => [V.i (Prod.fst (gp (List.map (wallP c) (List.take (Int.toNat (enN p n)) s)) k)), V.i (Prod.snd (gp (List.map (wallP c) (List.take (Int.toNat (enN p n)) s)) k))])] kR kR tI ?_
     refine eC (Outer_ok b _ hs4 k1) ?_
     refine aops_n hTT (M := []) (n := 5) [pv 110 (V.tup [V.sl 1 (List.length o1) fun (k : Nat) => [V.i (gi o1 k)], V.i 0]), pv 114 (V.sl 1 (List.length o1) fun (k : Nat) => [V.i (gi o1 k)]), pv 115 (V.i 0), pv 27 (V.sl 1 (List.length o1) fun (k : Nat) => [V.i (gi o1 k)]), pv 28 (V.i 0)] kR kR tI ?_
     refine nK hK ?_; clear hK K; refine sK fun K hK => wR 17 ?_
     refine aops_n hTT (M := []) (n := 2) [pv 117 ((yyWTwoS4 b)), pv 118 (V.sl 2 (List.length (List.map (wallP c) (List.drop t s))) fun (k : Nat) => [V.i (Prod.fst (gp (List.map (wallP c) (List.drop t s)) k)), V.i (Prod.snd (gp (List.map (wallP c) (List.drop t s)) k))])] kR kR tI ?_
     refine eC (Outer_ok b _ hs5 k3) ?_
     refine aops_n hTT (M := []) (n := 5) [pv 116 (V.tup [V.sl 1 (List.length o2) fun (k : Nat) => [V.i (gi o2 k)], V.i 0]), pv 120 (V.sl 1 (List.length o2) fun (k : Nat) => [V.i (gi o2 k)]), pv 121 (V.i 0), pv 29 (V.sl 1 (List.length o2) fun (k : Nat) => [V.i (gi o2 k)]), pv 30 (V.i 0)] kR kR tI ?_
     refine nK hK ?_; clear hK K; refine sK fun K hK => ?_; refine sK fun K hK => wR 18 ?_
     refine aops_n hTT (M := []) (n := 58) [pv 122 (V.i 0), pv 123 (V.b false), pv 124 (V.b false), pc 125 ((True ∧ True) ∧ ((false == false) = true → True)) (V.gd (false == false) (V.i 0)), pc 126 ((yyWTwoS5 ∧ True ∧ True) ∧ ((false == false) = true → True)) (V.gd (false == false) (V.b false)), pc 127 (True ∧ (false = false → (false == false) = true)) (V.b false), pv 128 (V.b false), pc 129 ((True ∧ True) ∧ ((false == false) = true → True)) (V.gd (false == false) (V.i 0)), pc 130 ((yyWTwoS5 ∧ True ∧ True) ∧ ((false == false) = true → True)) (V.gd (false == false) (V.b false)), pc 131 (True ∧ (false = false → (false == false) = true)) (V.b false), pv 132 (V.b false), pc 133 ((True ∧ True) ∧ ((false == false) = true → True)) (V.gd (false == false) (V.i 0)), pc 134 ((yyWTwoS5 ∧ True ∧ True) ∧ ((false == false) = true → True)) (V.gd (false == false) (V.b false)), pc 135 (True ∧ (false = false → (false == false) = true)) (V.b false), pv 136 (V.b false), pc 137 ((True ∧ True) ∧ ((false == false) = true → True)) (V.gd (false == false) (V.i 0)), pc 138 ((yyWTwoS5 ∧ True ∧ True) ∧ ((false == false) = true → True)) (V.gd (false == false) (V.b false)), pc 139 (True ∧ (false = false → (false == false) = true)) (V.b false), pv 140 (V.b false), pc 141 ((True ∧ True) ∧ ((false == false) = true → True)) (V.gd (false == false) (V.i 0)), pc 142 ((yyWTwoS5 ∧ True ∧ True) ∧ ((false == false) = true → True)) (V.gd (false == false) (V.b false)), pc 143 (True ∧ (false = false → (false == false) = true)) (V.b false), pv 144 (V.b false), pc 145 ((True ∧ True) ∧ ((false == false) = true → True)) (V.gd (false == false) (V.sl 1 (List.length o) fun (k : Nat) => [V.i (gi o k)])), pc 146 ((yyWTwoS5 ∧ True) ∧ ((false == false) = true → True)) (V.gd (false == false) (V.i (↑(List.length o) : Int))), pc 147 ((True ∧ True) ∧ ((false == false) = true → True)) (V.gd (false == false) (V.sl 2 (List.length s) fun (k : Nat) => [V.i (Prod.fst (gp s k)), V.i (Prod.snd (gp s k))])), pc 148 ((yyWTwoS5 ∧ True) ∧ ((false == false) = true → True)) (V.gd (false == false) (V.i (↑(List.length s) : Int))), pc 149 ((yyWTwoS5 ∧ yyWTwoS5 ∧ True) ∧ ((false == false) = true → True)) (V.gd (false == false) (V.b !decide ((↑(List.length o) : Int) = (↑(List.length s) : Int)))), pc 150 (True ∧ (false = false → (false == false) = true)) (V.b !decide ((↑(List.length o) : Int) = (↑(List.length s) : Int))), pv 151 (V.b !decide ((↑(List.length o) : Int) = (↑(List.length s) : Int))), pc 152 ((True ∧ True) ∧ ((wosB0 o s) = true → True)) (V.gd (wosB0 o s) (V.sl 1 (List.length o1) fun (k : Nat) => [V.i (gi o1 k)])), pc 153 ((((wosB0 o s) = true → (wosB0 o s) = true) ∧ True) ∧ ((wosB0 o s) = true → True)) (V.gd (wosB0 o s) (V.i (↑(List.length o1) : Int))), pc 154 ((True ∧ True) ∧ ((wosB0 o s) = true → True)) (V.gd (wosB0 o s) (V.sl 2 (List.length (List.map (wallP c) (List.take (Int.toNat (enN p n)) s))) fun (k : Nat) => [V.i (Prod.fst (gp (List.map (wallP c) (List.take (Int.toNat (enN p n)) s)) k)), V.i (Prod.snd (gp (List.map (wallP c) (List.take (Int.toNat (enN p n)) s)) k))])), pc 155 ((((wosB0 o s) = true → (wosB0 o s) = true) ∧ True) ∧ ((wosB0 o s) = true → True)) (V.gd (wosB0 o s) (V.i (↑(List.length (List.map (wallP c) (List.take (Int.toNat (enN p n)) s))) : Int))), pc 156 ((((wosB0 o s) = true → (wosB0 o s) = true) ∧ ((wosB0 o s) = true → (wosB0 o s) = true) ∧ True) ∧ ((wosB0 o s) = true → True)) (V.gd (wosB0 o s) (V.b !decide ((↑(List.length o1) : Int) = (↑(List.length (List.map (wallP c) (List.take (Int.toNat (enN p n)) s))) : Int)))), pc 157 (True ∧ ((!decide ((↑(List.length o) : Int) = (↑(List.length s) : Int))) = false → (wosB0 o s) = true)) (V.b (wosB1 c n o o1 p s)), pv 158 (V.b (wosB1 c n o o1 p s)), pc 159 ((True ∧ True) ∧ ((wosB2 c n o o1 p s) = true → True)) (V.gd (wosB2 c n o o1 p s) (V.sl 1 (List.length o2) fun (k : Nat) => [V.i (gi o2 k)])), pc 160 ((((wosB2 c n o o1 p s) = true → (wosB2 c n o o1 p s) = true) ∧ True) ∧ ((wosB2 c n o o1 p s) = true → True)) (V.gd (wosB2 c n o o1 p s) (V.i (↑(List.length o2) : Int))), pc 161 ((True ∧ True) ∧ ((wosB2 c n o o1 p s) = true → True)) (V.gd (wosB2 c n o o1 p s) (V.sl 2 (List.length (List.map (wallP c) (List.drop t s))) fun (k : Nat) => [V.i (Prod.fst (gp (List.map (wallP c) (List.drop t s)) k)), V.i (Prod.snd (gp (List.map (wallP c) (List.drop t s)) k))])), pc 162 ((((wosB2 c n o o1 p s) = true → (wosB2 c n o o1 p s) = true) ∧ True) ∧ ((wosB2 c n o o1 p s) = true → True)) (V.gd (wosB2 c n o o1 p s) (V.i (↑(List.length (List.map (wallP c) (List.drop t s))) : Int))), pc 163 ((((wosB2 c n o o1 p s) = true → (wosB2 c n o o1 p s) = true) ∧ ((wosB2 c n o o1 p s) = true → (wosB2 c n o o1 p s) = true) ∧ True) ∧ ((wosB2 c n o o1 p s) = true → True)) (V.gd (wosB2 c n o o1 p s) (V.b !decide ((↑(List.length o2) : Int) = (↑(List.length (List.map (wallP c) (List.drop t s))) : Int)))), pc 164 (True ∧ ((wosB1 c n o o1 p s) = false → (wosB2 c n o o1 p s) = true)) (V.b (wosB3 c n o o1 o2 p s t)), pv 165 (V.b (wosB3 c n o o1 o2 p s t)), pc 166 ((True ∧ True) ∧ ((wosB4 c n o o1 o2 p s t) = true → True)) (V.gd (wosB4 c n o o1 o2 p s t) (V.sl 2 (List.length (List.map (wallP c) (List.take (Int.toNat (enN p n)) s))) fun (k : Nat) => [V.i (Prod.fst (gp (List.map (wallP c) (List.take (Int.toNat (enN p n)) s)) k)), V.i (Prod.snd (gp (List.map (wallP c) (List.take (Int.toNat (enN p n)) s)) k))])), pc 167 ((((wosB4 c n o o1 o2 p s t) = true → (wosB4 c n o o1 o2 p s t) = true) ∧ True) ∧ ((wosB4 c n o o1 o2 p s t) = true → True)) (V.gd (wosB4 c n o o1 o2 p s t) (V.i (↑(List.length (List.map (wallP c) (List.take (Int.toNat (enN p n)) s))) : Int))), pc 168 ((True ∧ True) ∧ ((wosB4 c n o o1 o2 p s t) = true → True)) (V.gd (wosB4 c n o o1 o2 p s t) (V.i (↑t : Int))), pc 169 ((((wosB4 c n o o1 o2 p s t) = true → (wosB4 c n o o1 o2 p s t) = true) ∧ ((wosB4 c n o o1 o2 p s t) = true → (wosB4 c n o o1 o2 p s t) = true) ∧ True) ∧ ((wosB4 c n o o1 o2 p s t) = true → True)) (V.gd (wosB4 c n o o1 o2 p s t) (V.b (decide ((↑t : Int) < (↑(List.length (List.map (wallP c) (List.take (Int.toNat (enN p n)) s))) : Int))))), pc 170 (True ∧ ((wosB3 c n o o1 o2 p s t) = false → (wosB4 c n o o1 o2 p s t) = true)) (V.b (wosB5 c n o o1 o2 p s t)), pv 171 (V.b (wosB5 c n o o1 o2 p s t)), pc 172 ((True ∧ True) ∧ ((wosB6 c n o o1 o2 p s t) = true → True)) (V.gd (wosB6 c n o o1 o2 p s t) (V.i (↑t : Int))), pc 173 ((True ∧ True) ∧ ((wosB6 c n o o1 o2 p s t) = true → True)) (V.gd (wosB6 c n o o1 o2 p s t) (V.sl 2 (List.length (List.map (wallP c) (List.drop t s))) fun (k : Nat) => [V.i (Prod.fst (gp (List.map (wallP c) (List.drop t s)) k)), V.i (Prod.snd (gp (List.map (wallP c) (List.drop t s)) k))])), pc 174 ((((wosB6 c n o o1 o2 p s t) = true → (wosB6 c n o o1 o2 p s t) = true) ∧ True) ∧ ((wosB6 c n o o1 o2 p s t) = true → True)) (V.gd (wosB6 c n o o1 o2 p s t) (V.i (↑(List.length (List.map (wallP c) (List.drop t s))) : Int))), pc 175 ((((wosB6 c n o o1 o2 p s t) = true → (wosB6 c n o o1 o2 p s t) = true) ∧ ((wosB6 c n o o1 o2 p s t) = true → (wosB6 c n o o1 o2 p s t) = true) ∧ True) ∧ ((wosB6 c n o o1 o2 p s t) = true → (-9223372036854775808 : Int) ≤ (↑t : Int) + (↑(List.length (List.map (wallP c) (List.drop t s))) : Int) ∧ (↑t : Int) + (↑(List.length (List.map (wallP c) (List.drop t s))) : Int) ≤ 9223372036854775807)) (V.gd (wosB6 c n o o1 o2 p s t) (V.i ((↑t : Int) + (↑(List.length (List.map (wallP c) (List.drop t s))) : Int)))), pc 176 ((True ∧ True) ∧ ((wosB6 c n o o1 o2 p s t) = true → True)) (V.gd (wosB6 c n o o1 o2 p s t) (V.sl 2 (List.length s) fun (k : Nat) => [V.i (Prod.fst (gp s k)), V.i (Prod.snd (gp s k))])), pc 177 ((((wosB6 c n o o1 o2 p s t) = true → (wosB6 c n o o1 o2 p s t) = true) ∧ True) ∧ ((wosB6 c n o o1 o2 p s t) = true → True)) (V.gd (wosB6 c n o o1 o2 p s t) (V.i (↑(List.length s) : Int))), pc 178 ((((wosB6 c n o o1 o2 p s t) = true → (wosB6 c n o o1 o2 p s t) = true) ∧ ((wosB6 c n o o1 o2 p s t) = true → (wosB6 c n o o1 o2 p s t) = true) ∧ True) ∧ ((wosB6 c n o o1 o2 p s t) = true → True)) (V.gd (wosB6 c n o o1 o2 p s t) (V.b (decide ((↑(List.length s) : Int) < (↑t : Int) + (↑(List.length (List.map (wallP c) (List.drop t s))) : Int))))), pc 179 (True ∧ ((wosB5 c n o o1 o2 p s t) = false → (wosB6 c n o o1 o2 p s t) = true)) (V.b (!decide ((↑(List.length o) : Int) = (↑(List.length s) : Int)) || !decide ((↑(List.length o1) : Int) = (↑(List.length (List.map (wallP c) (List.take (Int.toNat (enN p n)) s))) : Int)) || !decide ((↑(List.length o2) : Int) = (↑(List.length (List.map (wallP c) (List.drop t s))) : Int)) || decide ((↑t : Int) < (↑(List.length (List.map (wallP c) (List.take (Int.toNat (enN p n)) s))) : Int)) || decide ((↑(List.length s) : Int) < (↑t : Int) + (↑(List.length (List.map (wallP c) (List.drop t s))) : Int))))] kR kR ⟨⟨⟨tI, tI⟩, (fun _ => tI)⟩, ⟨⟨(by (exact fun h => h)), ⟨tI, tI⟩⟩, (fun _ => tI)⟩, ⟨tI, eFWTwoS⟩, ⟨⟨tI, tI⟩, (fun _ => tI)⟩, ⟨⟨(by (exact fun h => h)), ⟨tI, tI⟩⟩, (fun _ => tI)⟩, ⟨tI, eFWTwoS⟩, ⟨⟨tI, tI⟩, (fun _ => tI)⟩, ⟨⟨(by (exact fun h => h)), ⟨tI, tI⟩⟩, (fun _ => tI)⟩, ⟨tI, eFWTwoS⟩, ⟨⟨tI, tI⟩, (fun _ => tI)⟩, ⟨⟨(by (exact fun h => h)), ⟨tI, tI⟩⟩, (fun _ => tI)⟩, ⟨tI, eFWTwoS⟩, ⟨⟨tI, tI⟩, (fun _ => tI)⟩, ⟨⟨(by (exact fun h => h)), ⟨tI, tI⟩⟩, (fun _ => tI)⟩, ⟨tI, eFWTwoS⟩, ⟨⟨tI, tI⟩, (fun _ => tI)⟩, ⟨⟨(by (exact fun h => h)), tI⟩, (fun _ => tI)⟩, ⟨⟨tI, tI⟩, (fun _ => tI)⟩, ⟨⟨(by (exact fun h => h)), tI⟩, (fun _ => tI)⟩, ⟨⟨(by (exact fun h => h)), ⟨(by (exact fun h => h)), tI⟩⟩, (fun _ => tI)⟩, ⟨tI, eFWTwoS⟩, ⟨⟨tI, tI⟩, (fun _ => tI)⟩, ⟨⟨(by (exact fun h => h)), tI⟩, (fun _ => tI)⟩, ⟨⟨tI, tI⟩, (fun _ => tI)⟩, ⟨⟨(by (exact fun h => h)), tI⟩, (fun _ => tI)⟩, ⟨⟨(by (exact fun h => h)), ⟨(by (exact fun h => h)), tI⟩⟩, (fun _ => tI)⟩, ⟨tI, eFWTwoS⟩, ⟨⟨tI, tI⟩, (fun _ => tI)⟩, ⟨⟨(by (exact fun h => h)), tI⟩, (fun _ => tI)⟩, ⟨⟨tI, tI⟩, (fun _ => tI)⟩, ⟨⟨(by (exact fun h => h)), tI⟩, (fun _ => tI)⟩, ⟨⟨(by (exact fun h => h)), ⟨(by (exact fun h => h)), tI⟩⟩, (fun _ => tI)⟩, ⟨tI, eFWTwoS⟩, ⟨⟨tI, tI⟩, (fun _ => tI)⟩, ⟨⟨(by (exact fun h => h)), tI⟩, (fun _ => tI)⟩, ⟨⟨tI, tI⟩, (fun _ => tI)⟩, ⟨⟨(by (exact fun h => h)), ⟨(by (exact fun h => h)), tI⟩⟩, (fun _ => tI)⟩, ⟨tI, eFWTwoS⟩, ⟨⟨tI, tI⟩, (fun _ => tI)⟩, ⟨⟨tI, tI⟩, (fun _ => tI)⟩, ⟨⟨(by (exact fun h => h)), tI⟩, (fun _ => tI)⟩, ⟨⟨(by (exact fun h => h)), ⟨(by (exact fun h => h)), tI⟩⟩, (by (intro hg; simp at hg; omega))⟩, ⟨⟨tI, tI⟩, (fun _ => tI)⟩, ⟨⟨(by (exact fun h => h)), tI⟩, (fun _ => tI)⟩, ⟨⟨(by (exact fun h => h)), ⟨(by (exact fun h => h)), tI⟩⟩, (fun _ => tI)⟩, ⟨tI, eFWTwoS⟩, tI⟩ ?_
     refine nK hK ?_; clear hK K
     refine w_cond (t := !decide ((↑(List.length o) : Int) = (↑(List.length s) : Int)) || !decide ((↑(List.length o1) : Int) = (↑(List.length (List.map (wallP c) (List.take (Int.toNat (enN p n)) s))) : Int)) || !decide ((↑(List.length o2) : Int) = (↑(List.length (List.map (wallP c) (List.drop t s))) : Int)) || decide ((↑t : Int) < (↑(List.length (List.map (wallP c) (List.take (Int.toNat (enN p n)) s))) : Int)) || decide ((↑(List.length s) : Int) < (↑t : Int) + (↑(List.length (List.map (wallP c) (List.drop t s))) : Int))) kR (fun c2 => ?_) (fun c2 => ?_)
     ·
      rw [lo, lo1, lo2, m1, m2] at c2
      simp at c2
      omega
     refine aw_skip ?_
     refine xt_n (hK _ ?_); clear hK K; refine sK fun K hK => ?_; refine sK fun K hK => wR 19 ?_
     refine aops_n hTT (M := []) (n := 1) [pv 31 (V.i 0)] kR kR tI ?_
     refine nK hK ?_; clear hK K
     refine aw_block ?_
     refine w_loop (ι := Nat) (fun k => [(14, .i t), (18, V.ints o), (27, V.ints o1), (29, V.ints o2), (31, .i k)]) (fun _ => []) (fun k => k ≤ o1.length) (fun k => o1.length - k) 0 (Nat.zero_le _) ?_ ?_
     ·
      refine le_ren [] (.cons kR (.cons kR (.cons kR (.cons kR (.cons kR .nil))))) .nil kR kR
     intro k hk'
     refine sK fun K hK => ?_; refine sK fun K hK => wR 2 ?_
     refine aops_n hTT (M := []) (n := 4) [pv 180 (V.i (↑k : Int)), pv 181 (V.sl 1 (List.length o1) fun (k : Nat) => [V.i (gi o1 k)]), pv 182 (V.i (↑(List.length o1) : Int)), pv 183 (V.b (decide ((↑k : Int) < (↑(List.length o1) : Int))))] kR kR tI ?_
     refine nK hK ?_; clear hK K
     refine w_cond (t := decide ((↑k : Int) < (↑(List.length o1) : Int))) kR (fun c3 => ?_) (fun c3 => ?_)
     ·
      have hk1 : k < o1.length := by simpa using c3
      have hk2 := k2 k oM
      refine aw_skip ?_
      refine xt_n (hK _ ?_); clear hK K; refine sK fun K hK => ?_
      refine aw_block ?_
      refine sK fun K hK => wD 3 ?_
      refine aops_n hTT (M := []) (n := 9) [pv 186 (V.sl 1 (List.length o1) fun (k : Nat) => [V.i (gi o1 k)]), pv 187 (V.i (↑k : Int)), pc 188 ((0 : Int) ≤ (↑k : Int) ∧ (↑k : Int) < (↑(List.length o1) : Int)) (V.ptr [V.i (gi o1 k)]), pv 189 (V.i (gi o1 k)), pv 190 (V.sl 1 (List.length o) fun (k : Nat) => [V.i (gi o k)]), pv 191 (V.i (↑k : Int)), pc 192 ((0 : Int) ≤ (↑k : Int) ∧ (↑k : Int) < (↑(List.length o) : Int)) (V.ptr [V.i (gi o k)]), pv 193 (V.i (gi o k)), pv 194 (V.b (decide (gi o1 k < gi o k)))] kR kR ⟨oM, oM, tI⟩ ?_
      refine aops_nil ⟨kR, ?_⟩; refine xt_n (hK _ ?_); clear hK K
      refine w_cond (t := decide (gi o1 k < gi o k)) kR (fun c4 => ?_) (fun c4 => ?_)
      ·
       simp at c4
       omega
      refine aw_skip ?_
      refine xb_n ?_; refine xt_n (hK _ ?_); clear hK K; refine wR 4 ?_
      refine aops_n hTT (M := []) (n := 3) [pv 184 (V.i (↑k : Int)), pc 185 ((-9223372036854775808 : Int) ≤ (↑k : Int) + 1 ∧ (↑k : Int) + 1 ≤ (9223372036854775807 : Int)) (V.i ((↑k : Int) + 1)), pv 31 (V.i ((↑k : Int) + 1))] kR kR ⟨oM, tI⟩ ?_
      refine aops_nil ?_; refine xt_n ?_
      refine ⟨k + 1, by omega, by refine le_ren [] (.cons kR (.cons kR (.cons kR (.cons kR (.cons kR .nil))))) .nil kR kR, by omega⟩
     refine aw_exit ?_
     refine xt_x ?_; refine xt_x ?_
     refine xb_same ?_
     refine xt_n ?_; clear hK K; refine hK _ ?_; clear hK K; refine sK fun K hK => ?_; refine sK fun K hK => wR 3 ?_
     refine aops_n hTT (M := []) (n := 1) [pv 32 (V.i 0)] kR kR tI ?_
     refine nK hK ?_; clear hK K
     refine aw_block ?_
     refine w_loop (ι := Nat) (fun k => [(14, .i t), (18, V.ints o), (29, V.ints o2), (32, .i k)]) (fun _ => []) (fun k => k ≤ o2.length) (fun k => o2.length - k) 0 (Nat.zero_le _) ?_ ?_
     ·
      refine le_ren [] (.cons kR (.cons kR (.cons kR (.cons kR .nil)))) .nil kR kR
     intro k hk'
     refine sK fun K hK => ?_; refine sK fun K hK => wR 2 ?_
     refine aops_n hTT (M := []) (n := 4) [pv 195 (V.i (↑k : Int)), pv 196 (V.sl 1 (List.length o2) fun (k : Nat) => [V.i (gi o2 k)]), pv 197 (V.i (↑(List.length o2) : Int)), pv 198 (V.b (decide ((↑k : Int) < (↑(List.length o2) : Int))))] kR kR tI ?_
     refine nK hK ?_; clear hK K
     refine w_cond (t := decide ((↑k : Int) < (↑(List.length o2) : Int))) kR (fun c4 => ?_) (fun c4 => ?_)
     ·
      have hk1 : k < o2.length := by simpa using c4
      have hk2 := k4 k oM
      refine aw_skip ?_
      refine xt_n (hK _ ?_); clear hK K; refine sK fun K hK => ?_
      refine aw_block ?_
      refine sK fun K hK => wD 3 ?_
      refine aops_n hTT (M := []) (n := 11) [pv 201 (V.sl 1 (List.length o2) fun (k : Nat) => [V.i (gi o2 k)]), pv 202 (V.i (↑k : Int)), pc 203 ((0 : Int) ≤ (↑k : Int) ∧ (↑k : Int) < (↑(List.length o2) : Int)) (V.ptr [V.i (gi o2 k)]), pv 204 (V.i (gi o2 k)), pv 205 (V.sl 1 (List.length o) fun (k : Nat) => [V.i (gi o k)]), pv 206 (V.i (↑t : Int)), pv 207 (V.i (↑k : Int)), pc 208 ((-9223372036854775808 : Int) ≤ (↑t : Int) + (↑k : Int) ∧ (↑t : Int) + (↑k : Int) ≤ 9223372036854775807) (V.i ((↑t : Int) + (↑k : Int))), pc 209 ((0 : Int) ≤ (↑t : Int) + (↑k : Int) ∧ (↑t : Int) + (↑k : Int) < (↑(List.length o) : Int)) (V.ptr [V.i (gi o (t + k))]), pv 210 (V.i (gi o (t + k))), pv 211 (V.b (decide (gi o2 k < gi o (t + k))))] kR kR ⟨oM, oM, oM, tI⟩ ?_
      refine aops_nil ⟨kR, ?_⟩; refine xt_n (hK _ ?_); clear hK K
      refine w_cond (t := decide (gi o2 k < gi o (t + k))) kR (fun c5 => ?_) (fun c5 => ?_)
      ·
       simp at c5
       omega
      refine aw_skip ?_
      refine xb_n ?_; refine xt_n (hK _ ?_); clear hK K; refine wR 4 ?_
      refine aops_n hTT (M := []) (n := 3) [pv 199 (V.i (↑k : Int)), pc 200 ((-9223372036854775808 : Int) ≤ (↑k : Int) + 1 ∧ (↑k : Int) + 1 ≤ (9223372036854775807 : Int)) (V.i ((↑k : Int) + 1)), pv 32 (V.i ((↑k : Int) + 1))] kR kR ⟨oM, tI⟩ ?_
      refine aops_nil ?_; refine xt_n ?_
      refine ⟨k + 1, by omega, by refine le_ren [] (.cons kR (.cons kR (.cons kR (.cons kR .nil)))) .nil kR kR, by omega⟩
     refine aw_exit ?_
     refine xt_x ?_; refine xt_x ?_
     refine xb_same ?_
     refine xt_n ?_; clear hK K; refine hK _ ?_; clear hK K; refine sK fun K hK => wR 3 ?_
     refine eC (works05_ac) ?_
     refine aops_n hTT (M := []) (n := 1) [pv 10 (V.b true)] kR kR tI ?_
     refine nK hK ?_; clear hK K
     refine aw_ret ?_
     refine rP (V.b true)
    ·
     refine eC (Outer_no b _ hs1 ho) ?_
     refine aops_n hTT (M := []) (n := 5) [pv 73 (V.tup [V.nil, V.i 15]), pv 77 V.nil, pv 78 (V.i 15), pv 18 V.nil, pv 17 (V.i 15)] kR kR tI ?_
     refine nK hK ?_; clear hK K; refine sK fun K hK => ?_; refine sK fun K hK => wR 11 ?_
     refine aops_n hTT (M := []) (n := 2) [pv 79 (V.i 15), pv 80 (V.b true)] kR kR tI ?_
     refine nK hK ?_; clear hK K; refine w_true (t := true) kR rfl ?_; refine sK fun K hK => wR 12 ?_
     refine aops_n hTT (M := []) (n := 3) [pv 81 (V.i 15), pv 82 (V.b true), pv 83 (V.b true)] kR kR tI ?_
     refine eG 0 (g := true == true) (fun g => works05_ac) ?_
     refine aops_n hTT (M := []) (n := 2) [pc 85 ((true = true → (true == true) = true) ∧ True) (V.b true), pv 10 (V.b true)] kR kR ⟨⟨(by (exact fun h => h)), tI⟩, tI⟩ ?_
     refine nK hK ?_; clear hK K
     refine aw_ret ?_
     refine xt_r ?_
     refine rP (V.b true)
   ·
    rw [cutR_1 hc1]
    refine aops_n hTT (M := []) (n := 5) [pv 42 (V.tup [zzWTwoS0, V.b (decide (cutE c = 0))]), pv 47 (zzWTwoS0), pv 48 (V.b (decide (cutE c = 0))), pv 13 (zzWTwoS0), pv 12 (V.b (decide (cutE c = 0)))] kR kR tI ?_
    refine nK hK ?_; clear hK K; refine sK fun K hK => ?_; refine sK fun K hK => wR 6 ?_
    refine aops_n hTT (M := []) (n := 2) [pv 49 (V.b (decide (cutE c = 0))), pv 50 (V.b !decide (cutE c = 0))] kR kR tI ?_
    refine nK hK ?_; clear hK K
    refine w_cond (t := !decide (cutE c = 0)) kR (fun c1 => ?_) (fun c1 => ?_)
    ·
     refine sK fun K hK => wR 7 ?_
     refine eC (works05_ac) ?_
     refine aops_n hTT (M := []) (n := 1) [pv 10 (V.b true)] kR kR tI ?_
     refine nK hK ?_; clear hK K
     refine aw_ret ?_
     refine xt_r ?_
     refine rP (V.b true)
    ·
     simp at c1
     exact absurd c1 hc1
  ·
   refine eC (cut_no c b s 40 oM) ?_
   refine aops_n hTT (M := []) (n := 5) [pv 42 (V.tup [V.nil, V.b false]), pv 47 V.nil, pv 48 (V.b false), pv 13 V.nil, pv 12 (V.b false)] kR kR tI ?_
   refine nK hK ?_; clear hK K; refine sK fun K hK => ?_; refine sK fun K hK => wR 6 ?_
   refine aops_n hTT (M := []) (n := 2) [pv 49 (V.b false), pv 50 (V.b true)] kR kR tI ?_
   refine nK hK ?_; clear hK K; refine w_true (t := true) kR rfl ?_; refine sK fun K hK => wR 7 ?_
   refine eC (works05_ac) ?_
   refine aops_n hTT (M := []) (n := 1) [pv 10 (V.b true)] kR kR tI ?_
   refine nK hK ?_; clear hK K
   refine aw_ret ?_
   refine xt_r ?_
   refine rP (V.b true)
 ·
  refine sK fun K hK => wR 2 ?_
  refine aops_n hTT (M := []) (n := 3) [pv 8 ((yyWTwoS0 c)), pv 9 ((yyWTwoS3 b)), pv 10 (V.b false)] kR kR tI ?_
  refine nK hK ?_; clear hK K; refine sK fun K hK => wR 3 ?_
  refine aops_n hTT (M := []) (n := 2) [pv 34 (V.sl 2 (List.length l) fun (k : Nat) => [nmV (Prod.fst (gtk l k)), V.pts (Prod.snd (gtk l k))]), pv 35 (V.sl 7 (List.length p) fun (k : Nat) => Pr.c (gpr p k))] kR kR tI ?_
  refine eC (programme_no l p h hp hpg) ?_
  refine aops_n hTT (M := []) (n := 5) [pv 33 (V.tup [V.nil, V.b false]), pv 37 V.nil, pv 38 (V.b false), pv 11 V.nil, pv 12 (V.b false)] kR kR tI ?_
  refine nK hK ?_; clear hK K; refine sK fun K hK => ?_; refine sK fun K hK => wR 4 ?_
  refine aops_n hTT (M := []) (n := 2) [pv 39 (V.b false), pv 40 (V.b true)] kR kR tI ?_
  refine nK hK ?_; clear hK K; refine w_true (t := true) kR rfl ?_; refine sK fun K hK => wR 5 ?_
  refine eC (works05_ac) ?_
  refine aops_n hTT (M := []) (n := 1) [pv 10 (V.b true)] kR kR tI ?_
  refine nK hK ?_; clear hK K
  refine aw_ret ?_
  refine xt_r ?_
  refine rP (V.b true)
def twosSh : List Sh := [(.sl takeS), (.sl partS), (.int .u8), (.fld (.int .i64) (.fld (.int .i64) (.fld (.int .i64) (.fld (.int .i64) (.fld (.int .i64) (.fld (.int .i64) (.lst (.int .i64)))))))), (.fld (.int .i64) (.fld (.int .i64) (.fld (.int .i64) (.fld (.int .i64) (.fld (.int .i64) (.lst (.int .i64)))))))]
theorem twos_all (x : TL twosSh) (hx : wfL twosSh x) : AC Tryz.prog 3 (valL twosSh x) (V.b true) [] := by
 obtain ⟨l, p, a, ⟨h, g, th, wi, sl, je, sty⟩, ⟨b1, b2, b3, b4, b5, b6⟩, _⟩ := x
 obtain ⟨hl, ⟨hp, _⟩, ha, _⟩ := hx
 exact twos_law l p a ⟨h, g, th, wi, sl, je, sty⟩ ⟨b1, b2, b3, b4, b5, b6⟩ (wtk_of hl) hp (wf_u8 ha)
end Go.Proofs.YtpmchnojeloohaaGreatDoor

namespace Go.Proofs.YtpmchnojeloohaaGreatDoor
open Go.Ab Go.RowKit Go.Dw Go.Shelf Go.ChangeShapes Go.WideShapes Go.ChangeAt Go.Deep
def growsLaid : List (String × DataW Unit) := [("unicode/utf8.acceptRanges", Rows.laid_unicode_utf8_acceptRanges), ("unicode/utf8.first", Rows.laid_unicode_utf8_first)]
theorem gl_of_laid {W : World} (h : laidMetH Tryz.prog growsLaid W) (g : Nat) : R W (fun b => b < W.heap.size) ρ0 (gvals g) (gval g) := .any _ _
theorem lay_met (os : Os) (args : Array Value) : laidMetH Tryz.prog growsLaid ((World.laidAll Tryz.prog os growsLaid).forCall (fun _ _ => 0) ⟨#[], args, []⟩).memory := by
 rw [MakeChecks.laidMetH_plain _ _ _ kR]; exact laidMet_laidAll _ kR kR
end Go.Proofs.YtpmchnojeloohaaGreatDoor
