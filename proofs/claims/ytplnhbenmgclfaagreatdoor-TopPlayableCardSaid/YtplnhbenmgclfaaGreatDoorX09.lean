/-
  Several texts in one: The greatest of some least radii, in plain Lean. Conditions: told in each theorem. .. The listed variables of the top: they are never read; the start that meets the condition.
-/
import Derived.Test.YtplnhbenmgclfaaGreatDoorTie
import Derived.Test.YtplnhbenmgclfaaGreatDoorCards
import Derived.ProofKit
import Derived.LaidMore
import Derived.Lay
import Derived.OpenShut
import Derived.Stop.Joined
import Derived.SevenTiedAt
import Derived.Test.YtplnhbenmgclfaaGreatDoorX08
import Derived.Test.YtplnhbenmgclfaaGreatDoorMC
import Derived.Test.YtplnhbenmgclfaaGreatDoorAbs42
import Derived.Test.YtplnhbenmgclfaaGreatDoorX04
import Derived.Test.YtplnhbenmgclfaaGreatDoorX06
namespace Go.Proofs.YtplnhbenmgclfaaGreatDoor
open Go.Ab Go.RowKit Go.Dw Go.Shelf
end Go.Proofs.YtplnhbenmgclfaaGreatDoor

namespace Go.Proofs.YtplnhbenmgclfaaGreatDoor
open Go.Ab Go.RowKit Go.Dw Go.Shelf
theorem fits_need {c : Cut} {l : List Pt} {per r : Int} : fitB c l per r = true ↔ ∀ i, i < l.length → needB c l per i r = true := by
 rw [fitB_iff]
 constructor
 ·
  intro h i hi; rw [needB, h i hi]; rfl
 ·
  intro h i hi
  have := h i hi
  rw [needB] at this
  exact of_decide_eq_true this
theorem fault_at {c : Cut} {l : List Pt} {r per : Int} (h : fitB c l per r = false) : ∃ i : Nat, i < l.length ∧ faultR c l r per = ((i : Int), gRule c l r per i) ∧ 1 ≤ gRule c l r per i ∧ gRule c l r per i ≤ 5 := by
 cases hf : faultN c l r per with
 | none =>
  have : fitB c l per r = true := fitB_iff.2 (faultN_none.1 hf)
  rw [h] at this; cases this
 | some i =>
  obtain ⟨h1, h2, h3⟩ := faultN_some.1 hf
  exact ⟨i, h1, faultR_some h1 h2 h3, by omega, (gRule_bd c l r per i).2⟩
theorem FaultV_fit {c : Cut} {l : List Pt} {r per : Int} (h1 : cutE c = 0) (h2 : gChk l = 0) (hp : Plc r per) (h : fitB c l per r = true) : FaultV c l r per = (0, 0, 5) :=
 FaultV_3 (by rw [gErr_2 h1]; exact h2) (plcE_ok.2 hp) (by rw [fitB, decide_eq_true_eq] at h; exact h)
theorem FaultV_not {c : Cut} {l : List Pt} {r per : Int} (h1 : cutE c = 0) (h2 : gChk l = 0) (hp : Plc r per) (h : fitB c l per r = false) : ∃ i : Nat, i < l.length ∧ FaultV c l r per = ((i : Int), gRule c l r per i, 0) ∧ 1 ≤ gRule c l r per i ∧ gRule c l r per i ≤ 5 := by
 obtain ⟨i, a, b, d, e⟩ := fault_at h
 refine ⟨i, a, ?_, d, e⟩
 rw [FaultV_4 (by rw [gErr_2 h1]; exact h2) (plcE_ok.2 hp) (by rw [b]; show ¬ gRule c l r per i = 0; omega), b]
theorem rule_helped {c : Cut} {l : List Pt} {r r' per : Int} {i : Nat} (h : gRule c l r' per i = 0) (h2 : 1 ≤ gRule c l r per i) : gRule c l r per i = 3 ∨ gRule c l r per i = 5 := by
 have q := gRule_zero.1 h
 have q1 := q 1 (by decide) (by decide)
 have q2 := q 2 (by decide) (by decide)
 have q4 := q 4 (by decide) (by decide)
 simp only [ruleB] at q1 q2 q4
 unfold gRule ruleP at h2 ⊢
 rw [q1, q2, q4] at h2 ⊢
 simp only [Bool.false_eq_true, if_false] at h2 ⊢
 split
 ·
  exact .inl rfl
 ·
  rename_i h3
  rw [if_neg h3] at h2
  split
  ·
   exact .inr rfl
  ·
   rename_i h5
   rw [if_neg h5] at h2
   omega
def fitsSh : List Sh := [(.fld (.int .i64) (.fld (.int .i64) (.fld (.int .i64) (.fld (.int .i64) (.fld (.int .i64) (.fld (.int .i64) (.lst (.int .i64)))))))), (.sl (.fld (.int .i64) (.lst (.int .i64)))), (.int .i64), (.int .i64)]
end Go.Proofs.YtplnhbenmgclfaaGreatDoor

namespace Go.Proofs.YtplnhbenmgclfaaGreatDoor
open Go.Ab Go.RowKit Go.Dw Go.Shelf
def mxI (l : List Pt) : Nat → Int
 | 0 => (gp l 0).1
 | k + 1 => max (mxI l k) (gp l k).1
theorem mxI_le (l : List Pt) : ∀ k j, j < k → (gp l j).1 ≤ mxI l k
 | k + 1, j, h => by
  have : j < k ∨ j = k := by omega
  simp only [mxI]
  rcases this with h1 | rfl
  ·
   have := mxI_le l k j h1
   omega
  ·
   omega
theorem mxI_bd {l : List Pt} (hl : 0 < l.length) (hb : ∀ k, k < l.length → -4194304 ≤ (gp l k).1 ∧ (gp l k).1 ≤ 4194304) : ∀ k, k ≤ l.length → -4194304 ≤ mxI l k ∧ mxI l k ≤ 4194304
 | 0, _ => hb 0 hl
 | k + 1, h => by
  have a := mxI_bd hl hb k oM
  have c := hb k oM
  simp only [mxI]
  omega
set_option maxRecDepth 100000 in
theorem play_law (p : List Pt) (c : Cut) (b : Bl) (hl : p.length ≤ 4611686018427387904) (hr : ∀ k, k < p.length → inR2 (gp p k)) : AC Tryz.prog 6 [V.pts p, c.v, b.v] (.b true) [] := by
 refine acI hTT hMX Tryz.func6 Tryz.ntmps6 fun C hC hF => ?_
 refine aw_seq_k fun K hK => wR 2 ?_; refine aX hTT 3 [] tI ?_; refine aops_nil (xt_n (hK _ ?_)); clear hK K; refine aw_seq_k fun K hK => wR 3 ?_; refine aX hTT 3 [] tI ?_
 by_cases h0 : p.length ≤ 30 ∧ blE b = 0
 ·
  refine eC (cut_some c b p 30 h0 hl hr) ?_
  by_cases h1 : (cutR c p).2 = 0 ∧ 0 < p.length
  ·
   have h2 : cutE c = 0 ∧ sChk p = 0 := by
    have h1 := h1.1
    unfold cutR at h1
    split at h1
    ·
     split at h1
     ·
      exact ⟨by assumption, by assumption⟩
     ·
      exact absurd h1 (by assumption)
    ·
     exact absurd h1 (by assumption)
   rw [cutR, if_pos h2.1, if_pos h2.2]
   have hl30 := h0.1
   obtain ⟨⟨q1, q2⟩, ⟨q3, q4⟩, ⟨q5, q6⟩, ⟨q7, q8⟩, ⟨q9, q10⟩, q11, q12⟩ := blE_ok.1 h0.2
   have hg := wall_gChk h2.1 h2.2
   have s1 : SOk b (p.map (wallP c)) := ⟨h0.2, hg⟩
   have len1 : (p.map (wallP c)).length = p.length := by simp
   have hge : gErr c (p.map (wallP c)) = 0 := by
    rw [gErr, if_pos h2.1]; exact hg
   have htu : turnE b.per = 0 := turnE_ok.2 ⟨q1, q2⟩
   have hp0 := h1.2
   refine aX hTT 5 [] tI ?_; refine aops_nil (xt_n (hK _ ?_)); clear hK K; refine aw_seq_k fun K hK => ?_; refine aw_seq_k fun K hK => wR 4 ?_; refine aX hTT 7 [(3, .c (gA (false == false) True)), (4, .c (gB (false == false) True)), (5, .c (gD (false == false) True)), (6, .c (True ∧ (false = false → (false == false) = true)))] ⟨⟨⟨tI, tI⟩, (fun _ => tI)⟩, ⟨⟨(by (exact fun h => h)), tI⟩, (fun _ => tI)⟩, ⟨⟨(by (exact fun h => h)), ⟨tI, tI⟩⟩, (fun _ => tI)⟩, ⟨tI, (by (intro h; rw [h]; rfl))⟩, tI⟩ ?_; refine aops_nil (xt_n (hK _ ?_)); clear hK K
   refine w_cond (t := decide ((↑(List.length (List.map (wallP c) p)) : Int) = (0 : Int))) kR (fun c1 => ?_) (fun c1 => ?_)
   ·
    simp at c1
    subst c1
    simp at hp0
   clear c1
   refine aw_skip ?_
   refine xt_n (hK _ ?_); clear hK K; refine aw_seq_k fun K hK => wR 5 ?_; refine aX hTT 4 [] tI ?_
   generalize p.map (wallP c) = l at s1 len1 hg hge ⊢
   obtain ⟨F, hF0⟩ := fstOk_ex c l b.per
   have hF1 := hF0 hge htu
   have A := Least_ac c l b.per F oM hF0
   rw [leastR_3 hge htu] at A
   refine eC (A) ?_
   by_cases hFl : F ≤ 4194304
   ·
    rw [if_pos hFl, if_pos hFl]
    by_cases ho : ∃ o, LOut b l o
    ·
     obtain ⟨o, ho⟩ := ho
     have e1 := ho.1
     refine aX hTT 5 [] tI ?_; refine aops_nil (xt_n (hK _ ?_)); clear hK K; refine aw_seq_k fun K hK => wR 6 ?_; refine aX hTT 2 [] tI ?_
     refine eC (Outer_ok b l s1 ho) ?_
     refine aX hTT 5 [] tI ?_; refine aops_nil (xt_n (hK _ ?_)); clear hK K; refine aw_seq_k fun K hK => ?_; refine aw_seq_k fun K hK => wR 7 ?_; refine aX hTT 6 [(3, .c (gA (false == false) True)), (4, .c (gD (false == false) True)), (5, .c (True ∧ (false = false → (false == false) = true)))] ⟨⟨⟨tI, tI⟩, (fun _ => tI)⟩, ⟨⟨(by (exact fun h => h)), ⟨tI, tI⟩⟩, (fun _ => tI)⟩, ⟨tI, (by (intro h; rw [h]; rfl))⟩, tI⟩ ?_; refine aops_nil (xt_n (hK _ ?_)); clear hK K; refine w_false (t := false) kR rfl ?_
     refine aw_skip ?_
     refine xt_n (hK _ ?_); clear hK K; refine aw_seq_k fun K hK => wR 8 ?_; refine aX hTT 5 [(1, .c ((0 : Int) ≤ (0 : Int) ∧ (0 : Int) < (↑(List.length l) : Int)))] ⟨oM, tI⟩ ?_; refine aops_nil (xt_n (hK _ ?_)); clear hK K; refine aw_seq_k fun K hK => ?_; refine aw_seq_k fun K hK => wR 9 ?_; refine aX hTT 1 [] tI ?_; refine aops_nil (xt_n (hK _ ?_)); clear hK K
     refine aw_block ?_
     have hl0 : 0 < l.length := by omega
     have hpb := fun k hk => (s1.pt k hk).1
     have hro : RBd o := fun v hv => by
      have a1 := (ho.2.1.1 v oM).1
      have a2 := ho.2.1.2 v oM
      have a3 := s1.pt v oM
      omega
     refine w_loop (ι := Nat) (fun k => [(4, .ptr [.i c.half, .i c.gain, .i c.thin, .i c.wide, .i c.slope, .i c.jerk, .i c.sty]), (5, .ptr b.c), (7, V.pts l), (9, .i F), (11, V.ints o), (13, .i (mxI l k)), (14, .i k)]) (fun _ => []) (fun k => k ≤ l.length) (fun k => l.length - k) 0 (Nat.zero_le _) ?_ ?_
     ·
      refine le_ren [] (.cons kR (.cons kR (.cons kR (.cons kR (.cons kR (.cons kR (.cons kR .nil))))))) .nil kR kR
     intro k hk
     refine aw_seq_k fun K hK => ?_; refine aw_seq_k fun K hK => wR 2 ?_; refine aX hTT 4 [] tI ?_; refine aops_nil (xt_n (hK _ ?_)); clear hK K
     refine w_cond (t := decide ((↑k : Int) < (↑(List.length l) : Int))) kR (fun c2 => ?_) (fun c2 => ?_)
     ·
      have hk1 : k < l.length := by simpa using c2
      refine aw_skip ?_
      refine xt_n (hK _ ?_); clear hK K; refine aw_seq_k fun K hK => ?_
      refine aw_block ?_
      refine wR 3 ?_; refine aX hTT 8 [(3, .c ((0 : Int) ≤ (↑k : Int) ∧ (↑k : Int) < (↑(List.length l) : Int)))] ⟨oM, tI⟩ ?_; refine aops_nil ?_; refine xb_n ?_; refine xt_n (hK _ ?_); clear hK K; refine wR 4 ?_; refine aX hTT 3 [(1, .i ((↑k : Int) + (1 : Int)))] ⟨oM, tI⟩ ?_; refine aops_nil ?_; refine xt_n ?_
      refine ⟨k + 1, by omega, ?_, by omega⟩
      refine le_ren [] (.cons kR (.cons kR (.cons kR (.cons kR (.cons kR (.cons kR (.cons kR .nil))))))) .nil kR kR
     ·
      have hk1 : k = l.length := by simp at c2; omega
      rw [hk1]
      have m1 := mxI_bd hl0 hpb l.length (Nat.le_refl _)
      have m2 := mxI_le l l.length
      generalize mxI l l.length = mx at m1 m2 ⊢
      refine aw_exit ?_
      refine xt_x ?_; refine xt_x ?_
      refine xb_same ?_
      refine xt_n ?_; clear hK K; refine hK _ ?_; clear hK K; refine aw_seq_k fun K hK => wR 3 ?_; refine aX hTT 3 [] tI ?_
      refine eC (CheckCut_ac b l s1 o e1 hro ho.2.1) ?_
      refine aX hTT 5 [] tI ?_; refine aops_nil (xt_n (hK _ ?_)); clear hK K; refine aw_seq_k fun K hK => ?_; refine aw_seq_k fun K hK => wR 4 ?_; refine aX hTT 9 [(3, .c (gA (false == false) True)), (4, .c (gB (false == false) True)), (5, .c (gA (false == false) True)), (6, .c (gB (false == false) True)), (7, .c (gC (false == false) True)), (8, .c (True ∧ (false = false → (false == false) = true)))] ⟨⟨⟨tI, tI⟩, (fun _ => tI)⟩, ⟨⟨(by (exact fun h => h)), tI⟩, (fun _ => tI)⟩, ⟨⟨tI, tI⟩, (fun _ => tI)⟩, ⟨⟨(by (exact fun h => h)), tI⟩, (fun _ => tI)⟩, ⟨⟨(by (exact fun h => h)), ⟨(by (exact fun h => h)), tI⟩⟩, (fun _ => tI)⟩, ⟨tI, (by (intro h; rw [h]; rfl))⟩, tI⟩ ?_; refine aops_nil (xt_n (hK _ ?_)); clear hK K
      refine w_cond (t := !decide ((↑(List.length o) : Int) = (↑(List.length l) : Int))) kR (fun c3 => ?_) (fun c3 => ?_)
      ·
       simp at c3
       omega
      clear c3
      refine aw_skip ?_
      refine xt_n (hK _ ?_); clear hK K; refine aw_seq_k fun K hK => ?_; refine aw_seq_k fun K hK => wR 5 ?_; refine aX hTT 6 [(3, .i (Bl.core b - mx))] ⟨oM, tI⟩ ?_; refine aops_nil (xt_n (hK _ ?_)); clear hK K
      refine w_cond (t := decide (Bl.core b - mx < F)) kR (fun c4 => ?_) (fun c4 => ?_)
      ·
       refine aw_seq_k fun K hK => ?_
       refine wR 6 ?_
       refine eC (works05_ac) ?_
       refine aX hTT 1 [] tI ?_; refine aops_nil (xt_n (hK _ ?_)); clear hK K
       refine aw_ret ?_
       refine xt_r ?_
       refine rP (V.b true)
      simp at c4
      refine aw_skip ?_
      refine xt_n (hK _ ?_); clear hK K; refine aw_seq_k fun K hK => ?_; refine aw_seq_k fun K hK => wR 6 ?_; refine aX hTT 1 [] tI ?_; refine aops_nil (xt_n (hK _ ?_)); clear hK K
      refine aw_block ?_
      refine w_loop (ι := Nat) (fun k => [(4, .ptr [.i c.half, .i c.gain, .i c.thin, .i c.wide, .i c.slope, .i c.jerk, .i c.sty]), (5, .ptr b.c), (7, V.pts l), (9, .i F), (11, V.ints o), (15, .i k)]) (fun _ => []) (fun k => k ≤ o.length) (fun k => o.length - k) 0 (Nat.zero_le _) ?_ ?_
      ·
       refine le_ren [] (.cons kR (.cons kR (.cons kR (.cons kR (.cons kR (.cons kR .nil)))))) .nil kR kR
      intro m hm
      refine aw_seq_k fun K hK => ?_; refine aw_seq_k fun K hK => wR 2 ?_; refine aX hTT 4 [] tI ?_; refine aops_nil (xt_n (hK _ ?_)); clear hK K
      refine w_cond (t := decide ((↑m : Int) < (↑(List.length o) : Int))) kR (fun c5 => ?_) (fun c5 => ?_)
      ·
       have hm1 : m < o.length := by simpa using c5
       have a1 := ho.2.1.2 m oM
       have a2 := m2 m oM
       have hF5 := hF1.b
       refine aw_skip ?_
       refine xt_n (hK _ ?_); clear hK K; refine aw_seq_k fun K hK => ?_
       refine aw_block ?_
       refine aw_seq_k fun K hK => ?_; refine aw_seq_k fun K hK => wR 3 ?_; refine aX hTT 6 [(2, .c ((0 : Int) ≤ (↑m : Int) ∧ (↑m : Int) < (↑(List.length o) : Int)))] ⟨oM, tI⟩ ?_; refine aops_nil (xt_n (hK _ ?_)); clear hK K
       refine w_cond (t := decide (gi o m < F)) kR (fun c6 => ?_) (fun c6 => ?_)
       ·
        simp at c6
        omega
       refine aw_skip ?_
       refine xt_n (hK _ ?_); clear hK K; refine aw_seq_k fun K hK => ?_; refine aw_seq_k fun K hK => wR 4 ?_; refine aX hTT 5 [(2, .c ((0 : Int) ≤ (↑m : Int) ∧ (↑m : Int) < (↑(List.length o) : Int)))] ⟨oM, tI⟩ ?_; refine aops_nil (xt_n (hK _ ?_)); clear hK K
       refine w_cond (t := decide ((4194304 : Int) < gi o m)) kR (fun c7 => ?_) (fun c7 => ?_)
       ·
        simp at c7
        refine aw_exit ?_
        refine xt_x ?_
        refine xb_same ?_
        refine xt_n ?_; clear hK K; refine hK _ ?_; clear hK K; refine wR 5 ?_; refine aX hTT 3 [(1, .i ((↑m : Int) + (1 : Int)))] ⟨oM, tI⟩ ?_; refine aops_nil ?_; refine xt_n ?_
        refine ⟨m + 1, by omega, ?_, by omega⟩
        refine le_ren [] (.cons kR (.cons kR (.cons kR (.cons kR (.cons kR (.cons kR .nil)))))) .nil kR kR
       ·
        simp at c7
        have hfit := hF1.hi (gi o m) oM oM
        have hV := FaultV_fit h2.1 hg (r := gi o m) (per := b.per) ⟨⟨by omega, by omega⟩, q1, q2⟩ hfit
        have D := Fault_ac c l (gi o m) b.per oM
        rw [FaultT, hV] at D
        refine aw_skip ?_
        refine xt_n (hK _ ?_); clear hK K; refine aw_seq_k fun K hK => wD 5 ?_; refine aX hTT 8 [(4, .c ((0 : Int) ≤ (↑m : Int) ∧ (↑m : Int) < (↑(List.length o) : Int)))] ⟨oM, tI⟩ ?_
        refine eC (D) ?_
        refine aX hTT 5 [] tI ?_; refine aops_nil ⟨kR, ?_⟩; refine xt_n (hK _ ?_); clear hK K; refine aw_seq_k fun K hK => wR 6 ?_; refine aX hTT 2 [] tI ?_; refine aops_nil (xt_n (hK _ ?_)); clear hK K; refine w_false (t := false) kR rfl ?_
        refine aw_skip ?_
        refine xb_n ?_; refine xt_n (hK _ ?_); clear hK K; refine wR 7 ?_; refine aX hTT 3 [(1, .i ((↑m : Int) + (1 : Int)))] ⟨oM, tI⟩ ?_; refine aops_nil ?_; refine xt_n ?_
        refine ⟨m + 1, by omega, ?_, by omega⟩
        refine le_ren [] (.cons kR (.cons kR (.cons kR (.cons kR (.cons kR (.cons kR .nil)))))) .nil kR kR
      ·
       refine aw_exit ?_
       refine xt_x ?_; refine xt_x ?_
       refine xb_same ?_
       refine xt_n ?_; clear hK K; refine hK _ ?_; clear hK K; refine aw_seq_k fun K hK => wR 3 ?_
       refine eC (works05_ac) ?_
       refine aX hTT 1 [] tI ?_; refine aops_nil (xt_n (hK _ ?_)); clear hK K
       refine aw_ret ?_
       refine rP (V.b true)
    ·
     refine aX hTT 5 [] tI ?_
     refine aops_nil (xt_n (hK _ ?_)); clear hK K; refine aw_seq_k fun K hK => wR 6 ?_; refine aX hTT 2 [] tI ?_
     refine eC (Outer_no b l s1 ho) ?_
     refine aX hTT 5 [] tI ?_; refine aops_nil (xt_n (hK _ ?_)); clear hK K; refine aw_seq_k fun K hK => ?_; refine aw_seq_k fun K hK => wR 7 ?_; refine aX hTT 6 [(3, .c (gA (false == false) True)), (4, .c (gD (false == false) True)), (5, .c (True ∧ (false = false → (false == false) = true)))] ⟨⟨⟨tI, tI⟩, (fun _ => tI)⟩, ⟨⟨(by (exact fun h => h)), ⟨tI, tI⟩⟩, (fun _ => tI)⟩, ⟨tI, (by (intro h; rw [h]; rfl))⟩, tI⟩ ?_; refine aops_nil (xt_n (hK _ ?_)); clear hK K; refine w_true (t := true) kR rfl ?_; refine aw_seq_k fun K hK => wR 8 ?_; refine aX hTT 15 [(3, .c (gA (true == false) True)), (4, .c (gD (true == false) True)), (5, .c (True ∧ (true = false → (true == false) = true))), (7, .c (gA (true == true) True)), (8, .c (gD (true == true) True)), (9, .c (gB (true == true) True)), (10, .c (gA (true == true && false == false) True)), (11, .c (gD (true == true && false == false) True)), (12, .c (((true == true) = true → (true == true) = true) ∧ ((true == true) = true → True) ∧ ((true == true) = true → false = false → (true == true && false == false) = true))), (13, .c ((true = true → (true == true) = true) ∧ True))] ⟨⟨⟨tI, tI⟩, (fun _ => tI)⟩, ⟨⟨(by (exact fun h => h)), ⟨tI, tI⟩⟩, (fun _ => tI)⟩, ⟨tI, (by (intro h; simp at h; done))⟩, ⟨⟨tI, tI⟩, (fun _ => tI)⟩, ⟨⟨(by (exact fun h => h)), ⟨tI, tI⟩⟩, (fun _ => tI)⟩, ⟨⟨(by (exact fun h => h)), tI⟩, (fun _ => tI)⟩, ⟨⟨tI, tI⟩, (fun _ => tI)⟩, ⟨⟨(by (exact fun h => h)), ⟨tI, tI⟩⟩, (fun _ => tI)⟩, ⟨(by (exact fun h => h)), ⟨(fun _ => tI), (by (intro _; simp; done))⟩⟩, ⟨(by (exact fun h => h)), tI⟩, tI⟩ ?_
     refine eG 0 (g := true == true) (fun h => works05_ac) ?_
     refine aX hTT 2 [(0, .c ((true = true → (true == true) = true) ∧ True))] ⟨⟨(by (exact fun h => h)), tI⟩, tI⟩ ?_; refine aops_nil (xt_n (hK _ ?_)); clear hK K
     refine aw_ret ?_
     refine xt_r ?_
     refine rP (V.b true)
   ·
    rw [if_neg hFl, if_neg hFl]
    by_cases ho : ∃ o, LOut b l o
    ·
     obtain ⟨o, ho⟩ := ho
     refine aX hTT 5 [] tI ?_; refine aops_nil (xt_n (hK _ ?_)); clear hK K; refine aw_seq_k fun K hK => wR 6 ?_; refine aX hTT 2 [] tI ?_
     refine eC (Outer_ok b l s1 ho) ?_
     refine aX hTT 5 [] tI ?_; refine aops_nil (xt_n (hK _ ?_)); clear hK K; refine aw_seq_k fun K hK => ?_; refine aw_seq_k fun K hK => wR 7 ?_; refine aX hTT 6 [(3, .c (gA (true == false) True)), (4, .c (gD (true == false) True)), (5, .c (True ∧ (true = false → (true == false) = true)))] ⟨⟨⟨tI, tI⟩, (fun _ => tI)⟩, ⟨⟨(by (exact fun h => h)), ⟨tI, tI⟩⟩, (fun _ => tI)⟩, ⟨tI, (by (intro h; simp at h; done))⟩, tI⟩ ?_; refine aops_nil (xt_n (hK _ ?_)); clear hK K; refine w_true (t := true) kR rfl ?_; refine aw_seq_k fun K hK => wR 8 ?_; refine aX hTT 15 [(3, .c (gA (false == false) True)), (4, .c (gD (false == false) True)), (5, .c (True ∧ (false = false → (false == false) = true))), (7, .c (gA (true == true) True)), (8, .c (gD (true == true) True)), (9, .c (gB (true == true) True)), (10, .c (gA (true == true && true == false) True)), (11, .c (gD (true == true && true == false) True)), (12, .c (((true == true) = true → (true == true) = true) ∧ ((true == true) = true → True) ∧ ((true == true) = true → true = false → (true == true && true == false) = true))), (13, .c ((true = true → (true == true) = true) ∧ True))] ⟨⟨⟨tI, tI⟩, (fun _ => tI)⟩, ⟨⟨(by (exact fun h => h)), ⟨tI, tI⟩⟩, (fun _ => tI)⟩, ⟨tI, (by (intro h; rw [h]; rfl))⟩, ⟨⟨tI, tI⟩, (fun _ => tI)⟩, ⟨⟨(by (exact fun h => h)), ⟨tI, tI⟩⟩, (fun _ => tI)⟩, ⟨⟨(by (exact fun h => h)), tI⟩, (fun _ => tI)⟩, ⟨⟨tI, tI⟩, (fun _ => tI)⟩, ⟨⟨(by (exact fun h => h)), ⟨tI, tI⟩⟩, (fun _ => tI)⟩, ⟨(by (exact fun h => h)), ⟨(fun _ => tI), (by (intro _; simp; done))⟩⟩, ⟨(by (exact fun h => h)), tI⟩, tI⟩ ?_
     refine eG 0 (g := true == true) (fun h => works05_ac) ?_
     refine aX hTT 2 [(0, .c ((true = true → (true == true) = true) ∧ True))] ⟨⟨(by (exact fun h => h)), tI⟩, tI⟩ ?_; refine aops_nil (xt_n (hK _ ?_)); clear hK K
     refine aw_ret ?_
     refine xt_r ?_
     refine rP (V.b true)
    ·
     refine aX hTT 5 [] tI ?_
     refine aops_nil (xt_n (hK _ ?_)); clear hK K; refine aw_seq_k fun K hK => wR 6 ?_; refine aX hTT 2 [] tI ?_
     refine eC (Outer_no b l s1 ho) ?_
     refine aX hTT 5 [] tI ?_; refine aops_nil (xt_n (hK _ ?_)); clear hK K; refine aw_seq_k fun K hK => ?_; refine aw_seq_k fun K hK => wR 7 ?_; refine aX hTT 6 [(3, .c (gA (true == false) True)), (4, .c (gD (true == false) True)), (5, .c (True ∧ (true = false → (true == false) = true)))] ⟨⟨⟨tI, tI⟩, (fun _ => tI)⟩, ⟨⟨(by (exact fun h => h)), ⟨tI, tI⟩⟩, (fun _ => tI)⟩, ⟨tI, (by (intro h; simp at h; done))⟩, tI⟩ ?_; refine aops_nil (xt_n (hK _ ?_)); clear hK K; refine w_true (t := true) kR rfl ?_; refine aw_seq_k fun K hK => wR 8 ?_; refine aX hTT 15 [(3, .c (gA (false == false) True)), (4, .c (gD (false == false) True)), (5, .c (True ∧ (false = false → (false == false) = true))), (7, .c (gA (true == true) True)), (8, .c (gD (true == true) True)), (9, .c (gB (true == true) True)), (10, .c (gA (true == true && false == false) True)), (11, .c (gD (true == true && false == false) True)), (12, .c (((true == true) = true → (true == true) = true) ∧ ((true == true) = true → True) ∧ ((true == true) = true → false = false → (true == true && false == false) = true))), (13, .c ((true = true → (true == true) = true) ∧ True))] ⟨⟨⟨tI, tI⟩, (fun _ => tI)⟩, ⟨⟨(by (exact fun h => h)), ⟨tI, tI⟩⟩, (fun _ => tI)⟩, ⟨tI, (by (intro h; rw [h]; rfl))⟩, ⟨⟨tI, tI⟩, (fun _ => tI)⟩, ⟨⟨(by (exact fun h => h)), ⟨tI, tI⟩⟩, (fun _ => tI)⟩, ⟨⟨(by (exact fun h => h)), tI⟩, (fun _ => tI)⟩, ⟨⟨tI, tI⟩, (fun _ => tI)⟩, ⟨⟨(by (exact fun h => h)), ⟨tI, tI⟩⟩, (fun _ => tI)⟩, ⟨(by (exact fun h => h)), ⟨(fun _ => tI), (by (intro _; simp; done))⟩⟩, ⟨(by (exact fun h => h)), tI⟩, tI⟩ ?_
     refine eG 0 (g := true == true) (fun h => works05_ac) ?_
     refine aX hTT 2 [(0, .c ((true = true → (true == true) = true) ∧ True))] ⟨⟨(by (exact fun h => h)), tI⟩, tI⟩ ?_; refine aops_nil (xt_n (hK _ ?_)); clear hK K
     refine aw_ret ?_
     refine xt_r ?_
     refine rP (V.b true)
  ·
   refine aX hTT 5 [] tI ?_
   refine aops_nil (xt_n (hK _ ?_)); clear hK K; refine aw_seq_k fun K hK => ?_; refine aw_seq_k fun K hK => wR 4 ?_; refine aX hTT 7 [(3, .c (gA ((!decide (Prod.snd (cutR c p) = (0 : Int))) == false) True)), (4, .c (gB ((!decide (Prod.snd (cutR c p) = (0 : Int))) == false) True)), (5, .c (gD ((!decide (Prod.snd (cutR c p) = (0 : Int))) == false) True)), (6, .c (True ∧ ((!decide (Prod.snd (cutR c p) = (0 : Int))) = false → ((!decide (Prod.snd (cutR c p) = (0 : Int))) == false) = true)))] ⟨⟨⟨tI, tI⟩, (fun _ => tI)⟩, ⟨⟨(by (exact fun h => h)), tI⟩, (fun _ => tI)⟩, ⟨⟨(by (exact fun h => h)), ⟨tI, tI⟩⟩, (fun _ => tI)⟩, ⟨tI, (by (intro h; rw [h]; rfl))⟩, tI⟩ ?_; refine aops_nil (xt_n (hK _ ?_)); clear hK K
   refine w_cond (t := !decide (Prod.snd (cutR c p) = (0 : Int)) || decide ((↑(List.length (Prod.fst (cutR c p))) : Int) = (0 : Int))) kR (fun c1 => ?_) (fun c1 => ?_)
   ·
    refine aw_seq_k fun K hK => ?_
    refine wR 5 ?_
    refine eC (works05_ac) ?_
    refine aX hTT 1 [] tI ?_; refine aops_nil (xt_n (hK _ ?_)); clear hK K
    refine aw_ret ?_
    refine xt_r ?_
    refine rP (V.b true)
   ·
    simp at c1
    refine absurd ⟨c1.1, ?_⟩ h1
    refine Nat.pos_of_ne_zero fun hz => ?_
    have hp : p = [] := List.length_eq_zero_iff.1 hz
    subst hp
    refine c1.2 ?_
    unfold cutR
    split
    ·
     split <;> rfl
    ·
     rfl
 ·
  refine eC (cut_no c b p 30 oM) ?_
  refine aX hTT 5 [] tI ?_; refine aops_nil (xt_n (hK _ ?_)); clear hK K; refine aw_seq_k fun K hK => ?_; refine aw_seq_k fun K hK => wR 4 ?_; refine aX hTT 7 [(3, .c (gA (true == false) True)), (4, .c (gB (true == false) True)), (5, .c (gD (true == false) True)), (6, .c (True ∧ (true = false → (true == false) = true)))] ⟨⟨⟨tI, tI⟩, (fun _ => tI)⟩, ⟨⟨(by (exact fun h => h)), tI⟩, (fun _ => tI)⟩, ⟨⟨(by (exact fun h => h)), ⟨tI, tI⟩⟩, (fun _ => tI)⟩, ⟨tI, (by (intro h; simp at h; done))⟩, tI⟩ ?_; refine aops_nil (xt_n (hK _ ?_)); clear hK K; refine w_true (t := true) kR rfl ?_; refine aw_seq_k fun K hK => wR 5 ?_
  refine eC (works05_ac) ?_
  refine aX hTT 1 [] tI ?_; refine aops_nil (xt_n (hK _ ?_)); clear hK K
  refine aw_ret ?_
  refine xt_r ?_
  refine rP (V.b true)
def playSh : List Sh := [(.sl (.fld (.int .i64) (.lst (.int .i64)))), (.fld (.int .i64) (.fld (.int .i64) (.fld (.int .i64) (.fld (.int .i64) (.fld (.int .i64) (.fld (.int .i64) (.lst (.int .i64)))))))), (.fld (.int .i64) (.fld (.int .i64) (.fld (.int .i64) (.fld (.int .i64) (.fld (.int .i64) (.lst (.int .i64)))))))]
theorem play_all (x : TL playSh) (hx : wfL playSh x) : AC Tryz.prog 6 (valL playSh x) (V.b true) [] := by
 obtain ⟨p, ⟨h, g, th, wi, sl, je, sty⟩, ⟨b1, b2, b3, b4, b5, b6⟩, _⟩ := x
 obtain ⟨⟨h4, h5⟩, _⟩ := hx
 exact play_law p ⟨h, g, th, wi, sl, je, sty⟩ ⟨b1, b2, b3, b4, b5, b6⟩ h4 (wf_ptsT h5)
end Go.Proofs.YtplnhbenmgclfaaGreatDoor

namespace Go.Proofs.YtplnhbenmgclfaaGreatDoor
open Go.Ab Go.RowKit Go.Dw Go.Shelf Go.ChangeShapes Go.WideShapes Go.ChangeAt Go.Deep
def growsLaid : List (String × DataW Unit) := [("unicode/utf8.acceptRanges", Rows.laid_unicode_utf8_acceptRanges), ("unicode/utf8.first", Rows.laid_unicode_utf8_first)]
theorem gl_of_laid {W : World} (h : laidMetH Tryz.prog growsLaid W) (g : Nat) : R W (fun b => b < W.heap.size) ρ0 (gvals g) (gval g) := .any _ _
theorem lay_met (os : Os) (args : Array Value) : laidMetH Tryz.prog growsLaid ((World.laidAll Tryz.prog os growsLaid).forCall (fun _ _ => 0) ⟨#[], args, []⟩).memory := by
 rw [MakeChecks.laidMetH_plain _ _ _ kR]; exact laidMet_laidAll _ kR kR
end Go.Proofs.YtplnhbenmgclfaaGreatDoor
