/-
  Chains: the program's copy. Condition: as many elements as a slice can have.
-/
import Derived.Test.YtblipieipldanaaFA5
namespace Go.Proofs.Ytblipieipldanaa
open Go.Ab Go.RowKit Go.Dw Go.Shelf

/-- the curves in the order in which they are taken -/
def seqC (l : List Cv) (u : Bool) : List Cv := if u then l.reverse else l
theorem seqC_len (l : List Cv) (u : Bool) : (seqC l u).length = l.length := by cases u <;> simp [seqC]
theorem seqC_gc {l : List Cv} {u : Bool} {k : Nat} (hk : k < l.length) : gc (seqC l u) k = gc l (if u then l.length - 1 - k else k) := by
  cases u
  · rfl
  · simp [seqC, gc, List.getElem?_reverse hk]
theorem take_gc {l : List Cv} {k : Nat} (hk : k < l.length) : l.take (k + 1) = l.take k ++ [gc l k] := by
  rw [gc_eq hk, List.take_succ_eq_append_getElem hk]
theorem chainI_fold (l : List Cv) (u : Bool) (m : Int) (x : List Int) : chainI l u m x = foldI u m (seqC l u) (some x) := by cases u <;> rfl
theorem foldI_snoc {u : Bool} {m : Int} {l : List Cv} {k : Nat} {x y : List Int} (hk : k < l.length) (h : foldI u m (l.take k) (some x) = some y) : foldI u m (l.take (k + 1)) (some x) = runI (gc l k) u m y := by
  rw [take_gc hk, foldI_append, h]; rfl
theorem foldI_stop {u : Bool} {m : Int} {l : List Cv} {k : Nat} {x : List Int} (h : foldI u m (l.take k) (some x) = none) : foldI u m l (some x) = none := by
  rw [← List.take_append_drop k l, foldI_append, h, foldI_none]
/-- the error, and the output, of a chain -/
def chR (l : List Cv) (u : Bool) (x : List Int) : Int × List Int :=
  if fChE l ≠ 0 then (fChE l, []) else if sigE x ≠ 0 then (sigE x, []) else match chainI l u 32767 x with
    | some y => (0, y)
    | none => (4, [])
theorem chR_1 {l : List Cv} {u : Bool} {x : List Int} (h : ¬ fChE l = 0) : chR l u x = (fChE l, []) := by rw [chR, if_pos h]
theorem chR_2 {l : List Cv} {u : Bool} {x : List Int} (h : fChE l = 0) (h2 : ¬ sigE x = 0) : chR l u x = (sigE x, []) := by rw [chR, if_neg (by simp [h]), if_pos h2]
theorem chR_3 {l : List Cv} {u : Bool} {x : List Int} (h : fChE l = 0) (h2 : sigE x = 0) (h3 : chainI l u 32767 x = none) : chR l u x = (4, []) := by rw [chR, if_neg (by simp [h]), if_neg (by simp [h2]), h3]
theorem chR_4 {l : List Cv} {u : Bool} {x y : List Int} (h : fChE l = 0) (h2 : sigE x = 0) (h3 : chainI l u 32767 x = some y) : chR l u x = (0, y) := by rw [chR, if_neg (by simp [h]), if_neg (by simp [h2]), h3]
/-- whether all results are within the bound -/
theorem fine_or (c : Cv) (u : Bool) (l : List Int) (m : Int) : fine c u l m l.length ∨ ∃ j, j < l.length ∧ bey (outK c u l j) m = true := by
  by_cases h : ∃ j, j < l.length ∧ bey (outK c u l j) m = true
  · exact .inr h
  · refine .inl fun j hj => ?_
    cases hb : bey (outK c u l j) m with
    | false => rfl
    | true => exact absurd ⟨j, hj, hb⟩ h
set_option maxRecDepth 100000 in
theorem chain_ac (l : List Cv) (x : List Int) (u : Bool) (hl : cvsL l) (hx : x.length ≤ bigL) : AC Try.prog 67 [V.cvs l, V.ints x, .b u] (.tup [V.ints (chR l u x).2, .i (chR l u x).1]) [] := by
  refine ac_intro hTT hMX (fn := Try.f67) (N := _) ⟨Try.func67, rfl, Try.ntmps67, by kernel_rfl⟩ (by simp) fun C hC hF => ?_
  refine aw_seq_k fun K hK => ?_
  refine w_region (n' := 2) (by kernel_rfl) (by kernel_rfl) ?_
  refine aops_n hTT (M := []) (n := 2) [pv (6 : Nat) V.nil, pv (7 : Nat) (V.i (0 : Int))] (by kernel_rfl) (by kernel_rfl) True.intro ?_
  refine aops_nil ?_
  refine xt_n ?_
  refine hK _ ?_
  clear hK K
  refine aw_seq_k fun K hK => ?_
  refine aw_seq_k fun K hK => ?_
  refine w_region (n' := 3) (by kernel_rfl) (by kernel_rfl) ?_
  refine aops_n hTT (M := []) (n := 1) [pv (14 : Nat) (V.sl (3 : Nat) (List.length l) fun (k : Nat) => [V.ints (Cv.feed (gc l k)), V.ints (Cv.back (gc l k)), V.i (Cv.share (gc l k))])] (by kernel_rfl) (by kernel_rfl) True.intro ?_
  refine e_call (first := []) (caps := []) (checkChain_ac l hl) (by kernel_rfl) (by kernel_rfl) (by kernel_rfl) (by kernel_rfl) (by kernel_rfl) ?_
  refine aops_n hTT (M := []) (n := 1) [pv (8 : Nat) (V.i (fChE l))] (by kernel_rfl) (by kernel_rfl) True.intro ?_
  refine aops_nil ?_
  refine xt_n ?_
  refine hK _ ?_
  clear hK K
  refine aw_seq_k fun K hK => ?_
  refine w_region (n' := 4) (by kernel_rfl) (by kernel_rfl) ?_
  refine aops_n hTT (M := []) (n := 2) [pv (16 : Nat) (V.i (fChE l)), pv (17 : Nat) (V.b !decide (fChE l = (0 : Int)))] (by kernel_rfl) (by kernel_rfl) True.intro ?_
  refine aops_nil ?_
  refine xt_n ?_
  refine hK _ ?_
  clear hK K
  refine w_cond (t := !decide (fChE l = (0 : Int))) (by kernel_rfl) (fun c1 => ?_) (fun c1 => ?_)
  · simp at c1
    refine aw_seq_k fun K hK => ?_
    refine w_region (n' := 5) (by kernel_rfl) (by kernel_rfl) ?_
    refine aops_n hTT (M := []) (n := 3) [pv (18 : Nat) (V.i (fChE l)), pv (6 : Nat) V.nil, pv (7 : Nat) (V.i (fChE l))] (by kernel_rfl) (by kernel_rfl) True.intro ?_
    refine aops_nil ?_
    refine xt_n ?_
    refine hK _ ?_
    clear hK K
    refine aw_ret ?_
    refine xt_r ?_
    rw [chR_1 c1]
    refine ret_of_le (le_nil 6 (sz := 1) 0 (fun k => [.i (gi [] k)]) (by kernel_rfl) ?_) ?_
    · rfl
    refine ret_pure (v' := V.tup [V.sl (1 : Nat) (0 : Nat) fun (k : Nat) => [V.i (gi [] k)], V.i (fChE l)]) (.inr rfl) (by kernel_rfl) (by kernel_rfl) (by kernel_rfl)
  simp at c1
  refine aw_skip ?_
  refine xt_n ?_
  refine hK _ ?_
  clear hK K
  refine aw_seq_k fun K hK => ?_
  refine aw_seq_k fun K hK => ?_
  refine w_region (n' := 5) (by kernel_rfl) (by kernel_rfl) ?_
  refine aops_n hTT (M := []) (n := 1) [pv (19 : Nat) (V.sl (1 : Nat) (List.length x) fun (k : Nat) => [V.i (gi x k)])] (by kernel_rfl) (by kernel_rfl) True.intro ?_
  refine e_call (first := []) (caps := []) (checkSignal_ac x hx) (by kernel_rfl) (by kernel_rfl) (by kernel_rfl) (by kernel_rfl) (by kernel_rfl) ?_
  refine aops_n hTT (M := []) (n := 1) [pv (9 : Nat) (V.i (sigE x))] (by kernel_rfl) (by kernel_rfl) True.intro ?_
  refine aops_nil ?_
  refine xt_n ?_
  refine hK _ ?_
  clear hK K
  refine aw_seq_k fun K hK => ?_
  refine w_region (n' := 6) (by kernel_rfl) (by kernel_rfl) ?_
  refine aops_n hTT (M := []) (n := 2) [pv (21 : Nat) (V.i (sigE x)), pv (22 : Nat) (V.b !decide (sigE x = (0 : Int)))] (by kernel_rfl) (by kernel_rfl) True.intro ?_
  refine aops_nil ?_
  refine xt_n ?_
  refine hK _ ?_
  clear hK K
  refine w_cond (t := !decide (sigE x = (0 : Int))) (by kernel_rfl) (fun c2 => ?_) (fun c2 => ?_)
  · simp at c2
    refine aw_seq_k fun K hK => ?_
    refine w_region (n' := 7) (by kernel_rfl) (by kernel_rfl) ?_
    refine aops_n hTT (M := []) (n := 3) [pv (23 : Nat) (V.i (sigE x)), pv (6 : Nat) V.nil, pv (7 : Nat) (V.i (sigE x))] (by kernel_rfl) (by kernel_rfl) True.intro ?_
    refine aops_nil ?_
    refine xt_n ?_
    refine hK _ ?_
    clear hK K
    refine aw_ret ?_
    refine xt_r ?_
    rw [chR_2 c1 c2]
    refine ret_of_le (le_nil 6 (sz := 1) 0 (fun k => [.i (gi [] k)]) (by kernel_rfl) ?_) ?_
    · rfl
    refine ret_pure (v' := V.tup [V.sl (1 : Nat) (0 : Nat) fun (k : Nat) => [V.i (gi [] k)], V.i (sigE x)]) (.inr rfl) (by kernel_rfl) (by kernel_rfl) (by kernel_rfl)
  simp at c2
  obtain ⟨g1, g2⟩ := sigE_ok.1 c2
  obtain ⟨g3, g4⟩ := fChE_ok.1 c1
  refine aw_skip ?_
  refine xt_n ?_
  refine hK _ ?_
  clear hK K
  refine aw_seq_k fun K hK => ?_
  refine w_region (n' := 7) (by kernel_rfl) (by kernel_rfl) ?_
  refine aops_n hTT (M := []) (n := 1) [pv (24 : Nat) (V.sl (1 : Nat) (List.length x) fun (k : Nat) => [V.i (gi x k)])] (by kernel_rfl) (by kernel_rfl) True.intro ?_
  refine e_call (first := []) (caps := []) (Clone_ac x (by omega)) (by kernel_rfl) (by kernel_rfl) (by kernel_rfl) (by kernel_rfl) (by kernel_rfl) ?_
  refine aops_n hTT (M := []) (n := 1) [pv (1 : Nat) (V.sl (1 : Nat) (List.length x) fun (k : Nat) => [V.i (gi x k)])] (by kernel_rfl) (by kernel_rfl) True.intro ?_
  refine aops_nil ?_
  refine xt_n ?_
  refine hK _ ?_
  clear hK K
  refine aw_seq_k fun K hK => ?_
  refine aw_seq_k fun K hK => ?_
  refine w_region (n' := 8) (by kernel_rfl) (by kernel_rfl) ?_
  refine aops_n hTT (M := []) (n := 3) [pv (26 : Nat) (V.sl (3 : Nat) (List.length l) fun (k : Nat) => [V.ints (Cv.feed (gc l k)), V.ints (Cv.back (gc l k)), V.i (Cv.share (gc l k))]), pv (27 : Nat) (V.i (↑(List.length l) : Int)), pv (28 : Nat) (V.i (0 : Int))] (by kernel_rfl) (by kernel_rfl) True.intro ?_
  refine aops_nil ?_
  refine xt_n ?_
  refine hK _ ?_
  clear hK K
  refine aw_block ?_
  refine w_loop (ι := Nat × List Int) (fun y => [(0, V.cvs l), (1, V.ints y.2), (2, .b u), (27, .i l.length), (28, .i y.1)]) (fun _ => []) (fun y => y.1 ≤ l.length ∧ y.2.length = x.length ∧ AllLe 32767 y.2 ∧ foldI u 32767 ((seqC l u).take y.1) (some x) = some y.2) (fun y => l.length - y.1) (0, x) ⟨Nat.zero_le _, rfl, g2, rfl⟩ ?_ ?_
  · show Le _ ⟨mkT [(0, V.cvs l), (1, V.ints x), (2, .b u), (27, .i l.length), (28, .i 0)], mkS [], 1⟩
    refine le_ren [] (.cons (by kernel_rfl) (.cons (by kernel_rfl) (.cons (by kernel_rfl) (.cons (by kernel_rfl) (.cons (by kernel_rfl) .nil))))) .nil (by kernel_rfl) (by kernel_rfl)
  rintro ⟨k, y⟩ ⟨hk, hy, ha, hf⟩
  simp only at hk hy ha hf ⊢
  refine aw_seq_k fun K hK => ?_
  refine w_region (n' := 2) (by kernel_rfl) (by kernel_rfl) ?_
  refine aops_n hTT (M := []) (n := 1) [pv (29 : Nat) (V.b (decide ((↑k : Int) < (↑(List.length l) : Int))))] (by kernel_rfl) (by kernel_rfl) True.intro ?_
  refine aops_nil ?_
  refine xt_n ?_
  refine hK _ ?_
  clear hK K
  refine aw_seq_k fun K hK => ?_
  refine w_cond (t := decide ((↑k : Int) < (↑(List.length l) : Int))) (by kernel_rfl) (fun c3 => ?_) (fun c3 => ?_)
  · simp at c3
    have hcv : cvOk (gc (seqC l u) k) := by
      rw [seqC_gc c3]
      refine cvE_ok.1 (g4 _ ?_)
      split <;> omega
    have hsn := foldI_snoc (u := u) (m := 32767) (l := seqC l u) (by rw [seqC_len]; exact c3) hf
    have hsq := seqC_gc (l := l) (u := u) c3
    refine aw_skip ?_
    refine xt_n ?_
    refine hK _ ?_
    clear hK K
    refine aw_seq_k fun K hK => ?_
    refine aw_block ?_
    refine aw_seq_k fun K hK => ?_
    refine w_region (n' := 3) (by kernel_rfl) (by kernel_rfl) ?_
    refine aops_n hTT (M := []) (n := 2) [pv (30 : Nat) (V.i (↑k : Int)), pv (10 : Nat) (V.i (↑k : Int))] (by kernel_rfl) (by kernel_rfl) True.intro ?_
    refine aops_nil ?_
    refine xt_n ?_
    refine hK _ ?_
    clear hK K
    refine aw_seq_k fun K hK => ?_
    refine w_region (n' := 4) (by kernel_rfl) (by kernel_rfl) ?_
    refine aops_n hTT (M := []) (n := 6) [pv (31 : Nat) (V.sl (3 : Nat) (List.length l) fun (k : Nat) => [V.ints (Cv.feed (gc l k)), V.ints (Cv.back (gc l k)), V.i (Cv.share (gc l k))]), pv (32 : Nat) (V.i (↑k : Int)), pc (33 : Nat) ((0 : Int) ≤ (↑k : Int) ∧ (↑k : Int) < (↑(List.length l) : Int)) (V.ptr [V.sl (1 : Nat) (List.length (Cv.feed (gc l k))) fun (k_1 : Nat) => [V.i (gi (Cv.feed (gc l k)) k_1)], V.sl (1 : Nat) (List.length (Cv.back (gc l k))) fun (k_1 : Nat) => [V.i (gi (Cv.back (gc l k)) k_1)], V.i (Cv.share (gc l k))]), pv (34 : Nat) (V.agg [V.sl (1 : Nat) (List.length (Cv.feed (gc l k))) fun (k_1 : Nat) => [V.i (gi (Cv.feed (gc l k)) k_1)], V.sl (1 : Nat) (List.length (Cv.back (gc l k))) fun (k_1 : Nat) => [V.i (gi (Cv.back (gc l k)) k_1)], V.i (Cv.share (gc l k))]), pn (11 : Nat) (V.ref (300011 : Nat) (0 : Nat)) (300011 : Nat) (Ob.box (24 : Nat) [V.nil, V.nil, V.i (0 : Int)]), pw ((0 : Nat) + (3 : Nat) ≤ (3 : Nat)) (300011 : Nat) (Ob.box (24 : Nat) [V.sl (1 : Nat) (List.length (Cv.feed (gc l k))) fun (k_1 : Nat) => [V.i (gi (Cv.feed (gc l k)) k_1)], V.sl (1 : Nat) (List.length (Cv.back (gc l k))) fun (k_1 : Nat) => [V.i (gi (Cv.back (gc l k)) k_1)], V.i (Cv.share (gc l k))])] (by kernel_rfl) (by kernel_rfl) ⟨(by omega), (by omega), True.intro⟩ ?_
    refine aops_nil ?_
    refine xt_n ?_
    refine hK _ ?_
    clear hK K
    refine aw_seq_k fun K hK => ?_
    refine aw_seq_k fun K hK => ?_
    refine w_region (n' := 5) (by kernel_rfl) (by kernel_rfl) ?_
    refine aops_n hTT (M := []) (n := 1) [pv (35 : Nat) (V.b u)] (by kernel_rfl) (by kernel_rfl) True.intro ?_
    refine aops_nil ?_
    refine xt_n ?_
    refine hK _ ?_
    clear hK K
    refine w_cond (t := u) (by kernel_rfl) (fun c4 => ?_) (fun c4 => ?_)
    · subst c4
      have hq : gc (seqC l true) k = gc l ((l.length : Int) - 1 - (k : Int)).toNat := by
        rw [hsq, if_pos rfl]
        congr 1
        omega
      rw [hq] at hcv hsn
      refine w_region (n' := 6) (by kernel_rfl) (by kernel_rfl) ?_
      refine aops_n hTT (M := []) (n := 9) [pv (36 : Nat) (V.sl (3 : Nat) (List.length l) fun (k : Nat) => [V.ints (Cv.feed (gc l k)), V.ints (Cv.back (gc l k)), V.i (Cv.share (gc l k))]), pv (37 : Nat) (V.sl (3 : Nat) (List.length l) fun (k : Nat) => [V.ints (Cv.feed (gc l k)), V.ints (Cv.back (gc l k)), V.i (Cv.share (gc l k))]), pv (38 : Nat) (V.i (↑(List.length l) : Int)), pc (39 : Nat) ((-9223372036854775808 : Int) ≤ (↑(List.length l) : Int) - (1 : Int) ∧ (↑(List.length l) : Int) - (1 : Int) ≤ (9223372036854775807 : Int)) (V.i ((↑(List.length l) : Int) - (1 : Int))), pv (40 : Nat) (V.i (↑k : Int)), pc (41 : Nat) ((-9223372036854775808 : Int) ≤ (↑(List.length l) : Int) - (1 : Int) - (↑k : Int) ∧ (↑(List.length l) : Int) - (1 : Int) - (↑k : Int) ≤ (9223372036854775807 : Int)) (V.i ((↑(List.length l) : Int) - (1 : Int) - (↑k : Int))), pc (42 : Nat) ((0 : Int) ≤ (↑(List.length l) : Int) - (1 : Int) - (↑k : Int) ∧ (↑(List.length l) : Int) - (1 : Int) - (↑k : Int) < (↑(List.length l) : Int)) (V.ptr [V.sl (1 : Nat) (List.length (Cv.feed (gc l (Int.toNat ((↑(List.length l) : Int) - (1 : Int) - (↑k : Int)))))) fun (k_1 : Nat) => [V.i (gi (Cv.feed (gc l (Int.toNat ((↑(List.length l) : Int) - (1 : Int) - (↑k : Int))))) k_1)], V.sl (1 : Nat) (List.length (Cv.back (gc l (Int.toNat ((↑(List.length l) : Int) - (1 : Int) - (↑k : Int)))))) fun (k_1 : Nat) => [V.i (gi (Cv.back (gc l (Int.toNat ((↑(List.length l) : Int) - (1 : Int) - (↑k : Int))))) k_1)], V.i (Cv.share (gc l (Int.toNat ((↑(List.length l) : Int) - (1 : Int) - (↑k : Int)))))]), pv (43 : Nat) (V.agg [V.sl (1 : Nat) (List.length (Cv.feed (gc l (Int.toNat ((↑(List.length l) : Int) - (1 : Int) - (↑k : Int)))))) fun (k_1 : Nat) => [V.i (gi (Cv.feed (gc l (Int.toNat ((↑(List.length l) : Int) - (1 : Int) - (↑k : Int))))) k_1)], V.sl (1 : Nat) (List.length (Cv.back (gc l (Int.toNat ((↑(List.length l) : Int) - (1 : Int) - (↑k : Int)))))) fun (k_1 : Nat) => [V.i (gi (Cv.back (gc l (Int.toNat ((↑(List.length l) : Int) - (1 : Int) - (↑k : Int))))) k_1)], V.i (Cv.share (gc l (Int.toNat ((↑(List.length l) : Int) - (1 : Int) - (↑k : Int)))))]), pw ((0 : Nat) + (3 : Nat) ≤ (3 : Nat)) (300011 : Nat) (Ob.box (24 : Nat) [V.sl (1 : Nat) (List.length (Cv.feed (gc l (Int.toNat ((↑(List.length l) : Int) - (1 : Int) - (↑k : Int)))))) fun (k_1 : Nat) => [V.i (gi (Cv.feed (gc l (Int.toNat ((↑(List.length l) : Int) - (1 : Int) - (↑k : Int))))) k_1)], V.sl (1 : Nat) (List.length (Cv.back (gc l (Int.toNat ((↑(List.length l) : Int) - (1 : Int) - (↑k : Int)))))) fun (k_1 : Nat) => [V.i (gi (Cv.back (gc l (Int.toNat ((↑(List.length l) : Int) - (1 : Int) - (↑k : Int))))) k_1)], V.i (Cv.share (gc l (Int.toNat ((↑(List.length l) : Int) - (1 : Int) - (↑k : Int)))))])] (by kernel_rfl) (by kernel_rfl) ⟨(by omega), (by omega), (by omega), (by omega), True.intro⟩ ?_
      refine aops_nil ?_
      refine xt_n ?_
      refine hK _ ?_
      clear hK K
      refine aw_seq_k fun K hK => ?_
      refine w_region (n' := 7) (by kernel_rfl) (by kernel_rfl) ?_
      refine aops_n hTT (M := []) (n := 3) [pv (45 : Nat) (V.sl (1 : Nat) (List.length y) fun (k : Nat) => [V.i (gi y k)]), pc (46 : Nat) ((0 : Nat) ≤ (3 : Nat)) (V.agg [V.sl (1 : Nat) (List.length (Cv.feed (gc l (Int.toNat ((↑(List.length l) : Int) - (1 : Int) - (↑k : Int)))))) fun (k_1 : Nat) => [V.i (gi (Cv.feed (gc l (Int.toNat ((↑(List.length l) : Int) - (1 : Int) - (↑k : Int))))) k_1)], V.sl (1 : Nat) (List.length (Cv.back (gc l (Int.toNat ((↑(List.length l) : Int) - (1 : Int) - (↑k : Int)))))) fun (k_1 : Nat) => [V.i (gi (Cv.back (gc l (Int.toNat ((↑(List.length l) : Int) - (1 : Int) - (↑k : Int))))) k_1)], V.i (Cv.share (gc l (Int.toNat ((↑(List.length l) : Int) - (1 : Int) - (↑k : Int)))))]), pv (47 : Nat) (V.b true)] (by kernel_rfl) (by kernel_rfl) ⟨(by omega), True.intro⟩ ?_
      refine aops_callN (first := []) (caps := []) (v' := V.fn (Fn.func (105 : Nat)) [] [V.ptr [V.b true], V.ref (600048 : Nat) (0 : Nat)]) (δ := [(600048, Option.some (Ob.box (108 : Nat) [V.ref (601048 : Nat) (0 : Nat)])), (601048, Option.some (Ob.box (113 : Nat) [V.i (gi [] (((0 : Nat) + (7 : Nat)) % (8 : Nat))), V.i (gi [] (((0 : Nat) + (6 : Nat)) % (8 : Nat))), V.i (gi [] (((0 : Nat) + (5 : Nat)) % (8 : Nat))), V.i (gi [] (((0 : Nat) + (4 : Nat)) % (8 : Nat))), V.i (gi [] (((0 : Nat) + (3 : Nat)) % (8 : Nat))), V.i (gi [] (((0 : Nat) + (2 : Nat)) % (8 : Nat))), V.i (gi [] (((0 : Nat) + (1 : Nat)) % (8 : Nat))), V.i (gi [] ((0 : Nat) % (8 : Nat))), V.i (0 : Int), V.i (gi [] (((0 : Nat) + (7 : Nat)) % (8 : Nat))), V.i (gi [] (((0 : Nat) + (6 : Nat)) % (8 : Nat))), V.i (gi [] (((0 : Nat) + (5 : Nat)) % (8 : Nat))), V.i (gi [] (((0 : Nat) + (4 : Nat)) % (8 : Nat))), V.i (gi [] (((0 : Nat) + (3 : Nat)) % (8 : Nat))), V.i (gi [] (((0 : Nat) + (2 : Nat)) % (8 : Nat))), V.i (gi [] (((0 : Nat) + (1 : Nat)) % (8 : Nat))), V.i (gi [] ((0 : Nat) % (8 : Nat))), V.i (0 : Int), V.sl (1 : Nat) (List.length (Cv.feed (gc l (Int.toNat ((↑(List.length l) : Int) - (1 : Int) - (↑k : Int)))))) fun (k_1 : Nat) => [V.i (gi (Cv.feed (gc l (Int.toNat ((↑(List.length l) : Int) - (1 : Int) - (↑k : Int))))) k_1)], V.sl (1 : Nat) (List.length (Cv.back (gc l (Int.toNat ((↑(List.length l) : Int) - (1 : Int) - (↑k : Int)))))) fun (k_1 : Nat) => [V.i (gi (Cv.back (gc l (Int.toNat ((↑(List.length l) : Int) - (1 : Int) - (↑k : Int))))) k_1)], V.i (Cv.share (gc l (Int.toNat ((↑(List.length l) : Int) - (1 : Int) - (↑k : Int)))))]))]) (fStep_ac (gc l ((l.length : Int) - 1 - (k : Int)).toNat) true) (by kernel_rfl) (by kernel_rfl) (by kernel_rfl) (by kernel_rfl) (by kernel_rfl) (by kernel_rfl) (by kernel_rfl) ?_
      skip
      refine e_call (first := []) (caps := []) (within_ac 32767) (by kernel_rfl) (by kernel_rfl) (by kernel_rfl) (by kernel_rfl) (by kernel_rfl) ?_
      skip
      rcases fine_or (gc l ((l.length : Int) - 1 - (k : Int)).toNat) true y 32767 with hfi | ⟨j, hj, hb⟩
      · rw [runI_some hfi] at hsn
        refine aops_callM [600048, 601048] (first := []) (caps := []) (ins' := [Ob.box (108 : Nat) [V.ref (601048 : Nat) (0 : Nat)], Ob.box (113 : Nat) [V.i (gi [] (((0 : Nat) + (7 : Nat)) % (8 : Nat))), V.i (gi [] (((0 : Nat) + (6 : Nat)) % (8 : Nat))), V.i (gi [] (((0 : Nat) + (5 : Nat)) % (8 : Nat))), V.i (gi [] (((0 : Nat) + (4 : Nat)) % (8 : Nat))), V.i (gi [] (((0 : Nat) + (3 : Nat)) % (8 : Nat))), V.i (gi [] (((0 : Nat) + (2 : Nat)) % (8 : Nat))), V.i (gi [] (((0 : Nat) + (1 : Nat)) % (8 : Nat))), V.i (gi [] ((0 : Nat) % (8 : Nat))), V.i (0 : Int), V.i (gi [] (((0 : Nat) + (7 : Nat)) % (8 : Nat))), V.i (gi [] (((0 : Nat) + (6 : Nat)) % (8 : Nat))), V.i (gi [] (((0 : Nat) + (5 : Nat)) % (8 : Nat))), V.i (gi [] (((0 : Nat) + (4 : Nat)) % (8 : Nat))), V.i (gi [] (((0 : Nat) + (3 : Nat)) % (8 : Nat))), V.i (gi [] (((0 : Nat) + (2 : Nat)) % (8 : Nat))), V.i (gi [] (((0 : Nat) + (1 : Nat)) % (8 : Nat))), V.i (gi [] ((0 : Nat) % (8 : Nat))), V.i (0 : Int), V.sl (1 : Nat) (List.length (Cv.feed (gc l (Int.toNat ((↑(List.length l) : Int) - (1 : Int) - (↑k : Int)))))) fun (k_1 : Nat) => [V.i (gi (Cv.feed (gc l (Int.toNat ((↑(List.length l) : Int) - (1 : Int) - (↑k : Int))))) k_1)], V.sl (1 : Nat) (List.length (Cv.back (gc l (Int.toNat ((↑(List.length l) : Int) - (1 : Int) - (↑k : Int)))))) fun (k_1 : Nat) => [V.i (gi (Cv.back (gc l (Int.toNat ((↑(List.length l) : Int) - (1 : Int) - (↑k : Int))))) k_1)], V.i (Cv.share (gc l (Int.toNat ((↑(List.length l) : Int) - (1 : Int) - (↑k : Int)))))]]) (v' := V.tup [V.own (600050 : Nat), V.i (0 : Int)]) (δ := [(600048, Option.none), (601048, Option.none), (600050, Option.some (Ob.row (2 : Nat) (1 : Nat) (List.length y) fun (i : Nat) => V.renL (nameG (6 : Nat) (some 50) [(600048 : Nat), (601048 : Nat)]) [V.i (gi (resL (gc l (Int.toNat ((↑(List.length l) : Int) - (1 : Int) - (↑k : Int)))) true y) i)]))]) (kp := [600048, 601048]) (each_ok (gc l ((l.length : Int) - 1 - (k : Int)).toNat) true y 32767 hcv (by omega) (by decide) ha hfi) (by kernel_rfl) (by kernel_rfl) (by kernel_rfl) (by kernel_rfl) (by kernel_rfl) (by kernel_rfl) rfl rfl (by kernel_rfl) (.box (by kernel_rfl) (by kernel_rfl) (.box (by kernel_rfl) (by kernel_rfl) .nil)) (by kernel_rfl) (by kernel_rfl) (by kernel_rfl) ?_
        refine aops_n hTT (M := []) (n := 5) [pv (44 : Nat) (V.tup [V.own (600050 : Nat), V.i (0 : Int)]), pv (51 : Nat) (V.own (600050 : Nat)), pv (52 : Nat) (V.i (0 : Int)), pv (12 : Nat) (V.own (600050 : Nat)), pv (13 : Nat) (V.i (0 : Int))] (by kernel_rfl) (by kernel_rfl) True.intro ?_
        refine aops_nil ?_
        refine xt_n ?_
        refine hK _ ?_
        clear hK K
        refine aw_seq_k fun K hK => ?_
        refine aw_seq_k fun K hK => ?_
        refine w_le (le_shut 12 600050 (e := (2 : Nat)) (sz := (1 : Nat)) (n := List.length y) (n' := (resL (gc l ((l.length : Int) - 1 - (k : Int)).toNat) true y).length) (row := fun (i : Nat) => V.renL (nameG (6 : Nat) (some (50 : Tmp)) [(600048 : Nat), (601048 : Nat)]) [V.i (gi (resL (gc l (Int.toNat ((↑(List.length l) : Int) - (1 : Int) - (↑k : Int)))) true y) i)]) (row' := (fun j => [.i (gi (resL (gc l ((l.length : Int) - 1 - (k : Int)).toNat) true y) j)])) (by kernel_rfl) (by kernel_rfl) (fun _ _ => rfl) ?_ ?_) ?_
        · rw [resL_len]
        · intro i hi
          rfl
        refine w_region (n' := 8) (by kernel_rfl) (by kernel_rfl) ?_
        refine aops_n hTT (M := []) (n := 2) [pv (53 : Nat) (V.i (0 : Int)), pv (54 : Nat) (V.b false)] (by kernel_rfl) (by kernel_rfl) True.intro ?_
        refine aops_nil ?_
        refine xt_n ?_
        refine hK _ ?_
        clear hK K
        refine w_false (t := false) (by kernel_rfl) rfl ?_
        refine aw_skip ?_
        refine xt_n ?_
        refine hK _ ?_
        clear hK K
        refine w_region (n' := 9) (by kernel_rfl) (by kernel_rfl) ?_
        refine aops_n hTT (M := []) (n := 2) [pv (56 : Nat) (V.sl (1 : Nat) (List.length (resL (gc l (Int.toNat ((↑(List.length l) : Int) - (1 : Int) - (↑k : Int)))) true y)) fun (j : Nat) => [V.i (gi (resL (gc l (Int.toNat ((↑(List.length l) : Int) - (1 : Int) - (↑k : Int)))) true y) j)]), pv (1 : Nat) (V.sl (1 : Nat) (List.length (resL (gc l (Int.toNat ((↑(List.length l) : Int) - (1 : Int) - (↑k : Int)))) true y)) fun (j : Nat) => [V.i (gi (resL (gc l (Int.toNat ((↑(List.length l) : Int) - (1 : Int) - (↑k : Int)))) true y) j)])] (by kernel_rfl) (by kernel_rfl) True.intro ?_
        refine aops_nil ?_
        refine xb_n ?_
        refine xt_n ?_
        refine hK _ ?_
        clear hK K
        refine w_region (n' := 10) (by kernel_rfl) (by kernel_rfl) ?_
        refine aops_n hTT (M := []) (n := 2) [pc (57 : Nat) ((-9223372036854775808 : Int) ≤ (↑k : Int) + (1 : Int) ∧ (↑k : Int) + (1 : Int) ≤ (9223372036854775807 : Int)) (V.i ((↑k : Int) + (1 : Int))), pv (28 : Nat) (V.i ((↑k : Int) + (1 : Int)))] (by kernel_rfl) (by kernel_rfl) ⟨(by omega), True.intro⟩ ?_
        refine aops_nil ?_
        refine xt_n ?_
        refine ⟨(k + 1, resL (gc l ((l.length : Int) - 1 - (k : Int)).toNat) true y), ⟨by omega, by simp only [resL_len, hy], any_bey.1 (any_resL.2 hfi), hsn⟩, ?_, by simp only; omega⟩
        show Le _ ⟨mkT [(0, V.cvs l), (1, V.ints (resL (gc l ((l.length : Int) - 1 - (k : Int)).toNat) true y)), (2, .b true), (27, .i l.length), (28, .i ((k + 1 : Nat) : Int))], mkS [], 1⟩
        refine le_ren [] (.cons (by kernel_rfl) (.cons (by kernel_rfl) (.cons (by kernel_rfl) (.cons (by kernel_rfl) (.cons (by kernel_rfl) .nil))))) .nil (by kernel_rfl) (by kernel_rfl)
      · rw [runI_none hj hb] at hsn
        refine aops_callM [600048, 601048] (first := []) (caps := []) (ins' := [Ob.box (108 : Nat) [V.ref (601048 : Nat) (0 : Nat)], Ob.box (113 : Nat) [V.i (gi [] (((0 : Nat) + (7 : Nat)) % (8 : Nat))), V.i (gi [] (((0 : Nat) + (6 : Nat)) % (8 : Nat))), V.i (gi [] (((0 : Nat) + (5 : Nat)) % (8 : Nat))), V.i (gi [] (((0 : Nat) + (4 : Nat)) % (8 : Nat))), V.i (gi [] (((0 : Nat) + (3 : Nat)) % (8 : Nat))), V.i (gi [] (((0 : Nat) + (2 : Nat)) % (8 : Nat))), V.i (gi [] (((0 : Nat) + (1 : Nat)) % (8 : Nat))), V.i (gi [] ((0 : Nat) % (8 : Nat))), V.i (0 : Int), V.i (gi [] (((0 : Nat) + (7 : Nat)) % (8 : Nat))), V.i (gi [] (((0 : Nat) + (6 : Nat)) % (8 : Nat))), V.i (gi [] (((0 : Nat) + (5 : Nat)) % (8 : Nat))), V.i (gi [] (((0 : Nat) + (4 : Nat)) % (8 : Nat))), V.i (gi [] (((0 : Nat) + (3 : Nat)) % (8 : Nat))), V.i (gi [] (((0 : Nat) + (2 : Nat)) % (8 : Nat))), V.i (gi [] (((0 : Nat) + (1 : Nat)) % (8 : Nat))), V.i (gi [] ((0 : Nat) % (8 : Nat))), V.i (0 : Int), V.sl (1 : Nat) (List.length (Cv.feed (gc l (Int.toNat ((↑(List.length l) : Int) - (1 : Int) - (↑k : Int)))))) fun (k_1 : Nat) => [V.i (gi (Cv.feed (gc l (Int.toNat ((↑(List.length l) : Int) - (1 : Int) - (↑k : Int))))) k_1)], V.sl (1 : Nat) (List.length (Cv.back (gc l (Int.toNat ((↑(List.length l) : Int) - (1 : Int) - (↑k : Int)))))) fun (k_1 : Nat) => [V.i (gi (Cv.back (gc l (Int.toNat ((↑(List.length l) : Int) - (1 : Int) - (↑k : Int))))) k_1)], V.i (Cv.share (gc l (Int.toNat ((↑(List.length l) : Int) - (1 : Int) - (↑k : Int)))))]]) (v' := V.tup [V.nil, V.i (4 : Int)]) (δ := [(600048, Option.none), (601048, Option.none)]) (kp := [600048, 601048]) (each_no (gc l ((l.length : Int) - 1 - (k : Int)).toNat) true y 32767 hcv (by omega) (by decide) ha hj hb) (by kernel_rfl) (by kernel_rfl) (by kernel_rfl) (by kernel_rfl) (by kernel_rfl) (by kernel_rfl) rfl rfl (by kernel_rfl) (.box (by kernel_rfl) (by kernel_rfl) (.box (by kernel_rfl) (by kernel_rfl) .nil)) (by kernel_rfl) (by kernel_rfl) (by kernel_rfl) ?_
        refine aops_n hTT (M := []) (n := 5) [pv (44 : Nat) (V.tup [V.nil, V.i (4 : Int)]), pv (51 : Nat) V.nil, pv (52 : Nat) (V.i (4 : Int)), pv (12 : Nat) V.nil, pv (13 : Nat) (V.i (4 : Int))] (by kernel_rfl) (by kernel_rfl) True.intro ?_
        refine aops_nil ?_
        refine xt_n ?_
        refine hK _ ?_
        clear hK K
        refine aw_seq_k fun K hK => ?_
        refine aw_seq_k fun K hK => ?_
        refine w_region (n' := 8) (by kernel_rfl) (by kernel_rfl) ?_
        refine aops_n hTT (M := []) (n := 2) [pv (53 : Nat) (V.i (4 : Int)), pv (54 : Nat) (V.b true)] (by kernel_rfl) (by kernel_rfl) True.intro ?_
        refine aops_nil ?_
        refine xt_n ?_
        refine hK _ ?_
        clear hK K
        refine w_true (t := true) (by kernel_rfl) rfl ?_
        refine aw_seq_k fun K hK => ?_
        refine w_region (n' := 9) (by kernel_rfl) (by kernel_rfl) ?_
        refine aops_n hTT (M := []) (n := 3) [pv (55 : Nat) (V.i (4 : Int)), pv (6 : Nat) V.nil, pv (7 : Nat) (V.i (4 : Int))] (by kernel_rfl) (by kernel_rfl) True.intro ?_
        refine aops_nil ?_
        refine xt_n ?_
        refine hK _ ?_
        clear hK K
        refine aw_ret ?_
        refine xt_r ?_
        refine xb_r ?_
        refine xt_r ?_
        refine xt_r ?_
        refine xb_r ?_
        refine xt_r ?_
        rw [chR_3 c1 c2 ((chainI_fold l true 32767 x).trans (foldI_stop hsn))]
        refine ret_of_le (le_nil 6 (sz := 1) 0 (fun k => [.i (gi [] k)]) (by kernel_rfl) ?_) ?_
        · rfl
        refine ret_pure (v' := V.tup [V.sl (1 : Nat) (0 : Nat) fun (k : Nat) => [V.i (gi [] k)], V.i (4 : Int)]) (.inr rfl) (by kernel_rfl) (by kernel_rfl) (by kernel_rfl)
    · subst c4
      have hq : gc (seqC l false) k = gc l k := hsq
      rw [hq] at hcv hsn
      refine aw_skip ?_
      refine xt_n ?_
      refine hK _ ?_
      clear hK K
      refine aw_seq_k fun K hK => ?_
      refine w_region (n' := 6) (by kernel_rfl) (by kernel_rfl) ?_
      refine aops_n hTT (M := []) (n := 3) [pv (45 : Nat) (V.sl (1 : Nat) (List.length y) fun (k : Nat) => [V.i (gi y k)]), pc (46 : Nat) ((0 : Nat) ≤ (3 : Nat)) (V.agg [V.sl (1 : Nat) (List.length (Cv.feed (gc l k))) fun (k_1 : Nat) => [V.i (gi (Cv.feed (gc l k)) k_1)], V.sl (1 : Nat) (List.length (Cv.back (gc l k))) fun (k_1 : Nat) => [V.i (gi (Cv.back (gc l k)) k_1)], V.i (Cv.share (gc l k))]), pv (47 : Nat) (V.b false)] (by kernel_rfl) (by kernel_rfl) ⟨(by omega), True.intro⟩ ?_
      refine aops_callN (first := []) (caps := []) (v' := V.fn (Fn.func (105 : Nat)) [] [V.ptr [V.b false], V.ref (500048 : Nat) (0 : Nat)]) (δ := [(500048, Option.some (Ob.box (108 : Nat) [V.ref (501048 : Nat) (0 : Nat)])), (501048, Option.some (Ob.box (113 : Nat) [V.i (gi [] (((0 : Nat) + (7 : Nat)) % (8 : Nat))), V.i (gi [] (((0 : Nat) + (6 : Nat)) % (8 : Nat))), V.i (gi [] (((0 : Nat) + (5 : Nat)) % (8 : Nat))), V.i (gi [] (((0 : Nat) + (4 : Nat)) % (8 : Nat))), V.i (gi [] (((0 : Nat) + (3 : Nat)) % (8 : Nat))), V.i (gi [] (((0 : Nat) + (2 : Nat)) % (8 : Nat))), V.i (gi [] (((0 : Nat) + (1 : Nat)) % (8 : Nat))), V.i (gi [] ((0 : Nat) % (8 : Nat))), V.i (0 : Int), V.i (gi [] (((0 : Nat) + (7 : Nat)) % (8 : Nat))), V.i (gi [] (((0 : Nat) + (6 : Nat)) % (8 : Nat))), V.i (gi [] (((0 : Nat) + (5 : Nat)) % (8 : Nat))), V.i (gi [] (((0 : Nat) + (4 : Nat)) % (8 : Nat))), V.i (gi [] (((0 : Nat) + (3 : Nat)) % (8 : Nat))), V.i (gi [] (((0 : Nat) + (2 : Nat)) % (8 : Nat))), V.i (gi [] (((0 : Nat) + (1 : Nat)) % (8 : Nat))), V.i (gi [] ((0 : Nat) % (8 : Nat))), V.i (0 : Int), V.sl (1 : Nat) (List.length (Cv.feed (gc l k))) fun (k_1 : Nat) => [V.i (gi (Cv.feed (gc l k)) k_1)], V.sl (1 : Nat) (List.length (Cv.back (gc l k))) fun (k_1 : Nat) => [V.i (gi (Cv.back (gc l k)) k_1)], V.i (Cv.share (gc l k))]))]) (fStep_ac (gc l k) false) (by kernel_rfl) (by kernel_rfl) (by kernel_rfl) (by kernel_rfl) (by kernel_rfl) (by kernel_rfl) (by kernel_rfl) ?_
      skip
      refine e_call (first := []) (caps := []) (within_ac 32767) (by kernel_rfl) (by kernel_rfl) (by kernel_rfl) (by kernel_rfl) (by kernel_rfl) ?_
      skip
      rcases fine_or (gc l k) false y 32767 with hfi | ⟨j, hj, hb⟩
      · rw [runI_some hfi] at hsn
        refine aops_callM [500048, 501048] (first := []) (caps := []) (ins' := [Ob.box (108 : Nat) [V.ref (501048 : Nat) (0 : Nat)], Ob.box (113 : Nat) [V.i (gi [] (((0 : Nat) + (7 : Nat)) % (8 : Nat))), V.i (gi [] (((0 : Nat) + (6 : Nat)) % (8 : Nat))), V.i (gi [] (((0 : Nat) + (5 : Nat)) % (8 : Nat))), V.i (gi [] (((0 : Nat) + (4 : Nat)) % (8 : Nat))), V.i (gi [] (((0 : Nat) + (3 : Nat)) % (8 : Nat))), V.i (gi [] (((0 : Nat) + (2 : Nat)) % (8 : Nat))), V.i (gi [] (((0 : Nat) + (1 : Nat)) % (8 : Nat))), V.i (gi [] ((0 : Nat) % (8 : Nat))), V.i (0 : Int), V.i (gi [] (((0 : Nat) + (7 : Nat)) % (8 : Nat))), V.i (gi [] (((0 : Nat) + (6 : Nat)) % (8 : Nat))), V.i (gi [] (((0 : Nat) + (5 : Nat)) % (8 : Nat))), V.i (gi [] (((0 : Nat) + (4 : Nat)) % (8 : Nat))), V.i (gi [] (((0 : Nat) + (3 : Nat)) % (8 : Nat))), V.i (gi [] (((0 : Nat) + (2 : Nat)) % (8 : Nat))), V.i (gi [] (((0 : Nat) + (1 : Nat)) % (8 : Nat))), V.i (gi [] ((0 : Nat) % (8 : Nat))), V.i (0 : Int), V.sl (1 : Nat) (List.length (Cv.feed (gc l k))) fun (k_1 : Nat) => [V.i (gi (Cv.feed (gc l k)) k_1)], V.sl (1 : Nat) (List.length (Cv.back (gc l k))) fun (k_1 : Nat) => [V.i (gi (Cv.back (gc l k)) k_1)], V.i (Cv.share (gc l k))]]) (v' := V.tup [V.own (500050 : Nat), V.i (0 : Int)]) (δ := [(500048, Option.none), (501048, Option.none), (500050, Option.some (Ob.row (2 : Nat) (1 : Nat) (List.length y) fun (i : Nat) => V.renL (nameG (5 : Nat) (some 50) [(500048 : Nat), (501048 : Nat)]) [V.i (gi (resL (gc l k) false y) i)]))]) (kp := [500048, 501048]) (each_ok (gc l k) false y 32767 hcv (by omega) (by decide) ha hfi) (by kernel_rfl) (by kernel_rfl) (by kernel_rfl) (by kernel_rfl) (by kernel_rfl) (by kernel_rfl) rfl rfl (by kernel_rfl) (.box (by kernel_rfl) (by kernel_rfl) (.box (by kernel_rfl) (by kernel_rfl) .nil)) (by kernel_rfl) (by kernel_rfl) (by kernel_rfl) ?_
        refine aops_n hTT (M := []) (n := 5) [pv (44 : Nat) (V.tup [V.own (500050 : Nat), V.i (0 : Int)]), pv (51 : Nat) (V.own (500050 : Nat)), pv (52 : Nat) (V.i (0 : Int)), pv (12 : Nat) (V.own (500050 : Nat)), pv (13 : Nat) (V.i (0 : Int))] (by kernel_rfl) (by kernel_rfl) True.intro ?_
        refine aops_nil ?_
        refine xt_n ?_
        refine hK _ ?_
        clear hK K
        refine aw_seq_k fun K hK => ?_
        refine aw_seq_k fun K hK => ?_
        refine w_le (le_shut 12 500050 (e := (2 : Nat)) (sz := (1 : Nat)) (n := List.length y) (n' := (resL (gc l k) false y).length) (row := fun (i : Nat) => V.renL (nameG (5 : Nat) (some (50 : Tmp)) [(500048 : Nat), (501048 : Nat)]) [V.i (gi (resL (gc l k) false y) i)]) (row' := (fun j => [.i (gi (resL (gc l k) false y) j)])) (by kernel_rfl) (by kernel_rfl) (fun _ _ => rfl) ?_ ?_) ?_
        · rw [resL_len]
        · intro i hi
          rfl
        refine w_region (n' := 7) (by kernel_rfl) (by kernel_rfl) ?_
        refine aops_n hTT (M := []) (n := 2) [pv (53 : Nat) (V.i (0 : Int)), pv (54 : Nat) (V.b false)] (by kernel_rfl) (by kernel_rfl) True.intro ?_
        refine aops_nil ?_
        refine xt_n ?_
        refine hK _ ?_
        clear hK K
        refine w_false (t := false) (by kernel_rfl) rfl ?_
        refine aw_skip ?_
        refine xt_n ?_
        refine hK _ ?_
        clear hK K
        refine w_region (n' := 8) (by kernel_rfl) (by kernel_rfl) ?_
        refine aops_n hTT (M := []) (n := 2) [pv (56 : Nat) (V.sl (1 : Nat) (List.length (resL (gc l k) false y)) fun (j : Nat) => [V.i (gi (resL (gc l k) false y) j)]), pv (1 : Nat) (V.sl (1 : Nat) (List.length (resL (gc l k) false y)) fun (j : Nat) => [V.i (gi (resL (gc l k) false y) j)])] (by kernel_rfl) (by kernel_rfl) True.intro ?_
        refine aops_nil ?_
        refine xb_n ?_
        refine xt_n ?_
        refine hK _ ?_
        clear hK K
        refine w_region (n' := 9) (by kernel_rfl) (by kernel_rfl) ?_
        refine aops_n hTT (M := []) (n := 2) [pc (57 : Nat) ((-9223372036854775808 : Int) ≤ (↑k : Int) + (1 : Int) ∧ (↑k : Int) + (1 : Int) ≤ (9223372036854775807 : Int)) (V.i ((↑k : Int) + (1 : Int))), pv (28 : Nat) (V.i ((↑k : Int) + (1 : Int)))] (by kernel_rfl) (by kernel_rfl) ⟨(by omega), True.intro⟩ ?_
        refine aops_nil ?_
        refine xt_n ?_
        refine ⟨(k + 1, resL (gc l k) false y), ⟨by omega, by simp only [resL_len, hy], any_bey.1 (any_resL.2 hfi), hsn⟩, ?_, by simp only; omega⟩
        show Le _ ⟨mkT [(0, V.cvs l), (1, V.ints (resL (gc l k) false y)), (2, .b false), (27, .i l.length), (28, .i ((k + 1 : Nat) : Int))], mkS [], 1⟩
        refine le_ren [] (.cons (by kernel_rfl) (.cons (by kernel_rfl) (.cons (by kernel_rfl) (.cons (by kernel_rfl) (.cons (by kernel_rfl) .nil))))) .nil (by kernel_rfl) (by kernel_rfl)
      · rw [runI_none hj hb] at hsn
        refine aops_callM [500048, 501048] (first := []) (caps := []) (ins' := [Ob.box (108 : Nat) [V.ref (501048 : Nat) (0 : Nat)], Ob.box (113 : Nat) [V.i (gi [] (((0 : Nat) + (7 : Nat)) % (8 : Nat))), V.i (gi [] (((0 : Nat) + (6 : Nat)) % (8 : Nat))), V.i (gi [] (((0 : Nat) + (5 : Nat)) % (8 : Nat))), V.i (gi [] (((0 : Nat) + (4 : Nat)) % (8 : Nat))), V.i (gi [] (((0 : Nat) + (3 : Nat)) % (8 : Nat))), V.i (gi [] (((0 : Nat) + (2 : Nat)) % (8 : Nat))), V.i (gi [] (((0 : Nat) + (1 : Nat)) % (8 : Nat))), V.i (gi [] ((0 : Nat) % (8 : Nat))), V.i (0 : Int), V.i (gi [] (((0 : Nat) + (7 : Nat)) % (8 : Nat))), V.i (gi [] (((0 : Nat) + (6 : Nat)) % (8 : Nat))), V.i (gi [] (((0 : Nat) + (5 : Nat)) % (8 : Nat))), V.i (gi [] (((0 : Nat) + (4 : Nat)) % (8 : Nat))), V.i (gi [] (((0 : Nat) + (3 : Nat)) % (8 : Nat))), V.i (gi [] (((0 : Nat) + (2 : Nat)) % (8 : Nat))), V.i (gi [] (((0 : Nat) + (1 : Nat)) % (8 : Nat))), V.i (gi [] ((0 : Nat) % (8 : Nat))), V.i (0 : Int), V.sl (1 : Nat) (List.length (Cv.feed (gc l k))) fun (k_1 : Nat) => [V.i (gi (Cv.feed (gc l k)) k_1)], V.sl (1 : Nat) (List.length (Cv.back (gc l k))) fun (k_1 : Nat) => [V.i (gi (Cv.back (gc l k)) k_1)], V.i (Cv.share (gc l k))]]) (v' := V.tup [V.nil, V.i (4 : Int)]) (δ := [(500048, Option.none), (501048, Option.none)]) (kp := [500048, 501048]) (each_no (gc l k) false y 32767 hcv (by omega) (by decide) ha hj hb) (by kernel_rfl) (by kernel_rfl) (by kernel_rfl) (by kernel_rfl) (by kernel_rfl) (by kernel_rfl) rfl rfl (by kernel_rfl) (.box (by kernel_rfl) (by kernel_rfl) (.box (by kernel_rfl) (by kernel_rfl) .nil)) (by kernel_rfl) (by kernel_rfl) (by kernel_rfl) ?_
        refine aops_n hTT (M := []) (n := 5) [pv (44 : Nat) (V.tup [V.nil, V.i (4 : Int)]), pv (51 : Nat) V.nil, pv (52 : Nat) (V.i (4 : Int)), pv (12 : Nat) V.nil, pv (13 : Nat) (V.i (4 : Int))] (by kernel_rfl) (by kernel_rfl) True.intro ?_
        refine aops_nil ?_
        refine xt_n ?_
        refine hK _ ?_
        clear hK K
        refine aw_seq_k fun K hK => ?_
        refine aw_seq_k fun K hK => ?_
        refine w_region (n' := 7) (by kernel_rfl) (by kernel_rfl) ?_
        refine aops_n hTT (M := []) (n := 2) [pv (53 : Nat) (V.i (4 : Int)), pv (54 : Nat) (V.b true)] (by kernel_rfl) (by kernel_rfl) True.intro ?_
        refine aops_nil ?_
        refine xt_n ?_
        refine hK _ ?_
        clear hK K
        refine w_true (t := true) (by kernel_rfl) rfl ?_
        refine aw_seq_k fun K hK => ?_
        refine w_region (n' := 8) (by kernel_rfl) (by kernel_rfl) ?_
        refine aops_n hTT (M := []) (n := 3) [pv (55 : Nat) (V.i (4 : Int)), pv (6 : Nat) V.nil, pv (7 : Nat) (V.i (4 : Int))] (by kernel_rfl) (by kernel_rfl) True.intro ?_
        refine aops_nil ?_
        refine xt_n ?_
        refine hK _ ?_
        clear hK K
        refine aw_ret ?_
        refine xt_r ?_
        refine xb_r ?_
        refine xt_r ?_
        refine xt_r ?_
        refine xb_r ?_
        refine xt_r ?_
        rw [chR_3 c1 c2 ((chainI_fold l false 32767 x).trans (foldI_stop hsn))]
        refine ret_of_le (le_nil 6 (sz := 1) 0 (fun k => [.i (gi [] k)]) (by kernel_rfl) ?_) ?_
        · rfl
        refine ret_pure (v' := V.tup [V.sl (1 : Nat) (0 : Nat) fun (k : Nat) => [V.i (gi [] k)], V.i (4 : Int)]) (.inr rfl) (by kernel_rfl) (by kernel_rfl) (by kernel_rfl)
  · simp at c3
    obtain rfl : k = l.length := by omega
    rw [List.take_of_length_le (by rw [seqC_len]; omega)] at hf
    refine aw_exit ?_
    refine xt_x ?_
    refine xt_x ?_
    refine xb_same ?_
    refine xt_n ?_
    clear hK K
    refine hK _ ?_
    clear hK K
    refine aw_seq_k fun K hK => ?_
    refine w_region (n' := 3) (by kernel_rfl) (by kernel_rfl) ?_
    refine aops_n hTT (M := []) (n := 3) [pv (58 : Nat) (V.sl (1 : Nat) (List.length y) fun (k : Nat) => [V.i (gi y k)]), pv (6 : Nat) (V.sl (1 : Nat) (List.length y) fun (k : Nat) => [V.i (gi y k)]), pv (7 : Nat) (V.i (0 : Int))] (by kernel_rfl) (by kernel_rfl) True.intro ?_
    refine aops_nil ?_
    refine xt_n ?_
    refine hK _ ?_
    clear hK K
    refine aw_ret ?_
    rw [chR_4 c1 c2 ((chainI_fold l u 32767 x).trans hf)]
    refine ret_pure (v' := V.tup [V.sl (1 : Nat) (List.length y) fun (k : Nat) => [V.i (gi y k)], V.i (0 : Int)]) (.inr rfl) (by kernel_rfl) (by kernel_rfl) (by kernel_rfl)
end Go.Proofs.Ytblipieipldanaa
