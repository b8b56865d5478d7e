/-
  FilterChains: the walk of the law. No condition.
-/
import Derived.Test.YtblipieipldanaaFA12
namespace Go.Proofs.Ytblipieipldanaa
open Go.Ab Go.RowKit Go.Dw Go.Shelf

theorem chR_len {l : List Cv} {u : Bool} {x : List Int} : (chR l u x).2.length ≤ bigL := by
  by_cases h : chE l = 0
  · by_cases h2 : sigE x = 0
    · cases h3 : chainI l u 32767 x with
      | none => rw [chR_3 h h2 h3]; exact Nat.zero_le _
      | some y =>
        rw [chR_4 h h2 h3]
        show y.length ≤ _
        have key : ∀ (cs : List Cv) (x y : List Int), foldI u 32767 cs (some x) = some y → y.length = x.length := by
          intro cs
          induction cs with
          | nil => intro x y h; simp [foldI] at h; rw [h]
          | cons c cs ih =>
            intro x y h
            have e : foldI u 32767 (c :: cs) (some x) = foldI u 32767 cs (runI c u 32767 x) := rfl
            rw [e] at h
            cases hr : runI c u 32767 x with
            | none => rw [hr, foldI_none] at h; cases h
            | some z => rw [hr] at h; rw [ih z y h, runI_len hr]
        rw [chainI_fold] at h3
        rw [key _ _ _ h3]
        exact sig_big h2
    · rw [chR_2 h h2]; exact Nat.zero_le _
  · rw [chR_1 h]; exact Nat.zero_le _
set_option maxRecDepth 100000 in
theorem chains_law (l : List Cv) (x : List Int) (hl : cvsL l) (hx : x.length ≤ bigL) : AC Try.prog 7 [V.cvs l, V.ints x] (.b true) [] := by
  refine ac_intro hTT hMX (fn := Try.f7) (N := _) ⟨Try.func7, rfl, Try.ntmps7, by kernel_rfl⟩ (by simp) fun C hC hF => ?_
  refine aw_seq_k fun K hK => ?_
  refine w_region (n' := 2) (by kernel_rfl) (by kernel_rfl) ?_
  refine aops_n hTT (M := []) (n := 1) [pv (4 : Nat) (V.b false)] (by kernel_rfl) (by kernel_rfl) True.intro ?_
  refine aops_nil ?_
  refine xt_n ?_
  refine hK _ ?_
  clear hK K
  refine aw_seq_k fun K hK => ?_
  refine aw_seq_k fun K hK => ?_
  refine w_region (n' := 3) (by kernel_rfl) (by kernel_rfl) ?_
  refine aops_n hTT (M := []) (n := 1) [pv (13 : Nat) (V.sl (3 : Nat) (List.length l) fun (k : Nat) => [V.ints (Cv.feed (gc l k)), V.ints (Cv.back (gc l k)), V.i (Cv.share (gc l k))])] (by kernel_rfl) (by kernel_rfl) True.intro ?_
  refine e_call (first := []) (caps := []) (chains_ac l hl.1) (by kernel_rfl) (by kernel_rfl) (by kernel_rfl) (by kernel_rfl) (by kernel_rfl) ?_
  refine aops_n hTT (M := []) (n := 3) [pv (15 : Nat) (V.b (longC l)), pc (16 : Nat) ((True ∧ True) ∧ ((longC l == false) = true → True)) (V.gd (longC l == false) (V.sl (1 : Nat) (List.length x) fun (k : Nat) => [V.i (gi x k)])), pc (17 : Nat) ((((longC l == false) = true → (longC l == false) = true) ∧ True) ∧ ((longC l == false) = true → True)) (V.gd (longC l == false) (V.i (↑(List.length x) : Int)))] (by kernel_rfl) (by kernel_rfl) ⟨⟨⟨True.intro, True.intro⟩, (fun _ => True.intro)⟩, ⟨⟨(by (exact fun h => h)), True.intro⟩, (fun _ => True.intro)⟩, True.intro⟩ ?_
  refine e_callG 1 (g := longC l == false) (first := []) (caps := []) (by kernel_rfl) (fun h => long_ac x.length 200) (by kernel_rfl) (by kernel_rfl) (by kernel_rfl) (by kernel_rfl) (by kernel_rfl) (by kernel_rfl) ?_
  refine aops_n hTT (M := []) (n := 1) [pc (19 : Nat) (True ∧ (longC l = false → (longC l == false) = true)) (V.b (longC l || (decide ((200 : Int) < (↑(List.length x) : Int)) && decide ((↑(List.length x) : Int) ≤ (4096 : Int)) || decide ((4116 : Int) < (↑(List.length x) : Int)))))] (by kernel_rfl) (by kernel_rfl) ⟨⟨True.intro, (by (intro h; rw [h]; rfl))⟩, True.intro⟩ ?_
  refine aops_nil ?_
  refine xt_n ?_
  refine hK _ ?_
  clear hK K
  refine w_cond (t := longC l || (decide ((200 : Int) < (↑(List.length x) : Int)) && decide ((↑(List.length x) : Int) ≤ (4096 : Int)) || decide ((4116 : Int) < (↑(List.length x) : Int)))) (by kernel_rfl) (fun c1 => ?_) (fun c1 => ?_)
  · refine aw_seq_k fun K hK => ?_
    refine w_region (n' := 4) (by kernel_rfl) (by kernel_rfl) ?_
    refine e_call (first := []) (caps := []) (works_ac) (by kernel_rfl) (by kernel_rfl) (by kernel_rfl) (by kernel_rfl) (by kernel_rfl) ?_
    refine aops_n hTT (M := []) (n := 1) [pv (4 : Nat) (V.b true)] (by kernel_rfl) (by kernel_rfl) True.intro ?_
    refine aops_nil ?_
    refine xt_n ?_
    refine hK _ ?_
    clear hK K
    refine aw_ret ?_
    refine xt_r ?_
    refine ret_pure (v' := V.b true) (.inr rfl) (by kernel_rfl) (by kernel_rfl) (by kernel_rfl)
  refine aw_skip ?_
  refine xt_n ?_
  refine hK _ ?_
  clear hK K
  refine aw_seq_k fun K hK => ?_
  refine w_region (n' := 4) (by kernel_rfl) (by kernel_rfl) ?_
  refine aops_n hTT (M := []) (n := 2) [pv (22 : Nat) (V.sl (3 : Nat) (List.length l) fun (k : Nat) => [V.ints (Cv.feed (gc l k)), V.ints (Cv.back (gc l k)), V.i (Cv.share (gc l k))]), pv (23 : Nat) (V.sl (1 : Nat) (List.length x) fun (k : Nat) => [V.i (gi x k)])] (by kernel_rfl) (by kernel_rfl) True.intro ?_
  refine e_call (first := []) (caps := []) (ApplyAll_ac l x hl hx) (by kernel_rfl) (by kernel_rfl) (by kernel_rfl) (by kernel_rfl) (by kernel_rfl) ?_
  refine aops_n hTT (M := []) (n := 5) [pv (21 : Nat) (V.tup [V.sl (1 : Nat) (List.length (Prod.snd (chR l false x))) fun (k : Nat) => [V.i (gi (Prod.snd (chR l false x)) k)], V.i (Prod.fst (chR l false x))]), pv (25 : Nat) (V.sl (1 : Nat) (List.length (Prod.snd (chR l false x))) fun (k : Nat) => [V.i (gi (Prod.snd (chR l false x)) k)]), pv (26 : Nat) (V.i (Prod.fst (chR l false x))), pv (5 : Nat) (V.sl (1 : Nat) (List.length (Prod.snd (chR l false x))) fun (k : Nat) => [V.i (gi (Prod.snd (chR l false x)) k)]), pv (6 : Nat) (V.i (Prod.fst (chR l false x)))] (by kernel_rfl) (by kernel_rfl) True.intro ?_
  refine aops_nil ?_
  refine xt_n ?_
  refine hK _ ?_
  clear hK K
  refine aw_seq_k fun K hK => ?_
  refine w_region (n' := 5) (by kernel_rfl) (by kernel_rfl) ?_
  refine aops_n hTT (M := []) (n := 2) [pv (28 : Nat) (V.sl (3 : Nat) (List.length l) fun (k : Nat) => [V.ints (Cv.feed (gc l k)), V.ints (Cv.back (gc l k)), V.i (Cv.share (gc l k))]), pv (29 : Nat) (V.sl (1 : Nat) (List.length x) fun (k : Nat) => [V.i (gi x k)])] (by kernel_rfl) (by kernel_rfl) True.intro ?_
  refine e_call (first := []) (caps := []) (refApplyAll_ac l x hl hx) (by kernel_rfl) (by kernel_rfl) (by kernel_rfl) (by kernel_rfl) (by kernel_rfl) ?_
  refine aops_n hTT (M := []) (n := 5) [pv (27 : Nat) (V.tup [V.sl (1 : Nat) (List.length (Prod.snd (chR l false x))) fun (k : Nat) => [V.i (gi (Prod.snd (chR l false x)) k)], V.i (Prod.fst (chR l false x))]), pv (31 : Nat) (V.sl (1 : Nat) (List.length (Prod.snd (chR l false x))) fun (k : Nat) => [V.i (gi (Prod.snd (chR l false x)) k)]), pv (32 : Nat) (V.i (Prod.fst (chR l false x))), pv (7 : Nat) (V.sl (1 : Nat) (List.length (Prod.snd (chR l false x))) fun (k : Nat) => [V.i (gi (Prod.snd (chR l false x)) k)]), pv (8 : Nat) (V.i (Prod.fst (chR l false x)))] (by kernel_rfl) (by kernel_rfl) True.intro ?_
  refine aops_nil ?_
  refine xt_n ?_
  refine hK _ ?_
  clear hK K
  refine aw_seq_k fun K hK => ?_
  refine w_region (n' := 6) (by kernel_rfl) (by kernel_rfl) ?_
  refine aops_n hTT (M := []) (n := 2) [pv (34 : Nat) (V.sl (3 : Nat) (List.length l) fun (k : Nat) => [V.ints (Cv.feed (gc l k)), V.ints (Cv.back (gc l k)), V.i (Cv.share (gc l k))]), pv (35 : Nat) (V.sl (1 : Nat) (List.length x) fun (k : Nat) => [V.i (gi x k)])] (by kernel_rfl) (by kernel_rfl) True.intro ?_
  refine e_call (first := []) (caps := []) (UndoAll_ac l x hl hx) (by kernel_rfl) (by kernel_rfl) (by kernel_rfl) (by kernel_rfl) (by kernel_rfl) ?_
  refine aops_n hTT (M := []) (n := 5) [pv (33 : Nat) (V.tup [V.sl (1 : Nat) (List.length (Prod.snd (chR l true x))) fun (k : Nat) => [V.i (gi (Prod.snd (chR l true x)) k)], V.i (Prod.fst (chR l true x))]), pv (37 : Nat) (V.sl (1 : Nat) (List.length (Prod.snd (chR l true x))) fun (k : Nat) => [V.i (gi (Prod.snd (chR l true x)) k)]), pv (38 : Nat) (V.i (Prod.fst (chR l true x))), pv (9 : Nat) (V.sl (1 : Nat) (List.length (Prod.snd (chR l true x))) fun (k : Nat) => [V.i (gi (Prod.snd (chR l true x)) k)]), pv (10 : Nat) (V.i (Prod.fst (chR l true x)))] (by kernel_rfl) (by kernel_rfl) True.intro ?_
  refine aops_nil ?_
  refine xt_n ?_
  refine hK _ ?_
  clear hK K
  refine aw_seq_k fun K hK => ?_
  refine w_region (n' := 7) (by kernel_rfl) (by kernel_rfl) ?_
  refine aops_n hTT (M := []) (n := 2) [pv (40 : Nat) (V.sl (3 : Nat) (List.length l) fun (k : Nat) => [V.ints (Cv.feed (gc l k)), V.ints (Cv.back (gc l k)), V.i (Cv.share (gc l k))]), pv (41 : Nat) (V.sl (1 : Nat) (List.length x) fun (k : Nat) => [V.i (gi x k)])] (by kernel_rfl) (by kernel_rfl) True.intro ?_
  refine e_call (first := []) (caps := []) (refUndoAll_ac l x hl hx) (by kernel_rfl) (by kernel_rfl) (by kernel_rfl) (by kernel_rfl) (by kernel_rfl) ?_
  refine aops_n hTT (M := []) (n := 5) [pv (39 : Nat) (V.tup [V.sl (1 : Nat) (List.length (Prod.snd (chR l true x))) fun (k : Nat) => [V.i (gi (Prod.snd (chR l true x)) k)], V.i (Prod.fst (chR l true x))]), pv (43 : Nat) (V.sl (1 : Nat) (List.length (Prod.snd (chR l true x))) fun (k : Nat) => [V.i (gi (Prod.snd (chR l true x)) k)]), pv (44 : Nat) (V.i (Prod.fst (chR l true x))), pv (11 : Nat) (V.sl (1 : Nat) (List.length (Prod.snd (chR l true x))) fun (k : Nat) => [V.i (gi (Prod.snd (chR l true x)) k)]), pv (12 : Nat) (V.i (Prod.fst (chR l true x)))] (by kernel_rfl) (by kernel_rfl) True.intro ?_
  refine aops_nil ?_
  refine xt_n ?_
  refine hK _ ?_
  clear hK K
  refine aw_seq_k fun K hK => ?_
  refine w_region (n' := 8) (by kernel_rfl) (by kernel_rfl) ?_
  refine aops_n hTT (M := []) (n := 6) [pv (45 : Nat) (V.i (Prod.fst (chR l false x))), pv (46 : Nat) (V.i (Prod.fst (chR l false x))), pv (47 : Nat) (V.b (decide (Prod.fst (chR l false x) = Prod.fst (chR l false x)))), pv (48 : Nat) (V.b (decide (Prod.fst (chR l false x) = Prod.fst (chR l false x)))), pc (49 : Nat) ((True ∧ True) ∧ ((decide (Prod.fst (chR l false x) = Prod.fst (chR l false x)) == true) = true → True)) (V.gd (decide (Prod.fst (chR l false x) = Prod.fst (chR l false x)) == true) (V.sl (1 : Nat) (List.length (Prod.snd (chR l false x))) fun (k : Nat) => [V.i (gi (Prod.snd (chR l false x)) k)])), pc (50 : Nat) ((True ∧ True) ∧ ((decide (Prod.fst (chR l false x) = Prod.fst (chR l false x)) == true) = true → True)) (V.gd (decide (Prod.fst (chR l false x) = Prod.fst (chR l false x)) == true) (V.sl (1 : Nat) (List.length (Prod.snd (chR l false x))) fun (k : Nat) => [V.i (gi (Prod.snd (chR l false x)) k)]))] (by kernel_rfl) (by kernel_rfl) ⟨⟨⟨True.intro, True.intro⟩, (fun _ => True.intro)⟩, ⟨⟨True.intro, True.intro⟩, (fun _ => True.intro)⟩, True.intro⟩ ?_
  refine e_callG 2 (g := decide (Prod.fst (chR l false x) = Prod.fst (chR l false x)) == true) (first := []) (caps := []) (by kernel_rfl) (fun h => refSame_ac (chR l false x).2 (chR l false x).2 chR_len chR_len) (by kernel_rfl) (by kernel_rfl) (by kernel_rfl) (by kernel_rfl) (by kernel_rfl) (by kernel_rfl) ?_
  refine aops_n hTT (M := []) (n := 9) [pc (52 : Nat) ((decide (Prod.fst (chR l false x) = Prod.fst (chR l false x)) = true → (decide (Prod.fst (chR l false x) = Prod.fst (chR l false x)) == true) = true) ∧ True) (V.b (decide (Prod.fst (chR l false x) = Prod.fst (chR l false x)) && decide (Prod.snd (chR l false x) = Prod.snd (chR l false x)))), pv (53 : Nat) (V.b (decide (Prod.fst (chR l false x) = Prod.fst (chR l false x)) && decide (Prod.snd (chR l false x) = Prod.snd (chR l false x)))), pc (54 : Nat) ((True ∧ True) ∧ (((decide (Prod.fst (chR l false x) = Prod.fst (chR l false x)) && decide (Prod.snd (chR l false x) = Prod.snd (chR l false x))) == true) = true → True)) (V.gd ((decide (Prod.fst (chR l false x) = Prod.fst (chR l false x)) && decide (Prod.snd (chR l false x) = Prod.snd (chR l false x))) == true) (V.i (Prod.fst (chR l true x)))), pc (55 : Nat) ((True ∧ True) ∧ (((decide (Prod.fst (chR l false x) = Prod.fst (chR l false x)) && decide (Prod.snd (chR l false x) = Prod.snd (chR l false x))) == true) = true → True)) (V.gd ((decide (Prod.fst (chR l false x) = Prod.fst (chR l false x)) && decide (Prod.snd (chR l false x) = Prod.snd (chR l false x))) == true) (V.i (Prod.fst (chR l true x)))), pc (56 : Nat) (((((decide (Prod.fst (chR l false x) = Prod.fst (chR l false x)) && decide (Prod.snd (chR l false x) = Prod.snd (chR l false x))) == true) = true → ((decide (Prod.fst (chR l false x) = Prod.fst (chR l false x)) && decide (Prod.snd (chR l false x) = Prod.snd (chR l false x))) == true) = true) ∧ (((decide (Prod.fst (chR l false x) = Prod.fst (chR l false x)) && decide (Prod.snd (chR l false x) = Prod.snd (chR l false x))) == true) = true → ((decide (Prod.fst (chR l false x) = Prod.fst (chR l false x)) && decide (Prod.snd (chR l false x) = Prod.snd (chR l false x))) == true) = true) ∧ True) ∧ (((decide (Prod.fst (chR l false x) = Prod.fst (chR l false x)) && decide (Prod.snd (chR l false x) = Prod.snd (chR l false x))) == true) = true → True)) (V.gd ((decide (Prod.fst (chR l false x) = Prod.fst (chR l false x)) && decide (Prod.snd (chR l false x) = Prod.snd (chR l false x))) == true) (V.b (decide (Prod.fst (chR l true x) = Prod.fst (chR l true x))))), pc (57 : Nat) (((decide (Prod.fst (chR l false x) = Prod.fst (chR l false x)) && decide (Prod.snd (chR l false x) = Prod.snd (chR l false x))) = true → ((decide (Prod.fst (chR l false x) = Prod.fst (chR l false x)) && decide (Prod.snd (chR l false x) = Prod.snd (chR l false x))) == true) = true) ∧ True) (V.b (decide (Prod.fst (chR l false x) = Prod.fst (chR l false x)) && decide (Prod.snd (chR l false x) = Prod.snd (chR l false x)) && decide (Prod.fst (chR l true x) = Prod.fst (chR l true x)))), pv (58 : Nat) (V.b (decide (Prod.fst (chR l false x) = Prod.fst (chR l false x)) && decide (Prod.snd (chR l false x) = Prod.snd (chR l false x)) && decide (Prod.fst (chR l true x) = Prod.fst (chR l true x)))), pc (59 : Nat) ((True ∧ True) ∧ (((decide (Prod.fst (chR l false x) = Prod.fst (chR l false x)) && decide (Prod.snd (chR l false x) = Prod.snd (chR l false x)) && decide (Prod.fst (chR l true x) = Prod.fst (chR l true x))) == true) = true → True)) (V.gd ((decide (Prod.fst (chR l false x) = Prod.fst (chR l false x)) && decide (Prod.snd (chR l false x) = Prod.snd (chR l false x)) && decide (Prod.fst (chR l true x) = Prod.fst (chR l true x))) == true) (V.sl (1 : Nat) (List.length (Prod.snd (chR l true x))) fun (k : Nat) => [V.i (gi (Prod.snd (chR l true x)) k)])), pc (60 : Nat) ((True ∧ True) ∧ (((decide (Prod.fst (chR l false x) = Prod.fst (chR l false x)) && decide (Prod.snd (chR l false x) = Prod.snd (chR l false x)) && decide (Prod.fst (chR l true x) = Prod.fst (chR l true x))) == true) = true → True)) (V.gd ((decide (Prod.fst (chR l false x) = Prod.fst (chR l false x)) && decide (Prod.snd (chR l false x) = Prod.snd (chR l false x)) && decide (Prod.fst (chR l true x) = Prod.fst (chR l true x))) == true) (V.sl (1 : Nat) (List.length (Prod.snd (chR l true x))) fun (k : Nat) => [V.i (gi (Prod.snd (chR l true x)) k)]))] (by kernel_rfl) (by kernel_rfl) ⟨⟨(by (intro h; rw [h]; rfl)), True.intro⟩, ⟨⟨True.intro, True.intro⟩, (fun _ => True.intro)⟩, ⟨⟨True.intro, True.intro⟩, (fun _ => True.intro)⟩, ⟨⟨(by (exact fun h => h)), ⟨(by (exact fun h => h)), True.intro⟩⟩, (fun _ => True.intro)⟩, ⟨(by (intro h; rw [h]; rfl)), True.intro⟩, ⟨⟨True.intro, True.intro⟩, (fun _ => True.intro)⟩, ⟨⟨True.intro, True.intro⟩, (fun _ => True.intro)⟩, True.intro⟩ ?_
  refine e_callG 2 (g := (decide (Prod.fst (chR l false x) = Prod.fst (chR l false x)) && decide (Prod.snd (chR l false x) = Prod.snd (chR l false x)) && decide (Prod.fst (chR l true x) = Prod.fst (chR l true x))) == true) (first := []) (caps := []) (by kernel_rfl) (fun h => refSame_ac (chR l true x).2 (chR l true x).2 chR_len chR_len) (by kernel_rfl) (by kernel_rfl) (by kernel_rfl) (by kernel_rfl) (by kernel_rfl) (by kernel_rfl) ?_
  refine aops_n hTT (M := []) (n := 2) [pc (62 : Nat) (((decide (Prod.fst (chR l false x) = Prod.fst (chR l false x)) && decide (Prod.snd (chR l false x) = Prod.snd (chR l false x)) && decide (Prod.fst (chR l true x) = Prod.fst (chR l true x))) = true → ((decide (Prod.fst (chR l false x) = Prod.fst (chR l false x)) && decide (Prod.snd (chR l false x) = Prod.snd (chR l false x)) && decide (Prod.fst (chR l true x) = Prod.fst (chR l true x))) == true) = true) ∧ True) (V.b (decide (Prod.fst (chR l false x) = Prod.fst (chR l false x)) && decide (Prod.snd (chR l false x) = Prod.snd (chR l false x)) && decide (Prod.fst (chR l true x) = Prod.fst (chR l true x)) && decide (Prod.snd (chR l true x) = Prod.snd (chR l true x)))), pv (63 : Nat) (V.b (decide (Prod.fst (chR l false x) = Prod.fst (chR l false x)) && decide (Prod.snd (chR l false x) = Prod.snd (chR l false x)) && decide (Prod.fst (chR l true x) = Prod.fst (chR l true x)) && decide (Prod.snd (chR l true x) = Prod.snd (chR l true x))))] (by kernel_rfl) (by kernel_rfl) ⟨⟨(by (intro h; rw [h]; rfl)), True.intro⟩, True.intro⟩ ?_
  refine e_callG 0 (g := (decide (Prod.fst (chR l false x) = Prod.fst (chR l false x)) && decide (Prod.snd (chR l false x) = Prod.snd (chR l false x)) && decide (Prod.fst (chR l true x) = Prod.fst (chR l true x)) && decide (Prod.snd (chR l true x) = Prod.snd (chR l true x))) == true) (first := []) (caps := []) (by kernel_rfl) (fun h => works_ac) (by kernel_rfl) (by kernel_rfl) (by kernel_rfl) (by kernel_rfl) (by kernel_rfl) (by kernel_rfl) ?_
  refine aops_n hTT (M := []) (n := 2) [pc (65 : Nat) (((decide (Prod.fst (chR l false x) = Prod.fst (chR l false x)) && decide (Prod.snd (chR l false x) = Prod.snd (chR l false x)) && decide (Prod.fst (chR l true x) = Prod.fst (chR l true x)) && decide (Prod.snd (chR l true x) = Prod.snd (chR l true x))) = true → ((decide (Prod.fst (chR l false x) = Prod.fst (chR l false x)) && decide (Prod.snd (chR l false x) = Prod.snd (chR l false x)) && decide (Prod.fst (chR l true x) = Prod.fst (chR l true x)) && decide (Prod.snd (chR l true x) = Prod.snd (chR l true x))) == true) = true) ∧ True) (V.b (decide (Prod.fst (chR l false x) = Prod.fst (chR l false x)) && decide (Prod.snd (chR l false x) = Prod.snd (chR l false x)) && decide (Prod.fst (chR l true x) = Prod.fst (chR l true x)) && decide (Prod.snd (chR l true x) = Prod.snd (chR l true x)) && true)), pv (4 : Nat) (V.b (decide (Prod.fst (chR l false x) = Prod.fst (chR l false x)) && decide (Prod.snd (chR l false x) = Prod.snd (chR l false x)) && decide (Prod.fst (chR l true x) = Prod.fst (chR l true x)) && decide (Prod.snd (chR l true x) = Prod.snd (chR l true x)) && true))] (by kernel_rfl) (by kernel_rfl) ⟨⟨(by (intro h; rw [h]; rfl)), True.intro⟩, True.intro⟩ ?_
  refine aops_nil ?_
  refine xt_n ?_
  refine hK _ ?_
  clear hK K
  refine aw_ret ?_
  refine ret_pure (v' := V.b (decide (Prod.fst (chR l false x) = Prod.fst (chR l false x)) && decide (Prod.snd (chR l false x) = Prod.snd (chR l false x)) && decide (Prod.fst (chR l true x) = Prod.fst (chR l true x)) && decide (Prod.snd (chR l true x) = Prod.snd (chR l true x)) && true)) (.inr rfl) (by kernel_rfl) ?_ (by kernel_rfl)
  simp
/-- a law's list of curves -/
abbrev CvT : Sh := .fld (.sl (.int .i64)) (.fld (.sl (.int .i64)) (.lst (.int .i64)))
def toCv (x : CvT.T) : Cv := ⟨x.1, x.2.1, x.2.2⟩
theorem toCv_gc (l : List CvT.T) (i : Nat) : gc (l.map toCv) i = toCv (l.getD i CvT.dflt) := by
  unfold gc
  rw [List.getD_eq_getElem?_getD, List.getD_eq_getElem?_getD, List.getElem?_map]
  cases l[i]? <;> rfl
theorem cvs_imp (l : List CvT.T) : RImp (.sl 3 l.length fun i => CvT.cells (l.getD i CvT.dflt)) (V.cvs (l.map toCv)) := by
  refine RImp.rows (by simp) fun i hi => ?_
  rw [toCv_gc]
  rfl
theorem cvs_wf {l : List CvT.T} (h : (Sh.sl CvT).wf l) : cvsL (l.map toCv) := by
  obtain ⟨h1, h2⟩ := h
  refine ⟨by rw [List.length_map]; exact h1, fun k hk => ?_⟩
  have hk' : k < l.length := by simpa using hk
  rw [toCv_gc, List.getD_eq_getElem?_getD, List.getElem?_eq_getElem hk']
  obtain ⟨⟨h3, _⟩, ⟨h4, _⟩, _⟩ := h2 _ (List.getElem_mem hk')
  exact ⟨h3, h4⟩
def chainsSh : List Sh := [(.sl (.fld (.sl (.int .i64)) (.fld (.sl (.int .i64)) (.lst (.int .i64))))), (.sl (.int .i64))]
theorem chains_all (x : TL chainsSh) (hx : wfL chainsSh x) : AC Try.prog 7 (valL chainsSh x) (V.b true) [] := by
  obtain ⟨l, s, _⟩ := x
  obtain ⟨h1, ⟨h2, _⟩, _⟩ := hx
  exact (chains_law (l.map toCv) s (cvs_wf h1) h2).conv ⟨cvs_imp l, RImp.refl _, trivial⟩
end Go.Proofs.Ytblipieipldanaa
