/-
  FilterMatches: the walk of the law. No condition.
-/
import Derived.Test.YtblipieipldanaaFA16
import Derived.Test.YtblipieipldanaaWChains
namespace Go.Proofs.Ytblipieipldanaa
open Go.Ab Go.RowKit Go.Dw Go.Shelf

set_option maxRecDepth 100000 in
theorem matches_law (l : List Cv) (x y : List Int) (hl : cvsL l) (hx : x.length ≤ bigL) (hy : y.length ≤ bigL) : AC Try.prog 11 [V.cvs l, V.ints x, V.ints y] (.b true) [] := by
  refine ac_intro hTT hMX (fn := Try.f11) (N := _) ⟨Try.func11, rfl, Try.ntmps11, by kernel_rfl⟩ (by simp) fun C hC hF => ?_
  refine aw_seq_k fun K hK => ?_
  refine w_region (n' := 2) (by kernel_rfl) (by kernel_rfl) ?_
  refine aops_n hTT (M := []) (n := 1) [pv (6 : Nat) (V.b false)] (by kernel_rfl) (by kernel_rfl) True.intro ?_
  refine aops_nil ?_
  refine xt_n ?_
  refine hK _ ?_
  clear hK K
  refine aw_seq_k fun K hK => ?_
  refine aw_seq_k fun K hK => ?_
  refine w_region (n' := 3) (by kernel_rfl) (by kernel_rfl) ?_
  refine aops_n hTT (M := []) (n := 1) [pv (11 : Nat) (V.sl (3 : Nat) (List.length l) fun (k : Nat) => [V.ints (Cv.feed (gc l k)), V.ints (Cv.back (gc l k)), V.i (Cv.share (gc l k))])] (by kernel_rfl) (by kernel_rfl) True.intro ?_
  refine e_call (first := []) (caps := []) (chains_ac l hl.1) (by kernel_rfl) (by kernel_rfl) (by kernel_rfl) (by kernel_rfl) (by kernel_rfl) ?_
  refine aops_n hTT (M := []) (n := 3) [pv (13 : Nat) (V.b (longC l)), pc (14 : Nat) ((True ∧ True) ∧ ((longC l == false) = true → True)) (V.gd (longC l == false) (V.sl (1 : Nat) (List.length x) fun (k : Nat) => [V.i (gi x k)])), pc (15 : Nat) ((((longC l == false) = true → (longC l == false) = true) ∧ True) ∧ ((longC l == false) = true → True)) (V.gd (longC l == false) (V.i (↑(List.length x) : Int)))] (by kernel_rfl) (by kernel_rfl) ⟨⟨⟨True.intro, True.intro⟩, (fun _ => True.intro)⟩, ⟨⟨(by (exact fun h => h)), True.intro⟩, (fun _ => True.intro)⟩, True.intro⟩ ?_
  refine e_callG 1 (g := longC l == false) (first := []) (caps := []) (by kernel_rfl) (fun h => long_ac x.length 100) (by kernel_rfl) (by kernel_rfl) (by kernel_rfl) (by kernel_rfl) (by kernel_rfl) (by kernel_rfl) ?_
  refine aops_n hTT (M := []) (n := 4) [pc (17 : Nat) (True ∧ (longC l = false → (longC l == false) = true)) (V.b (longC l || (decide ((100 : Int) < (↑(List.length x) : Int)) && decide ((↑(List.length x) : Int) ≤ (4096 : Int)) || decide ((4116 : Int) < (↑(List.length x) : Int))))), pv (18 : Nat) (V.b (longC l || (decide ((100 : Int) < (↑(List.length x) : Int)) && decide ((↑(List.length x) : Int) ≤ (4096 : Int)) || decide ((4116 : Int) < (↑(List.length x) : Int))))), pc (19 : Nat) ((True ∧ True) ∧ (((longC l || (decide ((100 : Int) < (↑(List.length x) : Int)) && decide ((↑(List.length x) : Int) ≤ (4096 : Int)) || decide ((4116 : Int) < (↑(List.length x) : Int)))) == false) = true → True)) (V.gd ((longC l || (decide ((100 : Int) < (↑(List.length x) : Int)) && decide ((↑(List.length x) : Int) ≤ (4096 : Int)) || decide ((4116 : Int) < (↑(List.length x) : Int)))) == false) (V.sl (1 : Nat) (List.length y) fun (k : Nat) => [V.i (gi y k)])), pc (20 : Nat) (((((longC l || (decide ((100 : Int) < (↑(List.length x) : Int)) && decide ((↑(List.length x) : Int) ≤ (4096 : Int)) || decide ((4116 : Int) < (↑(List.length x) : Int)))) == false) = true → ((longC l || (decide ((100 : Int) < (↑(List.length x) : Int)) && decide ((↑(List.length x) : Int) ≤ (4096 : Int)) || decide ((4116 : Int) < (↑(List.length x) : Int)))) == false) = true) ∧ True) ∧ (((longC l || (decide ((100 : Int) < (↑(List.length x) : Int)) && decide ((↑(List.length x) : Int) ≤ (4096 : Int)) || decide ((4116 : Int) < (↑(List.length x) : Int)))) == false) = true → True)) (V.gd ((longC l || (decide ((100 : Int) < (↑(List.length x) : Int)) && decide ((↑(List.length x) : Int) ≤ (4096 : Int)) || decide ((4116 : Int) < (↑(List.length x) : Int)))) == false) (V.i (↑(List.length y) : Int)))] (by kernel_rfl) (by kernel_rfl) ⟨⟨True.intro, (by (intro h; rw [h]; rfl))⟩, ⟨⟨True.intro, True.intro⟩, (fun _ => True.intro)⟩, ⟨⟨(by (exact fun h => h)), True.intro⟩, (fun _ => True.intro)⟩, True.intro⟩ ?_
  refine e_callG 1 (g := (longC l || (decide ((100 : Int) < (↑(List.length x) : Int)) && decide ((↑(List.length x) : Int) ≤ (4096 : Int)) || decide ((4116 : Int) < (↑(List.length x) : Int)))) == false) (first := []) (caps := []) (by kernel_rfl) (fun h => long_ac y.length 100) (by kernel_rfl) (by kernel_rfl) (by kernel_rfl) (by kernel_rfl) (by kernel_rfl) (by kernel_rfl) ?_
  refine aops_n hTT (M := []) (n := 1) [pc (22 : Nat) (True ∧ ((longC l || (decide ((100 : Int) < (↑(List.length x) : Int)) && decide ((↑(List.length x) : Int) ≤ (4096 : Int)) || decide ((4116 : Int) < (↑(List.length x) : Int)))) = false → ((longC l || (decide ((100 : Int) < (↑(List.length x) : Int)) && decide ((↑(List.length x) : Int) ≤ (4096 : Int)) || decide ((4116 : Int) < (↑(List.length x) : Int)))) == false) = true)) (V.b (longC l || (decide ((100 : Int) < (↑(List.length x) : Int)) && decide ((↑(List.length x) : Int) ≤ (4096 : Int)) || decide ((4116 : Int) < (↑(List.length x) : Int))) || (decide ((100 : Int) < (↑(List.length y) : Int)) && decide ((↑(List.length y) : Int) ≤ (4096 : Int)) || decide ((4116 : Int) < (↑(List.length y) : Int)))))] (by kernel_rfl) (by kernel_rfl) ⟨⟨True.intro, (by (intro h; rw [h]; rfl))⟩, True.intro⟩ ?_
  refine aops_nil ?_
  refine xt_n ?_
  refine hK _ ?_
  clear hK K
  refine w_cond (t := longC l || (decide ((100 : Int) < (↑(List.length x) : Int)) && decide ((↑(List.length x) : Int) ≤ (4096 : Int)) || decide ((4116 : Int) < (↑(List.length x) : Int))) || (decide ((100 : Int) < (↑(List.length y) : Int)) && decide ((↑(List.length y) : Int) ≤ (4096 : Int)) || decide ((4116 : Int) < (↑(List.length y) : Int)))) (by kernel_rfl) (fun c1 => ?_) (fun c1 => ?_)
  · refine aw_seq_k fun K hK => ?_
    refine w_region (n' := 4) (by kernel_rfl) (by kernel_rfl) ?_
    refine e_call (first := []) (caps := []) (works_ac) (by kernel_rfl) (by kernel_rfl) (by kernel_rfl) (by kernel_rfl) (by kernel_rfl) ?_
    refine aops_n hTT (M := []) (n := 1) [pv (6 : Nat) (V.b true)] (by kernel_rfl) (by kernel_rfl) True.intro ?_
    refine aops_nil ?_
    refine xt_n ?_
    refine hK _ ?_
    clear hK K
    refine aw_ret ?_
    refine xt_r ?_
    refine ret_pure (v' := V.b true) (.inr rfl) (by kernel_rfl) (by kernel_rfl) (by kernel_rfl)
  refine aw_skip ?_
  refine xt_n ?_
  refine hK _ ?_
  clear hK K
  refine aw_seq_k fun K hK => ?_
  refine w_region (n' := 4) (by kernel_rfl) (by kernel_rfl) ?_
  refine aops_n hTT (M := []) (n := 3) [pv (25 : Nat) (V.sl (3 : Nat) (List.length l) fun (k : Nat) => [V.ints (Cv.feed (gc l k)), V.ints (Cv.back (gc l k)), V.i (Cv.share (gc l k))]), pv (26 : Nat) (V.sl (1 : Nat) (List.length x) fun (k : Nat) => [V.i (gi x k)]), pv (27 : Nat) (V.sl (1 : Nat) (List.length y) fun (k : Nat) => [V.i (gi y k)])] (by kernel_rfl) (by kernel_rfl) True.intro ?_
  refine e_call (first := []) (caps := []) (Match_ac l x y hl hx hy) (by kernel_rfl) (by kernel_rfl) (by kernel_rfl) (by kernel_rfl) (by kernel_rfl) ?_
  refine aops_n hTT (M := []) (n := 5) [pv (24 : Nat) (V.tup [V.i (Prod.fst (mtR l x y)), V.i (Prod.snd (mtR l x y))]), pv (29 : Nat) (V.i (Prod.fst (mtR l x y))), pv (30 : Nat) (V.i (Prod.snd (mtR l x y))), pv (7 : Nat) (V.i (Prod.fst (mtR l x y))), pv (8 : Nat) (V.i (Prod.snd (mtR l x y)))] (by kernel_rfl) (by kernel_rfl) True.intro ?_
  refine aops_nil ?_
  refine xt_n ?_
  refine hK _ ?_
  clear hK K
  refine aw_seq_k fun K hK => ?_
  refine w_region (n' := 5) (by kernel_rfl) (by kernel_rfl) ?_
  refine aops_n hTT (M := []) (n := 3) [pv (32 : Nat) (V.sl (3 : Nat) (List.length l) fun (k : Nat) => [V.ints (Cv.feed (gc l k)), V.ints (Cv.back (gc l k)), V.i (Cv.share (gc l k))]), pv (33 : Nat) (V.sl (1 : Nat) (List.length x) fun (k : Nat) => [V.i (gi x k)]), pv (34 : Nat) (V.sl (1 : Nat) (List.length y) fun (k : Nat) => [V.i (gi y k)])] (by kernel_rfl) (by kernel_rfl) True.intro ?_
  refine e_call (first := []) (caps := []) (refMatch_ac l x y hl hx hy) (by kernel_rfl) (by kernel_rfl) (by kernel_rfl) (by kernel_rfl) (by kernel_rfl) ?_
  refine aops_n hTT (M := []) (n := 5) [pv (31 : Nat) (V.tup [V.i (Prod.fst (mtR l x y)), V.i (Prod.snd (mtR l x y))]), pv (36 : Nat) (V.i (Prod.fst (mtR l x y))), pv (37 : Nat) (V.i (Prod.snd (mtR l x y))), pv (9 : Nat) (V.i (Prod.fst (mtR l x y))), pv (10 : Nat) (V.i (Prod.snd (mtR l x y)))] (by kernel_rfl) (by kernel_rfl) True.intro ?_
  refine aops_nil ?_
  refine xt_n ?_
  refine hK _ ?_
  clear hK K
  refine aw_seq_k fun K hK => ?_
  refine w_region (n' := 6) (by kernel_rfl) (by kernel_rfl) ?_
  refine aops_n hTT (M := []) (n := 9) [pv (38 : Nat) (V.i (Prod.fst (mtR l x y))), pv (39 : Nat) (V.i (Prod.fst (mtR l x y))), pv (40 : Nat) (V.b (decide (Prod.fst (mtR l x y) = Prod.fst (mtR l x y)))), pv (41 : Nat) (V.b (decide (Prod.fst (mtR l x y) = Prod.fst (mtR l x y)))), pc (42 : Nat) ((True ∧ True) ∧ ((decide (Prod.fst (mtR l x y) = Prod.fst (mtR l x y)) == true) = true → True)) (V.gd (decide (Prod.fst (mtR l x y) = Prod.fst (mtR l x y)) == true) (V.i (Prod.snd (mtR l x y)))), pc (43 : Nat) ((True ∧ True) ∧ ((decide (Prod.fst (mtR l x y) = Prod.fst (mtR l x y)) == true) = true → True)) (V.gd (decide (Prod.fst (mtR l x y) = Prod.fst (mtR l x y)) == true) (V.i (Prod.snd (mtR l x y)))), pc (44 : Nat) ((((decide (Prod.fst (mtR l x y) = Prod.fst (mtR l x y)) == true) = true → (decide (Prod.fst (mtR l x y) = Prod.fst (mtR l x y)) == true) = true) ∧ ((decide (Prod.fst (mtR l x y) = Prod.fst (mtR l x y)) == true) = true → (decide (Prod.fst (mtR l x y) = Prod.fst (mtR l x y)) == true) = true) ∧ True) ∧ ((decide (Prod.fst (mtR l x y) = Prod.fst (mtR l x y)) == true) = true → True)) (V.gd (decide (Prod.fst (mtR l x y) = Prod.fst (mtR l x y)) == true) (V.b (decide (Prod.snd (mtR l x y) = Prod.snd (mtR l x y))))), pc (45 : Nat) ((decide (Prod.fst (mtR l x y) = Prod.fst (mtR l x y)) = true → (decide (Prod.fst (mtR l x y) = Prod.fst (mtR l x y)) == true) = true) ∧ True) (V.b (decide (Prod.fst (mtR l x y) = Prod.fst (mtR l x y)) && decide (Prod.snd (mtR l x y) = Prod.snd (mtR l x y)))), pv (46 : Nat) (V.b (decide (Prod.fst (mtR l x y) = Prod.fst (mtR l x y)) && decide (Prod.snd (mtR l x y) = Prod.snd (mtR l x y))))] (by kernel_rfl) (by kernel_rfl) ⟨⟨⟨True.intro, True.intro⟩, (fun _ => True.intro)⟩, ⟨⟨True.intro, True.intro⟩, (fun _ => True.intro)⟩, ⟨⟨(by (exact fun h => h)), ⟨(by (exact fun h => h)), True.intro⟩⟩, (fun _ => True.intro)⟩, ⟨(by (intro h; rw [h]; rfl)), True.intro⟩, True.intro⟩ ?_
  refine e_callG 0 (g := (decide (Prod.fst (mtR l x y) = Prod.fst (mtR l x y)) && decide (Prod.snd (mtR l x y) = Prod.snd (mtR l x y))) == true) (first := []) (caps := []) (by kernel_rfl) (fun h => works_ac) (by kernel_rfl) (by kernel_rfl) (by kernel_rfl) (by kernel_rfl) (by kernel_rfl) (by kernel_rfl) ?_
  refine aops_n hTT (M := []) (n := 2) [pc (48 : Nat) (((decide (Prod.fst (mtR l x y) = Prod.fst (mtR l x y)) && decide (Prod.snd (mtR l x y) = Prod.snd (mtR l x y))) = true → ((decide (Prod.fst (mtR l x y) = Prod.fst (mtR l x y)) && decide (Prod.snd (mtR l x y) = Prod.snd (mtR l x y))) == true) = true) ∧ True) (V.b (decide (Prod.fst (mtR l x y) = Prod.fst (mtR l x y)) && decide (Prod.snd (mtR l x y) = Prod.snd (mtR l x y)) && true)), pv (6 : Nat) (V.b (decide (Prod.fst (mtR l x y) = Prod.fst (mtR l x y)) && decide (Prod.snd (mtR l x y) = Prod.snd (mtR l x y)) && true))] (by kernel_rfl) (by kernel_rfl) ⟨⟨(by (intro h; rw [h]; rfl)), True.intro⟩, True.intro⟩ ?_
  refine aops_nil ?_
  refine xt_n ?_
  refine hK _ ?_
  clear hK K
  refine aw_ret ?_
  refine ret_pure (v' := V.b (decide (Prod.fst (mtR l x y) = Prod.fst (mtR l x y)) && decide (Prod.snd (mtR l x y) = Prod.snd (mtR l x y)) && true)) (.inr rfl) (by kernel_rfl) ?_ (by kernel_rfl)
  simp
def matchesSh : List Sh := [(.sl (.fld (.sl (.int .i64)) (.fld (.sl (.int .i64)) (.lst (.int .i64))))), (.sl (.int .i64)), (.sl (.int .i64))]
theorem matches_all (x : TL matchesSh) (hx : wfL matchesSh x) : AC Try.prog 11 (valL matchesSh x) (V.b true) [] := by
  obtain ⟨l, s, y, _⟩ := x
  obtain ⟨h1, ⟨h2, _⟩, ⟨h3, _⟩, _⟩ := hx
  exact (matches_law (l.map toCv) s y (cvs_wf h1) h2 h3).conv ⟨cvs_imp l, RImp.refl _, RImp.refl _, trivial⟩
end Go.Proofs.Ytblipieipldanaa
