/-
  Curves and chains applied and undone: both copies; lists that are equal. Condition: as many elements as a slice can have.
-/
import Derived.Test.YtblipieipldanaaFA6
namespace Go.Proofs.Ytblipieipldanaa
open Go.Ab Go.RowKit Go.Dw Go.Shelf

theorem cvs_one {c : Cv} (h : cvL c) : cvsL [c] := ⟨by unfold bigL; simp, fun k hk => by simp at hk; subst hk; exact h⟩
/-- the error, and the output, of a curve -/
def apR (c : Cv) (u : Bool) (x : List Int) : Int × List Int := chR [c] u x
set_option maxRecDepth 100000 in
theorem Apply_ac (c : Cv) (x : List Int) (hc : cvL c) (hx : x.length ≤ bigL) : AC Try.prog 23 [V.cv c, V.ints x] (.tup [V.ints (apR c false x).2, .i (apR c false x).1]) [] := by
  refine ac_intro hTT hMX (fn := Try.f23) (N := _) ⟨Try.func23, rfl, Try.ntmps23, by kernel_rfl⟩ (by simp) fun C hC hF => ?_
  refine aw_seq_k fun K hK => ?_
  refine w_region (n' := 2) (by kernel_rfl) (by kernel_rfl) ?_
  refine aops_n hTT (M := []) (n := 3) [pv (2 : Nat) (V.ptr [V.sl (1 : Nat) (List.length (Cv.feed c)) fun (k : Nat) => [V.i (gi (Cv.feed c) k)], V.sl (1 : Nat) (List.length (Cv.back c)) fun (k : Nat) => [V.i (gi (Cv.back c) k)], V.i (Cv.share c)]), pv (4 : Nat) V.nil, pv (5 : Nat) (V.i (0 : Int))] (by kernel_rfl) (by kernel_rfl) True.intro ?_
  refine aops_nil ?_
  refine xt_n ?_
  refine hK _ ?_
  clear hK K
  refine aw_seq_k fun K hK => ?_
  refine w_region (n' := 3) (by kernel_rfl) (by kernel_rfl) ?_
  refine aops_n hTT (M := []) (n := 3) [pv (6 : Nat) (V.agg [V.sl (1 : Nat) (List.length (Cv.feed c)) fun (k : Nat) => [V.i (gi (Cv.feed c) k)], V.sl (1 : Nat) (List.length (Cv.back c)) fun (k : Nat) => [V.i (gi (Cv.back c) k)], V.i (Cv.share c)]), pv (7 : Nat) (V.sl (3 : Nat) (1 : Nat) fun (i : Nat) => List.take (3 : Nat) (List.drop (i * (3 : Nat)) [V.sl (1 : Nat) (List.length (Cv.feed c)) fun (k : Nat) => [V.i (gi (Cv.feed c) k)], V.sl (1 : Nat) (List.length (Cv.back c)) fun (k : Nat) => [V.i (gi (Cv.back c) k)], V.i (Cv.share c)])), pv (8 : Nat) (V.sl (1 : Nat) (List.length x) fun (k : Nat) => [V.i (gi x k)])] (by kernel_rfl) (by kernel_rfl) True.intro ?_
  refine e_call (first := []) (caps := []) (AC.conv (chain_ac [c] x false (cvs_one hc) hx) (args' := [V.sl (3 : Nat) (1 : Nat) fun (i : Nat) => List.take (3 : Nat) (List.drop (i * (3 : Nat)) [V.sl (1 : Nat) (List.length (Cv.feed c)) fun (k : Nat) => [V.i (gi (Cv.feed c) k)], V.sl (1 : Nat) (List.length (Cv.back c)) fun (k : Nat) => [V.i (gi (Cv.back c) k)], V.i (Cv.share c)]), V.sl (1 : Nat) (List.length x) fun (k : Nat) => [V.i (gi x k)], V.b false]) ⟨?_, RImp.refl _, RImp.refl _, trivial⟩) (by kernel_rfl) (by kernel_rfl) (by kernel_rfl) (by kernel_rfl) (by kernel_rfl) ?_
  · refine RImp.rows rfl fun i hi => ?_
    obtain rfl : i = 0 := by omega
    rfl
  refine aops_n hTT (M := []) (n := 4) [pv (10 : Nat) (V.sl (1 : Nat) (List.length (Prod.snd (chR [c] false x))) fun (k : Nat) => [V.i (gi (Prod.snd (chR [c] false x)) k)]), pv (11 : Nat) (V.i (Prod.fst (chR [c] false x))), pv (4 : Nat) (V.sl (1 : Nat) (List.length (Prod.snd (chR [c] false x))) fun (k : Nat) => [V.i (gi (Prod.snd (chR [c] false x)) k)]), pv (5 : Nat) (V.i (Prod.fst (chR [c] false x)))] (by kernel_rfl) (by kernel_rfl) True.intro ?_
  refine aops_nil ?_
  refine xt_n ?_
  refine hK _ ?_
  clear hK K
  refine aw_ret ?_
  refine ret_pure (v' := V.tup [V.sl (1 : Nat) (List.length (Prod.snd (chR [c] false x))) fun (k : Nat) => [V.i (gi (Prod.snd (chR [c] false x)) k)], V.i (Prod.fst (chR [c] false x))]) (.inr rfl) (by kernel_rfl) (by kernel_rfl) (by kernel_rfl)
/-! the reference -/
/-- a list of the first t values of a function, the latest one first -/
def hl (f : Nat → Int) : Nat → List Int
  | 0 => []
  | t + 1 => f t :: hl f t
theorem hl_len (f : Nat → Int) : ∀ t, (hl f t).length = t
  | 0 => rfl
  | t + 1 => by rw [hl, List.length_cons, hl_len f t]
theorem hl_gi (f : Nat → Int) : ∀ (t i : Nat), i < t → gi (hl f t) i = f (t - 1 - i)
  | 0, i, h => by omega
  | t + 1, 0, _ => rfl
  | t + 1, i + 1, h => by
    rw [hl, gi_consS, hl_gi f t i (by omega)]
    congr 1
    omega
def inK (c : Cv) (u : Bool) (l : List Int) (k : Nat) : Int := if u then outK c u l k else gi l k
def yK (c : Cv) (u : Bool) (l : List Int) (k : Nat) : Int := if u then gi l k else outK c u l k
theorem hist_hl (c : Cv) (u : Bool) (l : List Int) : ∀ k, hist c u l k = (hl (inK c u l) k, hl (yK c u l) k)
  | 0 => rfl
  | k + 1 => by
    have h := hist_hl c u l k
    refine Prod.ext ?_ ?_
    · rw [hist_x, h]; rfl
    · rw [hist_y, h]; rfl
theorem dot_out {w h : List Int} {i : Nat} (hi : h.length ≤ i) : dot w h (i + 1) = dot w h i := by rw [dot, gi_out hi]; simp
abbrev RowI (n : Nat) (f : Nat → Int) : Ob := .row 2 1 n fun j => [.i (f j)]
set_option maxRecDepth 100000 in
theorem refCorrection_am (c : Cv) (f g : Nat → Int) (t : Nat) (n : Int) (hc : cvOk c) (hn : 0 ≤ n ∧ n ≤ 131072) (ht : t ≤ 8192) (h1 : AllLe n (hl f t)) (h2 : AllLe n (hl g t)) :
    AM Try.prog 109 [V.cv c, .own 500, .own 501, .i t] [RowI t f, RowI t g] (.i (corr c (hl f t) (hl g t))) [some (RowI t f), some (RowI t g)] [] := by
  have b := corr_bd hc hn.1 h1 h2
  obtain ⟨l1, l2, a1, a2, s1, s2⟩ := hc
  have lf := hl_len f t
  have lg := hl_len g t
  refine am_intro hTT hMX (fn := Try.f109) (N := _) ⟨Try.func109, rfl, Try.ntmps109, by kernel_rfl⟩ (by simp) rfl (by simp) (by simp) fun C hF => ?_
  refine aw_seq_k fun K hK => ?_
  refine w_region (n' := 2) (by kernel_rfl) (by kernel_rfl) ?_
  refine aops_n hTT (M := []) (n := 2) [pv (4 : Nat) (V.ptr [V.sl (1 : Nat) (List.length (Cv.feed c)) fun (k : Nat) => [V.i (gi (Cv.feed c) k)], V.sl (1 : Nat) (List.length (Cv.back c)) fun (k : Nat) => [V.i (gi (Cv.back c) k)], V.i (Cv.share c)]), pv (8 : Nat) (V.i (0 : Int))] (by kernel_rfl) (by kernel_rfl) True.intro ?_
  refine aops_nil ?_
  refine xt_n ?_
  refine hK _ ?_
  clear hK K
  refine aw_seq_k fun K hK => ?_
  refine w_region (n' := 3) (by kernel_rfl) (by kernel_rfl) ?_
  refine aops_n hTT (M := []) (n := 1) [pv (9 : Nat) (V.i (0 : Int))] (by kernel_rfl) (by kernel_rfl) True.intro ?_
  refine aops_nil ?_
  refine xt_n ?_
  refine hK _ ?_
  clear hK K
  refine aw_seq_k fun K hK => ?_
  refine aw_seq_k fun K hK => ?_
  refine w_region (n' := 4) (by kernel_rfl) (by kernel_rfl) ?_
  refine aops_n hTT (M := []) (n := 1) [pv (10 : Nat) (V.i (0 : Int))] (by kernel_rfl) (by kernel_rfl) True.intro ?_
  refine aops_nil ?_
  refine xt_n ?_
  refine hK _ ?_
  clear hK K
  refine aw_block ?_
  refine w_loop (ι := Nat) (fun k => [(1, .own 500), (2, .own 501), (3, .i t), (4, .ptr (cvC c)), (9, .i (dot c.feed (hl f t) k)), (10, .i k)]) (fun _ => [(500, RowI t f), (501, RowI t g)]) (fun k => k ≤ c.feed.length) (fun k => c.feed.length - k) 0 (Nat.zero_le _) ?_ ?_
  · refine le_ren (sl := [(500, Ob.row (2 : Nat) (1 : Nat) t fun (j : Nat) => [V.i (f j)]), (501, Ob.row (2 : Nat) (1 : Nat) t fun (j : Nat) => [V.i (g j)])]) [] (.cons (by kernel_rfl) (.cons (by kernel_rfl) (.cons (by kernel_rfl) (.cons (by kernel_rfl) (.cons (by kernel_rfl) (.cons (by kernel_rfl) .nil)))))) (.cons ⟨Ob.row (2 : Nat) (1 : Nat) t fun (j : Nat) => [V.i (f j)], (by kernel_rfl), .row (by kernel_rfl) (fun _ _ => rfl)⟩ (.cons ⟨Ob.row (2 : Nat) (1 : Nat) t fun (j : Nat) => [V.i (g j)], (by kernel_rfl), .row (by kernel_rfl) (fun _ _ => rfl)⟩ .nil)) (by kernel_rfl) (by kernel_rfl)
  intro k hk
  have d1 := dot_bd (by decide) hn.1 a1 h1 k
  have e1 : (k : Int) * (4096 * n) ≤ 8 * (4096 * n) := Int.mul_le_mul_of_nonneg_right (by omega) (by omega)
  refine aw_seq_k fun K hK => ?_
  refine aw_seq_k fun K hK => ?_
  refine w_region (n' := 2) (by kernel_rfl) (by kernel_rfl) ?_
  refine aops_n hTT (M := []) (n := 5) [pv (12 : Nat) (V.i (↑k : Int)), pv (13 : Nat) (V.ptr [V.sl (1 : Nat) (List.length (Cv.feed c)) fun (k : Nat) => [V.i (gi (Cv.feed c) k)], V.sl (1 : Nat) (List.length (Cv.back c)) fun (k : Nat) => [V.i (gi (Cv.back c) k)], V.i (Cv.share c)]), pv (14 : Nat) (V.sl (1 : Nat) (List.length (Cv.feed c)) fun (k : Nat) => [V.i (gi (Cv.feed c) k)]), pv (15 : Nat) (V.i (↑(List.length (Cv.feed c)) : Int)), pv (16 : Nat) (V.b (decide ((↑k : Int) < (↑(List.length (Cv.feed c)) : Int))))] (by kernel_rfl) (by kernel_rfl) True.intro ?_
  refine aops_nil ?_
  refine xt_n ?_
  refine hK _ ?_
  clear hK K
  refine w_cond (t := decide ((↑k : Int) < (↑(List.length (Cv.feed c)) : Int))) (by kernel_rfl) (fun c1 => ?_) (fun c1 => ?_)
  · simp at c1
    refine aw_skip ?_
    refine xt_n ?_
    refine hK _ ?_
    clear hK K
    refine aw_seq_k fun K hK => ?_
    refine aw_block ?_
    refine aw_seq_k fun K hK => ?_
    refine w_region (n' := 3) (by kernel_rfl) (by kernel_rfl) ?_
    refine aops_n hTT (M := []) (n := 5) [pv (19 : Nat) (V.i (↑t : Int)), pc (20 : Nat) ((-9223372036854775808 : Int) ≤ (↑t : Int) - (1 : Int) ∧ (↑t : Int) - (1 : Int) ≤ (9223372036854775807 : Int)) (V.i ((↑t : Int) - (1 : Int))), pv (21 : Nat) (V.i (↑k : Int)), pc (22 : Nat) ((-9223372036854775808 : Int) ≤ (↑t : Int) - (1 : Int) - (↑k : Int) ∧ (↑t : Int) - (1 : Int) - (↑k : Int) ≤ (9223372036854775807 : Int)) (V.i ((↑t : Int) - (1 : Int) - (↑k : Int))), pv (23 : Nat) (V.b (decide ((0 : Int) ≤ (↑t : Int) - (1 : Int) - (↑k : Int))))] (by kernel_rfl) (by kernel_rfl) ⟨(by omega), (by omega), True.intro⟩ ?_
    refine aops_nil ?_
    refine xt_n ?_
    refine hK _ ?_
    clear hK K
    refine w_cond (t := decide ((0 : Int) ≤ (↑t : Int) - (1 : Int) - (↑k : Int))) (by kernel_rfl) (fun c2 => ?_) (fun c2 => ?_)
    · simp at c2
      have d2 := mul_bd (a1.gi (by decide) k) (h1.gi hn.1 k)
      have hd : dot c.feed (hl f t) (k + 1) = dot c.feed (hl f t) k + gi c.feed k * f ((t : Int) - 1 - (k : Int)).toNat := by
        rw [dot, hl_gi f t k (by omega), show t - 1 - k = ((t : Int) - 1 - (k : Int)).toNat by omega]
      rw [hl_gi f t k (by omega), show t - 1 - k = ((t : Int) - 1 - (k : Int)).toNat by omega] at d2
      refine w_regionD (n' := 4) (by kernel_rfl) (by kernel_rfl) ?_
      refine aops_n hTT (M := []) (n := 16) [pv (24 : Nat) (V.i (dot (Cv.feed c) (hl f t) k)), pv (25 : Nat) (V.ptr [V.sl (1 : Nat) (List.length (Cv.feed c)) fun (k : Nat) => [V.i (gi (Cv.feed c) k)], V.sl (1 : Nat) (List.length (Cv.back c)) fun (k : Nat) => [V.i (gi (Cv.back c) k)], V.i (Cv.share c)]), pv (26 : Nat) (V.sl (1 : Nat) (List.length (Cv.feed c)) fun (k : Nat) => [V.i (gi (Cv.feed c) k)]), pv (27 : Nat) (V.i (↑k : Int)), pc (28 : Nat) ((0 : Int) ≤ (↑k : Int) ∧ (↑k : Int) < (↑(List.length (Cv.feed c)) : Int)) (V.ptr [V.i (gi (Cv.feed c) k)]), pv (29 : Nat) (V.i (gi (Cv.feed c) k)), pv (30 : Nat) (V.own (500 : Nat)), pv (31 : Nat) (V.i (↑t : Int)), pc (32 : Nat) ((-9223372036854775808 : Int) ≤ (↑t : Int) - (1 : Int) ∧ (↑t : Int) - (1 : Int) ≤ (9223372036854775807 : Int)) (V.i ((↑t : Int) - (1 : Int))), pv (33 : Nat) (V.i (↑k : Int)), pc (34 : Nat) ((-9223372036854775808 : Int) ≤ (↑t : Int) - (1 : Int) - (↑k : Int) ∧ (↑t : Int) - (1 : Int) - (↑k : Int) ≤ (9223372036854775807 : Int)) (V.i ((↑t : Int) - (1 : Int) - (↑k : Int))), pc (35 : Nat) ((0 : Int) ≤ (↑t : Int) - (1 : Int) - (↑k : Int) ∧ (↑t : Int) - (1 : Int) - (↑k : Int) < (↑t : Int)) (V.oel (500 : Nat) (1 : Nat) (Int.toNat ((↑t : Int) - (1 : Int) - (↑k : Int))) (0 : Nat)), pc (36 : Nat) (Int.toNat ((↑t : Int) - (1 : Int) - (↑k : Int)) < t ∧ (0 : Nat) ≤ (1 : Nat)) (V.i (f (Int.toNat ((↑t : Int) - (1 : Int) - (↑k : Int))))), pc (37 : Nat) ((-9223372036854775808 : Int) ≤ gi (Cv.feed c) k * f (Int.toNat ((↑t : Int) - (1 : Int) - (↑k : Int))) ∧ gi (Cv.feed c) k * f (Int.toNat ((↑t : Int) - (1 : Int) - (↑k : Int))) ≤ (9223372036854775807 : Int)) (V.i (gi (Cv.feed c) k * f (Int.toNat ((↑t : Int) - (1 : Int) - (↑k : Int))))), pc (38 : Nat) ((-9223372036854775808 : Int) ≤ dot (Cv.feed c) (hl f t) k + gi (Cv.feed c) k * f (Int.toNat ((↑t : Int) - (1 : Int) - (↑k : Int))) ∧ dot (Cv.feed c) (hl f t) k + gi (Cv.feed c) k * f (Int.toNat ((↑t : Int) - (1 : Int) - (↑k : Int))) ≤ (9223372036854775807 : Int)) (V.i (dot (Cv.feed c) (hl f t) k + gi (Cv.feed c) k * f (Int.toNat ((↑t : Int) - (1 : Int) - (↑k : Int))))), pv (9 : Nat) (V.i (dot (Cv.feed c) (hl f t) k + gi (Cv.feed c) k * f (Int.toNat ((↑t : Int) - (1 : Int) - (↑k : Int)))))] (by kernel_rfl) (by kernel_rfl) ⟨(by omega), (by omega), (by omega), (by omega), (by omega), (by omega), (by omega), True.intro⟩ ?_
      refine aops_nil ⟨by kernel_rfl, ?_⟩
      refine xb_n ?_
      refine xt_n ?_
      refine hK _ ?_
      clear hK K
      refine w_region (n' := 5) (by kernel_rfl) (by kernel_rfl) ?_
      refine aops_n hTT (M := []) (n := 3) [pv (17 : Nat) (V.i (↑k : Int)), pc (18 : Nat) ((-9223372036854775808 : Int) ≤ (↑k : Int) + (1 : Int) ∧ (↑k : Int) + (1 : Int) ≤ (9223372036854775807 : Int)) (V.i ((↑k : Int) + (1 : Int))), pv (10 : Nat) (V.i ((↑k : Int) + (1 : Int)))] (by kernel_rfl) (by kernel_rfl) ⟨(by omega), True.intro⟩ ?_
      refine aops_nil ?_
      refine xt_n ?_
      refine ⟨k + 1, by omega, ?_, by omega⟩
      rw [hd]
      refine le_ren (sl := [(500, Ob.row (2 : Nat) (1 : Nat) t fun (j : Nat) => [V.i (f j)]), (501, Ob.row (2 : Nat) (1 : Nat) t fun (j : Nat) => [V.i (g j)])]) [] (.cons (by kernel_rfl) (.cons (by kernel_rfl) (.cons (by kernel_rfl) (.cons (by kernel_rfl) (.cons (by kernel_rfl) (.cons (by kernel_rfl) .nil)))))) (.cons ⟨Ob.row (2 : Nat) (1 : Nat) t fun (j : Nat) => [V.i (f j)], (by kernel_rfl), .row (by kernel_rfl) (fun _ _ => rfl)⟩ (.cons ⟨Ob.row (2 : Nat) (1 : Nat) t fun (j : Nat) => [V.i (g j)], (by kernel_rfl), .row (by kernel_rfl) (fun _ _ => rfl)⟩ .nil)) (by kernel_rfl) (by kernel_rfl)
    · simp at c2
      refine aw_skip ?_
      refine xb_n ?_
      refine xt_n ?_
      refine hK _ ?_
      clear hK K
      refine w_region (n' := 4) (by kernel_rfl) (by kernel_rfl) ?_
      refine aops_n hTT (M := []) (n := 3) [pv (17 : Nat) (V.i (↑k : Int)), pc (18 : Nat) ((-9223372036854775808 : Int) ≤ (↑k : Int) + (1 : Int) ∧ (↑k : Int) + (1 : Int) ≤ (9223372036854775807 : Int)) (V.i ((↑k : Int) + (1 : Int))), pv (10 : Nat) (V.i ((↑k : Int) + (1 : Int)))] (by kernel_rfl) (by kernel_rfl) ⟨(by omega), True.intro⟩ ?_
      refine aops_nil ?_
      refine xt_n ?_
      refine ⟨k + 1, by omega, ?_, by omega⟩
      rw [dot_out (w := c.feed) (h := hl f t) (i := k) (by omega)]
      refine le_ren (sl := [(500, Ob.row (2 : Nat) (1 : Nat) t fun (j : Nat) => [V.i (f j)]), (501, Ob.row (2 : Nat) (1 : Nat) t fun (j : Nat) => [V.i (g j)])]) [] (.cons (by kernel_rfl) (.cons (by kernel_rfl) (.cons (by kernel_rfl) (.cons (by kernel_rfl) (.cons (by kernel_rfl) (.cons (by kernel_rfl) .nil)))))) (.cons ⟨Ob.row (2 : Nat) (1 : Nat) t fun (j : Nat) => [V.i (f j)], (by kernel_rfl), .row (by kernel_rfl) (fun _ _ => rfl)⟩ (.cons ⟨Ob.row (2 : Nat) (1 : Nat) t fun (j : Nat) => [V.i (g j)], (by kernel_rfl), .row (by kernel_rfl) (fun _ _ => rfl)⟩ .nil)) (by kernel_rfl) (by kernel_rfl)
  simp at c1
  obtain rfl : k = c.feed.length := by omega
  refine aw_exit ?_
  refine xt_x ?_
  refine xt_x ?_
  refine xb_same ?_
  refine xt_n ?_
  clear hK K
  refine hK _ ?_
  clear hK K
  refine aw_seq_k fun K hK => ?_
  refine aw_seq_k fun K hK => ?_
  refine w_region (n' := 3) (by kernel_rfl) (by kernel_rfl) ?_
  refine aops_n hTT (M := []) (n := 1) [pv (11 : Nat) (V.i (0 : Int))] (by kernel_rfl) (by kernel_rfl) True.intro ?_
  refine aops_nil ?_
  refine xt_n ?_
  refine hK _ ?_
  clear hK K
  refine aw_block ?_
  refine w_loop (ι := Nat) (fun k => [(1, .own 500), (2, .own 501), (3, .i t), (4, .ptr (cvC c)), (9, .i (dot c.feed (hl f t) c.feed.length + dot c.back (hl g t) k)), (11, .i k)]) (fun _ => [(500, RowI t f), (501, RowI t g)]) (fun k => k ≤ c.back.length) (fun k => c.back.length - k) 0 (Nat.zero_le _) ?_ ?_
  · rw [show dot c.back (hl g t) 0 = 0 from rfl, Int.add_zero]
    refine le_ren (sl := [(500, Ob.row (2 : Nat) (1 : Nat) t fun (j : Nat) => [V.i (f j)]), (501, Ob.row (2 : Nat) (1 : Nat) t fun (j : Nat) => [V.i (g j)])]) [] (.cons (by kernel_rfl) (.cons (by kernel_rfl) (.cons (by kernel_rfl) (.cons (by kernel_rfl) (.cons (by kernel_rfl) (.cons (by kernel_rfl) .nil)))))) (.cons ⟨Ob.row (2 : Nat) (1 : Nat) t fun (j : Nat) => [V.i (f j)], (by kernel_rfl), .row (by kernel_rfl) (fun _ _ => rfl)⟩ (.cons ⟨Ob.row (2 : Nat) (1 : Nat) t fun (j : Nat) => [V.i (g j)], (by kernel_rfl), .row (by kernel_rfl) (fun _ _ => rfl)⟩ .nil)) (by kernel_rfl) (by kernel_rfl)
  intro k hk
  have d3 := dot_bd (by decide) hn.1 a2 h2 k
  have e2 : (k : Int) * (4096 * n) ≤ 8 * (4096 * n) := Int.mul_le_mul_of_nonneg_right (by omega) (by omega)
  refine aw_seq_k fun K hK => ?_
  refine aw_seq_k fun K hK => ?_
  refine w_region (n' := 2) (by kernel_rfl) (by kernel_rfl) ?_
  refine aops_n hTT (M := []) (n := 5) [pv (39 : Nat) (V.i (↑k : Int)), pv (40 : Nat) (V.ptr [V.sl (1 : Nat) (List.length (Cv.back c)) fun (k : Nat) => [V.i (gi (Cv.back c) k)], V.i (Cv.share c)]), pv (41 : Nat) (V.sl (1 : Nat) (List.length (Cv.back c)) fun (k : Nat) => [V.i (gi (Cv.back c) k)]), pv (42 : Nat) (V.i (↑(List.length (Cv.back c)) : Int)), pv (43 : Nat) (V.b (decide ((↑k : Int) < (↑(List.length (Cv.back c)) : Int))))] (by kernel_rfl) (by kernel_rfl) True.intro ?_
  refine aops_nil ?_
  refine xt_n ?_
  refine hK _ ?_
  clear hK K
  refine w_cond (t := decide ((↑k : Int) < (↑(List.length (Cv.back c)) : Int))) (by kernel_rfl) (fun c2 => ?_) (fun c2 => ?_)
  · simp at c2
    refine aw_skip ?_
    refine xt_n ?_
    refine hK _ ?_
    clear hK K
    refine aw_seq_k fun K hK => ?_
    refine aw_block ?_
    refine aw_seq_k fun K hK => ?_
    refine w_region (n' := 3) (by kernel_rfl) (by kernel_rfl) ?_
    refine aops_n hTT (M := []) (n := 5) [pv (46 : Nat) (V.i (↑t : Int)), pc (47 : Nat) ((-9223372036854775808 : Int) ≤ (↑t : Int) - (1 : Int) ∧ (↑t : Int) - (1 : Int) ≤ (9223372036854775807 : Int)) (V.i ((↑t : Int) - (1 : Int))), pv (48 : Nat) (V.i (↑k : Int)), pc (49 : Nat) ((-9223372036854775808 : Int) ≤ (↑t : Int) - (1 : Int) - (↑k : Int) ∧ (↑t : Int) - (1 : Int) - (↑k : Int) ≤ (9223372036854775807 : Int)) (V.i ((↑t : Int) - (1 : Int) - (↑k : Int))), pv (50 : Nat) (V.b (decide ((0 : Int) ≤ (↑t : Int) - (1 : Int) - (↑k : Int))))] (by kernel_rfl) (by kernel_rfl) ⟨(by omega), (by omega), True.intro⟩ ?_
    refine aops_nil ?_
    refine xt_n ?_
    refine hK _ ?_
    clear hK K
    refine w_cond (t := decide ((0 : Int) ≤ (↑t : Int) - (1 : Int) - (↑k : Int))) (by kernel_rfl) (fun c3 => ?_) (fun c3 => ?_)
    · simp at c3
      have d2 := mul_bd (a2.gi (by decide) k) (h2.gi hn.1 k)
      have hd : dot c.feed (hl f t) c.feed.length + dot c.back (hl g t) (k + 1) = dot c.feed (hl f t) c.feed.length + dot c.back (hl g t) k + gi c.back k * g ((t : Int) - 1 - (k : Int)).toNat := by
        rw [dot, hl_gi g t k (by omega), show t - 1 - k = ((t : Int) - 1 - (k : Int)).toNat by omega, Int.add_assoc]
      rw [hl_gi g t k (by omega), show t - 1 - k = ((t : Int) - 1 - (k : Int)).toNat by omega] at d2
      refine w_regionD (n' := 4) (by kernel_rfl) (by kernel_rfl) ?_
      refine aops_n hTT (M := []) (n := 16) [pv (51 : Nat) (V.i (dot (Cv.feed c) (hl f t) (List.length (Cv.feed c)) + dot (Cv.back c) (hl g t) k)), pv (52 : Nat) (V.ptr [V.sl (1 : Nat) (List.length (Cv.back c)) fun (k : Nat) => [V.i (gi (Cv.back c) k)], V.i (Cv.share c)]), pv (53 : Nat) (V.sl (1 : Nat) (List.length (Cv.back c)) fun (k : Nat) => [V.i (gi (Cv.back c) k)]), pv (54 : Nat) (V.i (↑k : Int)), pc (55 : Nat) ((0 : Int) ≤ (↑k : Int) ∧ (↑k : Int) < (↑(List.length (Cv.back c)) : Int)) (V.ptr [V.i (gi (Cv.back c) k)]), pv (56 : Nat) (V.i (gi (Cv.back c) k)), pv (57 : Nat) (V.own (501 : Nat)), pv (58 : Nat) (V.i (↑t : Int)), pc (59 : Nat) ((-9223372036854775808 : Int) ≤ (↑t : Int) - (1 : Int) ∧ (↑t : Int) - (1 : Int) ≤ (9223372036854775807 : Int)) (V.i ((↑t : Int) - (1 : Int))), pv (60 : Nat) (V.i (↑k : Int)), pc (61 : Nat) ((-9223372036854775808 : Int) ≤ (↑t : Int) - (1 : Int) - (↑k : Int) ∧ (↑t : Int) - (1 : Int) - (↑k : Int) ≤ (9223372036854775807 : Int)) (V.i ((↑t : Int) - (1 : Int) - (↑k : Int))), pc (62 : Nat) ((0 : Int) ≤ (↑t : Int) - (1 : Int) - (↑k : Int) ∧ (↑t : Int) - (1 : Int) - (↑k : Int) < (↑t : Int)) (V.oel (501 : Nat) (1 : Nat) (Int.toNat ((↑t : Int) - (1 : Int) - (↑k : Int))) (0 : Nat)), pc (63 : Nat) (Int.toNat ((↑t : Int) - (1 : Int) - (↑k : Int)) < t ∧ (0 : Nat) ≤ (1 : Nat)) (V.i (g (Int.toNat ((↑t : Int) - (1 : Int) - (↑k : Int))))), pc (64 : Nat) ((-9223372036854775808 : Int) ≤ gi (Cv.back c) k * g (Int.toNat ((↑t : Int) - (1 : Int) - (↑k : Int))) ∧ gi (Cv.back c) k * g (Int.toNat ((↑t : Int) - (1 : Int) - (↑k : Int))) ≤ (9223372036854775807 : Int)) (V.i (gi (Cv.back c) k * g (Int.toNat ((↑t : Int) - (1 : Int) - (↑k : Int))))), pc (65 : Nat) ((-9223372036854775808 : Int) ≤ dot (Cv.feed c) (hl f t) (List.length (Cv.feed c)) + dot (Cv.back c) (hl g t) k + gi (Cv.back c) k * g (Int.toNat ((↑t : Int) - (1 : Int) - (↑k : Int))) ∧ dot (Cv.feed c) (hl f t) (List.length (Cv.feed c)) + dot (Cv.back c) (hl g t) k + gi (Cv.back c) k * g (Int.toNat ((↑t : Int) - (1 : Int) - (↑k : Int))) ≤ (9223372036854775807 : Int)) (V.i (dot (Cv.feed c) (hl f t) (List.length (Cv.feed c)) + dot (Cv.back c) (hl g t) k + gi (Cv.back c) k * g (Int.toNat ((↑t : Int) - (1 : Int) - (↑k : Int))))), pv (9 : Nat) (V.i (dot (Cv.feed c) (hl f t) (List.length (Cv.feed c)) + dot (Cv.back c) (hl g t) k + gi (Cv.back c) k * g (Int.toNat ((↑t : Int) - (1 : Int) - (↑k : Int)))))] (by kernel_rfl) (by kernel_rfl) ⟨(by omega), (by omega), (by omega), (by omega), (by omega), (by omega), (by omega), True.intro⟩ ?_
      refine aops_nil ⟨by kernel_rfl, ?_⟩
      refine xb_n ?_
      refine xt_n ?_
      refine hK _ ?_
      clear hK K
      refine w_region (n' := 5) (by kernel_rfl) (by kernel_rfl) ?_
      refine aops_n hTT (M := []) (n := 3) [pv (44 : Nat) (V.i (↑k : Int)), pc (45 : Nat) ((-9223372036854775808 : Int) ≤ (↑k : Int) + (1 : Int) ∧ (↑k : Int) + (1 : Int) ≤ (9223372036854775807 : Int)) (V.i ((↑k : Int) + (1 : Int))), pv (11 : Nat) (V.i ((↑k : Int) + (1 : Int)))] (by kernel_rfl) (by kernel_rfl) ⟨(by omega), True.intro⟩ ?_
      refine aops_nil ?_
      refine xt_n ?_
      refine ⟨k + 1, by omega, ?_, by omega⟩
      rw [hd]
      refine le_ren (sl := [(500, Ob.row (2 : Nat) (1 : Nat) t fun (j : Nat) => [V.i (f j)]), (501, Ob.row (2 : Nat) (1 : Nat) t fun (j : Nat) => [V.i (g j)])]) [] (.cons (by kernel_rfl) (.cons (by kernel_rfl) (.cons (by kernel_rfl) (.cons (by kernel_rfl) (.cons (by kernel_rfl) (.cons (by kernel_rfl) .nil)))))) (.cons ⟨Ob.row (2 : Nat) (1 : Nat) t fun (j : Nat) => [V.i (f j)], (by kernel_rfl), .row (by kernel_rfl) (fun _ _ => rfl)⟩ (.cons ⟨Ob.row (2 : Nat) (1 : Nat) t fun (j : Nat) => [V.i (g j)], (by kernel_rfl), .row (by kernel_rfl) (fun _ _ => rfl)⟩ .nil)) (by kernel_rfl) (by kernel_rfl)
    · simp at c3
      refine aw_skip ?_
      refine xb_n ?_
      refine xt_n ?_
      refine hK _ ?_
      clear hK K
      refine w_region (n' := 4) (by kernel_rfl) (by kernel_rfl) ?_
      refine aops_n hTT (M := []) (n := 3) [pv (44 : Nat) (V.i (↑k : Int)), pc (45 : Nat) ((-9223372036854775808 : Int) ≤ (↑k : Int) + (1 : Int) ∧ (↑k : Int) + (1 : Int) ≤ (9223372036854775807 : Int)) (V.i ((↑k : Int) + (1 : Int))), pv (11 : Nat) (V.i ((↑k : Int) + (1 : Int)))] (by kernel_rfl) (by kernel_rfl) ⟨(by omega), True.intro⟩ ?_
      refine aops_nil ?_
      refine xt_n ?_
      refine ⟨k + 1, by omega, ?_, by omega⟩
      rw [dot_out (w := c.back) (h := hl g t) (i := k) (by omega)]
      refine le_ren (sl := [(500, Ob.row (2 : Nat) (1 : Nat) t fun (j : Nat) => [V.i (f j)]), (501, Ob.row (2 : Nat) (1 : Nat) t fun (j : Nat) => [V.i (g j)])]) [] (.cons (by kernel_rfl) (.cons (by kernel_rfl) (.cons (by kernel_rfl) (.cons (by kernel_rfl) (.cons (by kernel_rfl) (.cons (by kernel_rfl) .nil)))))) (.cons ⟨Ob.row (2 : Nat) (1 : Nat) t fun (j : Nat) => [V.i (f j)], (by kernel_rfl), .row (by kernel_rfl) (fun _ _ => rfl)⟩ (.cons ⟨Ob.row (2 : Nat) (1 : Nat) t fun (j : Nat) => [V.i (g j)], (by kernel_rfl), .row (by kernel_rfl) (fun _ _ => rfl)⟩ .nil)) (by kernel_rfl) (by kernel_rfl)
  simp at c2
  obtain rfl : k = c.back.length := by omega
  refine aw_exit ?_
  refine xt_x ?_
  refine xt_x ?_
  refine xb_same ?_
  refine xt_n ?_
  clear hK K
  refine hK _ ?_
  clear hK K
  refine aw_seq_k fun K hK => ?_
  refine w_region (n' := 3) (by kernel_rfl) (by kernel_rfl) ?_
  refine aops_n hTT (M := []) (n := 3) [pv (66 : Nat) (V.i (dot (Cv.feed c) (hl f t) (List.length (Cv.feed c)) + dot (Cv.back c) (hl g t) (List.length (Cv.back c)))), pv (67 : Nat) (V.ptr [V.i (Cv.share c)]), pv (68 : Nat) (V.i (Cv.share c))] (by kernel_rfl) (by kernel_rfl) True.intro ?_
  refine e_call (first := []) (caps := []) (refDown_ac (dot c.feed (hl f t) c.feed.length + dot c.back (hl g t) c.back.length) c.share (by omega) s1) (by kernel_rfl) (by kernel_rfl) (by kernel_rfl) (by kernel_rfl) (by kernel_rfl) ?_
  refine aops_n hTT (M := []) (n := 1) [pv (8 : Nat) (V.i ((dot (Cv.feed c) (hl f t) (List.length (Cv.feed c)) + dot (Cv.back c) (hl g t) (List.length (Cv.back c))) / Cv.share c))] (by kernel_rfl) (by kernel_rfl) True.intro ?_
  refine aops_nil ?_
  refine xt_n ?_
  refine hK _ ?_
  clear hK K
  refine aw_ret ?_
  refine retM (v' := V.i ((dot (Cv.feed c) (hl f t) (List.length (Cv.feed c)) + dot (Cv.back c) (hl g t) (List.length (Cv.back c))) / Cv.share c)) [] [(8, V.i ((dot (Cv.feed c) (hl f t) (List.length (Cv.feed c)) + dot (Cv.back c) (hl g t) (List.length (Cv.back c))) / Cv.share c))] (.inr rfl) (.cons (by kernel_rfl) .nil) (.cons ⟨Ob.row (2 : Nat) (1 : Nat) t fun (j : Nat) => [V.i (f j)], (by kernel_rfl), .row (by kernel_rfl) (fun _ _ => rfl)⟩ (.cons ⟨Ob.row (2 : Nat) (1 : Nat) t fun (j : Nat) => [V.i (g j)], (by kernel_rfl), .row (by kernel_rfl) (fun _ _ => rfl)⟩ .nil)) (by kernel_rfl) (by kernel_rfl) (by kernel_rfl) (by kernel_rfl) (by kernel_rfl) (by kernel_rfl) (by kernel_rfl)
set_option maxRecDepth 100000 in
theorem refrun_ac (c : Cv) (u : Bool) (l : List Int) (m : Int) (hc : cvOk c) (hl' : l.length ≤ 8192) (hm : 0 ≤ m ∧ m ≤ 131072) (ha : AllLe m l) : AC Try.prog 92 [V.cv c, V.ints l, .b u, .i m] (.tup [V.ints ((runI c u m l).getD []), .b (runI c u m l).isSome]) [] := by
  refine ac_intro hTT hMX (fn := Try.f92) (N := _) ⟨Try.func92, rfl, Try.ntmps92, by kernel_rfl⟩ (by simp) fun C hC hF => ?_
  refine aw_seq_k fun K hK => ?_
  refine w_region (n' := 2) (by kernel_rfl) (by kernel_rfl) ?_
  refine aops_n hTT (M := []) (n := 3) [pv (4 : Nat) (V.ptr [V.sl (1 : Nat) (List.length (Cv.feed c)) fun (k : Nat) => [V.i (gi (Cv.feed c) k)], V.sl (1 : Nat) (List.length (Cv.back c)) fun (k : Nat) => [V.i (gi (Cv.back c) k)], V.i (Cv.share c)]), pv (8 : Nat) V.nil, pv (9 : Nat) (V.b false)] (by kernel_rfl) (by kernel_rfl) True.intro ?_
  refine aops_nil ?_
  refine xt_n ?_
  refine hK _ ?_
  clear hK K
  refine aw_seq_k fun K hK => ?_
  refine w_region (n' := 3) (by kernel_rfl) (by kernel_rfl) ?_
  refine aops_n hTT (M := []) (n := 2) [pv (10 : Nat) V.nil, pv (11 : Nat) V.nil] (by kernel_rfl) (by kernel_rfl) True.intro ?_
  refine aops_nil ?_
  refine xt_n ?_
  refine hK _ ?_
  clear hK K
  refine aw_seq_k fun K hK => ?_
  refine aw_seq_k fun K hK => ?_
  refine w_region (n' := 4) (by kernel_rfl) (by kernel_rfl) ?_
  refine aops_n hTT (M := []) (n := 1) [pv (12 : Nat) (V.i (0 : Int))] (by kernel_rfl) (by kernel_rfl) True.intro ?_
  refine aops_nil ?_
  refine xt_n ?_
  refine hK _ ?_
  clear hK K
  refine aw_block ?_
  refine w_le (le_open 10 2 1 (fun k => [.i (inK c u l k)]) (by kernel_rfl) rfl) ?_
  refine w_le (le_open 11 2 1 (fun k => [.i (yK c u l k)]) (by kernel_rfl) rfl) ?_
  refine w_loop (ι := Nat) (fun k => [(1, V.ints l), (2, .b u), (3, .i m), (4, .ptr (cvC c)), (10, .own 10), (11, .own 11), (12, .i k)]) (fun k => [(10, RowI k (inK c u l)), (11, RowI k (yK c u l))]) (fun k => k ≤ l.length ∧ fine c u l m k) (fun k => l.length - k) 0 ⟨Nat.zero_le _, fun j hj => by omega⟩ ?_ ?_
  · refine le_ren (sl := [(10, Ob.row (2 : Nat) (1 : Nat) (0 : Nat) fun (j : Nat) => [V.i (inK c u l j)]), (11, Ob.row (2 : Nat) (1 : Nat) (0 : Nat) fun (j : Nat) => [V.i (yK c u l j)])]) [(10, 400010), (11, 500011)] (.cons (by kernel_rfl) (.cons (by kernel_rfl) (.cons (by kernel_rfl) (.cons (by kernel_rfl) (.cons (by kernel_rfl) (.cons (by kernel_rfl) (.cons (by kernel_rfl) .nil))))))) (.cons ⟨Ob.row (2 : Nat) (1 : Nat) (0 : Nat) fun (k : Nat) => [V.i (inK c u l k)], (by kernel_rfl), .row (by kernel_rfl) (fun _ _ => rfl)⟩ (.cons ⟨Ob.row (2 : Nat) (1 : Nat) (0 : Nat) fun (k : Nat) => [V.i (yK c u l k)], (by kernel_rfl), .row (by kernel_rfl) (fun _ _ => rfl)⟩ .nil)) (by kernel_rfl) (by kernel_rfl)
  rintro k ⟨hk, hf⟩
  obtain ⟨b1, b2⟩ := hist_bd hm.1 ha hf
  have hh := hist_hl c u l k
  rw [hh] at b1 b2
  simp only at b1 b2
  have bc := (corr_bd hc hm.1 b1 b2).2.2
  have hg := ha.gi hm.1 k
  refine aw_seq_k fun K hK => ?_
  refine aw_seq_k fun K hK => ?_
  refine w_region (n' := 2) (by kernel_rfl) (by kernel_rfl) ?_
  refine aops_n hTT (M := []) (n := 4) [pv (16 : Nat) (V.i (↑k : Int)), pv (17 : Nat) (V.sl (1 : Nat) (List.length l) fun (k : Nat) => [V.i (gi l k)]), pv (18 : Nat) (V.i (↑(List.length l) : Int)), pv (19 : Nat) (V.b (decide ((↑k : Int) < (↑(List.length l) : Int))))] (by kernel_rfl) (by kernel_rfl) True.intro ?_
  refine aops_nil ?_
  refine xt_n ?_
  refine hK _ ?_
  clear hK K
  refine w_cond (t := decide ((↑k : Int) < (↑(List.length l) : Int))) (by kernel_rfl) (fun c1 => ?_) (fun c1 => ?_)
  · simp at c1
    refine aw_skip ?_
    refine xt_n ?_
    refine hK _ ?_
    clear hK K
    refine aw_seq_k fun K hK => ?_
    refine aw_block ?_
    refine aw_seq_k fun K hK => ?_
    refine w_region (n' := 3) (by kernel_rfl) (by kernel_rfl) ?_
    refine aops_n hTT (M := []) (n := 4) [pv (22 : Nat) (V.agg [V.sl (1 : Nat) (List.length (Cv.feed c)) fun (k : Nat) => [V.i (gi (Cv.feed c) k)], V.sl (1 : Nat) (List.length (Cv.back c)) fun (k : Nat) => [V.i (gi (Cv.back c) k)], V.i (Cv.share c)]), pv (23 : Nat) (V.own (10 : Nat)), pv (24 : Nat) (V.own (11 : Nat)), pv (25 : Nat) (V.i (↑k : Int))] (by kernel_rfl) (by kernel_rfl) True.intro ?_
    refine aops_callR [10, 11] (first := []) (caps := []) (ins' := [Ob.row (2 : Nat) (1 : Nat) k fun (j : Nat) => [V.i (inK c u l j)], Ob.row (2 : Nat) (1 : Nat) k fun (j : Nat) => [V.i (yK c u l j)]]) (v' := V.i (corr c (hl (inK c u l) k) (hl (yK c u l) k))) (δ := []) (kp := [10, 11]) (refCorrection_am c (inK c u l) (yK c u l) k m hc hm (by omega) b1 b2) (by kernel_rfl) (by kernel_rfl) (by kernel_rfl) (by kernel_rfl) (by kernel_rfl) (by kernel_rfl) (by kernel_rfl) rfl (by kernel_rfl) (by kernel_rfl) ⟨(fun _ _ => rfl), ⟨(fun _ _ => rfl), True.intro⟩⟩ (by kernel_rfl) (by kernel_rfl) (by kernel_rfl) ?_
    refine aops_n hTT (M := []) (n := 1) [pv (13 : Nat) (V.i (corr c (hl (inK c u l) k) (hl (yK c u l) k)))] (by kernel_rfl) (by kernel_rfl) True.intro ?_
    refine aops_nil ?_
    refine xt_n ?_
    refine hK _ ?_
    clear hK K
    refine aw_seq_k fun K hK => ?_
    refine w_regionD (n' := 4) (by kernel_rfl) (by kernel_rfl) ?_
    refine aops_n hTT (M := []) (n := 10) [pv (27 : Nat) (V.sl (1 : Nat) (List.length l) fun (k : Nat) => [V.i (gi l k)]), pv (28 : Nat) (V.i (↑k : Int)), pc (29 : Nat) ((0 : Int) ≤ (↑k : Int) ∧ (↑k : Int) < (↑(List.length l) : Int)) (V.ptr [V.i (gi l k)]), pv (30 : Nat) (V.i (gi l k)), pv (31 : Nat) (V.sl (1 : Nat) (List.length l) fun (k : Nat) => [V.i (gi l k)]), pv (32 : Nat) (V.i (↑k : Int)), pc (33 : Nat) ((0 : Int) ≤ (↑k : Int) ∧ (↑k : Int) < (↑(List.length l) : Int)) (V.ptr [V.i (gi l k)]), pv (34 : Nat) (V.i (gi l k)), pv (14 : Nat) (V.i (gi l k)), pv (15 : Nat) (V.i (gi l k))] (by kernel_rfl) (by kernel_rfl) ⟨(by omega), (by omega), True.intro⟩ ?_
    refine aops_nil ⟨by kernel_rfl, ?_⟩
    refine xt_n ?_
    refine hK _ ?_
    clear hK K
    refine aw_seq_k fun K hK => ?_
    refine aw_seq_k fun K hK => ?_
    refine w_region (n' := 5) (by kernel_rfl) (by kernel_rfl) ?_
    refine aops_n hTT (M := []) (n := 1) [pv (35 : Nat) (V.b u)] (by kernel_rfl) (by kernel_rfl) True.intro ?_
    refine aops_nil ?_
    refine xt_n ?_
    refine hK _ ?_
    clear hK K
    refine w_cond (t := u) (by kernel_rfl) (fun c2 => ?_) (fun c2 => ?_)
    · subst c2
      have ho : outK c true l k = gi l k - corr c (hl (inK c true l) k) (hl (yK c true l) k) := by rw [outK, hh]; rfl
      refine w_region (n' := 6) (by kernel_rfl) (by kernel_rfl) ?_
      refine aops_n hTT (M := []) (n := 4) [pv (36 : Nat) (V.i (gi l k)), pv (37 : Nat) (V.i (corr c (hl (inK c true l) k) (hl (yK c true l) k))), pc (38 : Nat) ((-9223372036854775808 : Int) ≤ gi l k - corr c (hl (inK c true l) k) (hl (yK c true l) k) ∧ gi l k - corr c (hl (inK c true l) k) (hl (yK c true l) k) ≤ (9223372036854775807 : Int)) (V.i (gi l k - corr c (hl (inK c true l) k) (hl (yK c true l) k))), pv (14 : Nat) (V.i (gi l k - corr c (hl (inK c true l) k) (hl (yK c true l) k)))] (by kernel_rfl) (by kernel_rfl) ⟨(by omega), True.intro⟩ ?_
      refine aops_nil ?_
      refine xt_n ?_
      refine hK _ ?_
      clear hK K
      refine aw_seq_k fun K hK => ?_
      refine aw_seq_k fun K hK => ?_
      refine w_region (n' := 7) (by kernel_rfl) (by kernel_rfl) ?_
      refine aops_n hTT (M := []) (n := 20) [pv (42 : Nat) (V.i (gi l k - corr c (hl (inK c true l) k) (hl (yK c true l) k))), pv (43 : Nat) (V.i m), pc (44 : Nat) ((-9223372036854775808 : Int) ≤ -m ∧ -m ≤ (9223372036854775807 : Int)) (V.i (-m)), pv (45 : Nat) (V.b (decide (gi l k - corr c (hl (inK c true l) k) (hl (yK c true l) k) < -m))), pv (46 : Nat) (V.b (decide (gi l k - corr c (hl (inK c true l) k) (hl (yK c true l) k) < -m))), pc (47 : Nat) ((True ∧ True) ∧ ((decide (gi l k - corr c (hl (inK c true l) k) (hl (yK c true l) k) < -m) == false) = true → True)) (V.gd (decide (gi l k - corr c (hl (inK c true l) k) (hl (yK c true l) k) < -m) == false) (V.i (gi l k - corr c (hl (inK c true l) k) (hl (yK c true l) k)))), pc (48 : Nat) ((True ∧ True) ∧ ((decide (gi l k - corr c (hl (inK c true l) k) (hl (yK c true l) k) < -m) == false) = true → True)) (V.gd (decide (gi l k - corr c (hl (inK c true l) k) (hl (yK c true l) k) < -m) == false) (V.i m)), pc (49 : Nat) ((((decide (gi l k - corr c (hl (inK c true l) k) (hl (yK c true l) k) < -m) == false) = true → (decide (gi l k - corr c (hl (inK c true l) k) (hl (yK c true l) k) < -m) == false) = true) ∧ ((decide (gi l k - corr c (hl (inK c true l) k) (hl (yK c true l) k) < -m) == false) = true → (decide (gi l k - corr c (hl (inK c true l) k) (hl (yK c true l) k) < -m) == false) = true) ∧ True) ∧ ((decide (gi l k - corr c (hl (inK c true l) k) (hl (yK c true l) k) < -m) == false) = true → True)) (V.gd (decide (gi l k - corr c (hl (inK c true l) k) (hl (yK c true l) k) < -m) == false) (V.b (decide (m < gi l k - corr c (hl (inK c true l) k) (hl (yK c true l) k))))), pc (50 : Nat) (True ∧ (decide (gi l k - corr c (hl (inK c true l) k) (hl (yK c true l) k) < -m) = false → (decide (gi l k - corr c (hl (inK c true l) k) (hl (yK c true l) k) < -m) == false) = true)) (V.b (decide (gi l k - corr c (hl (inK c true l) k) (hl (yK c true l) k) < -m) || decide (m < gi l k - corr c (hl (inK c true l) k) (hl (yK c true l) k)))), pv (51 : Nat) (V.b (decide (gi l k - corr c (hl (inK c true l) k) (hl (yK c true l) k) < -m) || decide (m < gi l k - corr c (hl (inK c true l) k) (hl (yK c true l) k)))), pc (52 : Nat) ((True ∧ True) ∧ (((decide (gi l k - corr c (hl (inK c true l) k) (hl (yK c true l) k) < -m) || decide (m < gi l k - corr c (hl (inK c true l) k) (hl (yK c true l) k))) == false) = true → True)) (V.gd ((decide (gi l k - corr c (hl (inK c true l) k) (hl (yK c true l) k) < -m) || decide (m < gi l k - corr c (hl (inK c true l) k) (hl (yK c true l) k))) == false) (V.i (gi l k))), pc (53 : Nat) ((True ∧ True) ∧ (((decide (gi l k - corr c (hl (inK c true l) k) (hl (yK c true l) k) < -m) || decide (m < gi l k - corr c (hl (inK c true l) k) (hl (yK c true l) k))) == false) = true → True)) (V.gd ((decide (gi l k - corr c (hl (inK c true l) k) (hl (yK c true l) k) < -m) || decide (m < gi l k - corr c (hl (inK c true l) k) (hl (yK c true l) k))) == false) (V.i m)), pc (54 : Nat) (((((decide (gi l k - corr c (hl (inK c true l) k) (hl (yK c true l) k) < -m) || decide (m < gi l k - corr c (hl (inK c true l) k) (hl (yK c true l) k))) == false) = true → ((decide (gi l k - corr c (hl (inK c true l) k) (hl (yK c true l) k) < -m) || decide (m < gi l k - corr c (hl (inK c true l) k) (hl (yK c true l) k))) == false) = true) ∧ True) ∧ (((decide (gi l k - corr c (hl (inK c true l) k) (hl (yK c true l) k) < -m) || decide (m < gi l k - corr c (hl (inK c true l) k) (hl (yK c true l) k))) == false) = true → (-9223372036854775808 : Int) ≤ -m ∧ -m ≤ (9223372036854775807 : Int))) (V.gd ((decide (gi l k - corr c (hl (inK c true l) k) (hl (yK c true l) k) < -m) || decide (m < gi l k - corr c (hl (inK c true l) k) (hl (yK c true l) k))) == false) (V.i (-m))), pc (55 : Nat) (((((decide (gi l k - corr c (hl (inK c true l) k) (hl (yK c true l) k) < -m) || decide (m < gi l k - corr c (hl (inK c true l) k) (hl (yK c true l) k))) == false) = true → ((decide (gi l k - corr c (hl (inK c true l) k) (hl (yK c true l) k) < -m) || decide (m < gi l k - corr c (hl (inK c true l) k) (hl (yK c true l) k))) == false) = true) ∧ (((decide (gi l k - corr c (hl (inK c true l) k) (hl (yK c true l) k) < -m) || decide (m < gi l k - corr c (hl (inK c true l) k) (hl (yK c true l) k))) == false) = true → ((decide (gi l k - corr c (hl (inK c true l) k) (hl (yK c true l) k) < -m) || decide (m < gi l k - corr c (hl (inK c true l) k) (hl (yK c true l) k))) == false) = true) ∧ True) ∧ (((decide (gi l k - corr c (hl (inK c true l) k) (hl (yK c true l) k) < -m) || decide (m < gi l k - corr c (hl (inK c true l) k) (hl (yK c true l) k))) == false) = true → True)) (V.gd ((decide (gi l k - corr c (hl (inK c true l) k) (hl (yK c true l) k) < -m) || decide (m < gi l k - corr c (hl (inK c true l) k) (hl (yK c true l) k))) == false) (V.b (decide (gi l k < -m)))), pc (56 : Nat) (True ∧ ((decide (gi l k - corr c (hl (inK c true l) k) (hl (yK c true l) k) < -m) || decide (m < gi l k - corr c (hl (inK c true l) k) (hl (yK c true l) k))) = false → ((decide (gi l k - corr c (hl (inK c true l) k) (hl (yK c true l) k) < -m) || decide (m < gi l k - corr c (hl (inK c true l) k) (hl (yK c true l) k))) == false) = true)) (V.b (decide (gi l k - corr c (hl (inK c true l) k) (hl (yK c true l) k) < -m) || decide (m < gi l k - corr c (hl (inK c true l) k) (hl (yK c true l) k)) || decide (gi l k < -m))), pv (57 : Nat) (V.b (decide (gi l k - corr c (hl (inK c true l) k) (hl (yK c true l) k) < -m) || decide (m < gi l k - corr c (hl (inK c true l) k) (hl (yK c true l) k)) || decide (gi l k < -m))), pc (58 : Nat) ((True ∧ True) ∧ (((decide (gi l k - corr c (hl (inK c true l) k) (hl (yK c true l) k) < -m) || decide (m < gi l k - corr c (hl (inK c true l) k) (hl (yK c true l) k)) || decide (gi l k < -m)) == false) = true → True)) (V.gd ((decide (gi l k - corr c (hl (inK c true l) k) (hl (yK c true l) k) < -m) || decide (m < gi l k - corr c (hl (inK c true l) k) (hl (yK c true l) k)) || decide (gi l k < -m)) == false) (V.i (gi l k))), pc (59 : Nat) ((True ∧ True) ∧ (((decide (gi l k - corr c (hl (inK c true l) k) (hl (yK c true l) k) < -m) || decide (m < gi l k - corr c (hl (inK c true l) k) (hl (yK c true l) k)) || decide (gi l k < -m)) == false) = true → True)) (V.gd ((decide (gi l k - corr c (hl (inK c true l) k) (hl (yK c true l) k) < -m) || decide (m < gi l k - corr c (hl (inK c true l) k) (hl (yK c true l) k)) || decide (gi l k < -m)) == false) (V.i m)), pc (60 : Nat) (((((decide (gi l k - corr c (hl (inK c true l) k) (hl (yK c true l) k) < -m) || decide (m < gi l k - corr c (hl (inK c true l) k) (hl (yK c true l) k)) || decide (gi l k < -m)) == false) = true → ((decide (gi l k - corr c (hl (inK c true l) k) (hl (yK c true l) k) < -m) || decide (m < gi l k - corr c (hl (inK c true l) k) (hl (yK c true l) k)) || decide (gi l k < -m)) == false) = true) ∧ (((decide (gi l k - corr c (hl (inK c true l) k) (hl (yK c true l) k) < -m) || decide (m < gi l k - corr c (hl (inK c true l) k) (hl (yK c true l) k)) || decide (gi l k < -m)) == false) = true → ((decide (gi l k - corr c (hl (inK c true l) k) (hl (yK c true l) k) < -m) || decide (m < gi l k - corr c (hl (inK c true l) k) (hl (yK c true l) k)) || decide (gi l k < -m)) == false) = true) ∧ True) ∧ (((decide (gi l k - corr c (hl (inK c true l) k) (hl (yK c true l) k) < -m) || decide (m < gi l k - corr c (hl (inK c true l) k) (hl (yK c true l) k)) || decide (gi l k < -m)) == false) = true → True)) (V.gd ((decide (gi l k - corr c (hl (inK c true l) k) (hl (yK c true l) k) < -m) || decide (m < gi l k - corr c (hl (inK c true l) k) (hl (yK c true l) k)) || decide (gi l k < -m)) == false) (V.b (decide (m < gi l k)))), pc (61 : Nat) (True ∧ ((decide (gi l k - corr c (hl (inK c true l) k) (hl (yK c true l) k) < -m) || decide (m < gi l k - corr c (hl (inK c true l) k) (hl (yK c true l) k)) || decide (gi l k < -m)) = false → ((decide (gi l k - corr c (hl (inK c true l) k) (hl (yK c true l) k) < -m) || decide (m < gi l k - corr c (hl (inK c true l) k) (hl (yK c true l) k)) || decide (gi l k < -m)) == false) = true)) (V.b (decide (gi l k - corr c (hl (inK c true l) k) (hl (yK c true l) k) < -m) || decide (m < gi l k - corr c (hl (inK c true l) k) (hl (yK c true l) k)) || decide (gi l k < -m) || decide (m < gi l k)))] (by kernel_rfl) (by kernel_rfl) ⟨(by omega), ⟨⟨True.intro, True.intro⟩, (fun _ => True.intro)⟩, ⟨⟨True.intro, True.intro⟩, (fun _ => True.intro)⟩, ⟨⟨(by (exact fun h => h)), ⟨(by (exact fun h => h)), True.intro⟩⟩, (fun _ => True.intro)⟩, ⟨True.intro, (by (intro h; rw [h]; rfl))⟩, ⟨⟨True.intro, True.intro⟩, (fun _ => True.intro)⟩, ⟨⟨True.intro, True.intro⟩, (fun _ => True.intro)⟩, ⟨⟨(by (exact fun h => h)), True.intro⟩, (by (intro hg; simp at hg; omega))⟩, ⟨⟨(by (exact fun h => h)), ⟨(by (exact fun h => h)), True.intro⟩⟩, (fun _ => True.intro)⟩, ⟨True.intro, (by (intro h; rw [h]; rfl))⟩, ⟨⟨True.intro, True.intro⟩, (fun _ => True.intro)⟩, ⟨⟨True.intro, True.intro⟩, (fun _ => True.intro)⟩, ⟨⟨(by (exact fun h => h)), ⟨(by (exact fun h => h)), True.intro⟩⟩, (fun _ => True.intro)⟩, ⟨True.intro, (by (intro h; rw [h]; rfl))⟩, True.intro⟩ ?_
      refine aops_nil ?_
      refine xt_n ?_
      refine hK _ ?_
      clear hK K
      refine w_cond (t := decide (gi l k - corr c (hl (inK c true l) k) (hl (yK c true l) k) < -m) || decide (m < gi l k - corr c (hl (inK c true l) k) (hl (yK c true l) k)) || decide (gi l k < -m) || decide (m < gi l k)) (by kernel_rfl) (fun c3 => ?_) (fun c3 => ?_)
      · have hb : bey (outK c true l k) m = true := by
          rw [ho]
          simp [bey] at c3 ⊢
          omega
        refine aw_seq_k fun K hK => ?_
        refine w_region (n' := 8) (by kernel_rfl) (by kernel_rfl) ?_
        refine aops_n hTT (M := []) (n := 2) [pv (8 : Nat) V.nil, pv (9 : Nat) (V.b false)] (by kernel_rfl) (by kernel_rfl) True.intro ?_
        refine aops_nil ?_
        refine xt_n ?_
        refine hK _ ?_
        clear hK K
        refine aw_ret ?_
        refine xt_r ?_
        refine xb_r ?_
        refine xt_r ?_
        refine xt_r ?_
        refine xb_r ?_
        refine xt_r ?_
        rw [runI_none c1 hb]
        refine ret_of_le (le_nil 8 (sz := 1) 0 (fun k => [.i (gi [] k)]) (by kernel_rfl) ?_) ?_
        · rfl
        refine ret_pure (v' := V.tup [V.sl (1 : Nat) (0 : Nat) fun (k : Nat) => [V.i (gi [] k)], V.b false]) (.inr rfl) (by kernel_rfl) (by kernel_rfl) (by kernel_rfl)
      · have hb : bey (outK c true l k) m = false := by
          rw [ho]
          simp [bey] at c3 ⊢
          omega
        refine aw_skip ?_
        refine xt_n ?_
        refine hK _ ?_
        clear hK K
        refine w_region (n' := 8) (by kernel_rfl) (by kernel_rfl) ?_
        refine aops_n hTT (M := []) (n := 10) [pv (62 : Nat) (V.own (10 : Nat)), pv (63 : Nat) (V.i (gi l k - corr c (hl (inK c true l) k) (hl (yK c true l) k))), pv (64 : Nat) (V.sl (1 : Nat) (1 : Nat) fun (i : Nat) => List.take (1 : Nat) (List.drop (i * (1 : Nat)) [V.i (gi l k - corr c (hl (inK c true l) k) (hl (yK c true l) k))])), PR.mk (some (65 : Nat)) (some (k + (1 : Nat) ≤ (1099511627776 : Nat))) (V.own (700065 : Nat)) [((10 : Nat), none), ((700065 : Nat), some (Ob.row (2 : Nat) (1 : Nat) (k + (1 : Nat)) (appRow k (fun (j : Nat) => [V.i (inK c true l j)]) fun (i : Nat) => List.take (1 : Nat) (List.drop (i * (1 : Nat)) [V.i (gi l k - corr c (hl (inK c true l) k) (hl (yK c true l) k))]))))] false, pv (66 : Nat) (V.own (11 : Nat)), pv (67 : Nat) (V.i (gi l k)), pv (68 : Nat) (V.sl (1 : Nat) (1 : Nat) fun (i : Nat) => List.take (1 : Nat) (List.drop (i * (1 : Nat)) [V.i (gi l k)])), PR.mk (some (69 : Nat)) (some (k + (1 : Nat) ≤ (1099511627776 : Nat))) (V.own (700069 : Nat)) [((11 : Nat), none), ((700069 : Nat), some (Ob.row (2 : Nat) (1 : Nat) (k + (1 : Nat)) (appRow k (fun (j : Nat) => [V.i (yK c true l j)]) fun (i : Nat) => List.take (1 : Nat) (List.drop (i * (1 : Nat)) [V.i (gi l k)]))))] false, pv (10 : Nat) (V.own (700065 : Nat)), pv (11 : Nat) (V.own (700069 : Nat))] (by kernel_rfl) (by kernel_rfl) ⟨(by omega), (by omega), True.intro⟩ ?_
        refine aops_nil ?_
        refine xb_n ?_
        refine xt_n ?_
        refine hK _ ?_
        clear hK K
        refine w_region (n' := 9) (by kernel_rfl) (by kernel_rfl) ?_
        refine aops_n hTT (M := []) (n := 3) [pv (20 : Nat) (V.i (↑k : Int)), pc (21 : Nat) ((-9223372036854775808 : Int) ≤ (↑k : Int) + (1 : Int) ∧ (↑k : Int) + (1 : Int) ≤ (9223372036854775807 : Int)) (V.i ((↑k : Int) + (1 : Int))), pv (12 : Nat) (V.i ((↑k : Int) + (1 : Int)))] (by kernel_rfl) (by kernel_rfl) ⟨(by omega), True.intro⟩ ?_
        refine aops_nil ?_
        refine xt_n ?_
        refine ⟨k + 1, ⟨by omega, fun i hi => ?_⟩, ?_, by omega⟩
        · by_cases h : i < k
          · exact hf i h
          · obtain rfl : i = k := by omega
            exact hb
        refine le_ren (tl := [(1, V.sl (1 : Nat) (List.length l) fun (k : Nat) => [V.i (gi l k)]), (2, V.b true), (3, V.i m), (4, V.ptr [V.sl (1 : Nat) (List.length (Cv.feed c)) fun (k : Nat) => [V.i (gi (Cv.feed c) k)], V.sl (1 : Nat) (List.length (Cv.back c)) fun (k : Nat) => [V.i (gi (Cv.back c) k)], V.i (Cv.share c)]), (10, V.own (10 : Nat)), (11, V.own (11 : Nat)), (12, V.i (↑(k + (1 : Nat)) : Int))]) (sl := [(10, Ob.row (2 : Nat) (1 : Nat) (k + (1 : Nat)) fun (j : Nat) => [V.i (inK c true l j)]), (11, Ob.row (2 : Nat) (1 : Nat) (k + (1 : Nat)) fun (j : Nat) => [V.i (yK c true l j)])]) [(10, 700065), (11, 700069)] (.cons (by kernel_rfl) (.cons (by kernel_rfl) (.cons (by kernel_rfl) (.cons (by kernel_rfl) (.cons (by kernel_rfl) (.cons (by kernel_rfl) (.cons (by kernel_rfl) .nil))))))) (.cons ⟨Ob.row (2 : Nat) (1 : Nat) (k + (1 : Nat)) (appRow k (fun (j : Nat) => [V.i (inK c true l j)]) fun (i : Nat) => List.take (1 : Nat) (List.drop (i * (1 : Nat)) [V.i (gi l k - corr c (hl (inK c true l) k) (hl (yK c true l) k))])), (by kernel_rfl), .row (by kernel_rfl) ?_⟩ (.cons ⟨Ob.row (2 : Nat) (1 : Nat) (k + (1 : Nat)) (appRow k (fun (j : Nat) => [V.i (yK c true l j)]) fun (i : Nat) => List.take (1 : Nat) (List.drop (i * (1 : Nat)) [V.i (gi l k)])), (by kernel_rfl), .row (by kernel_rfl) ?_⟩ .nil)) (by kernel_rfl) (by kernel_rfl)
        · intro i hi
          by_cases h : i < k
          · rw [appRow, if_pos h]
            rfl
          · obtain rfl : i = k := by omega
            rw [appRow, if_neg h, Nat.sub_self]
            show _ = [V.i (inK c true l i)]
            rw [show inK c true l i = outK c true l i from rfl, ho]
            rfl
        · intro i hi
          by_cases h : i < k
          · rw [appRow, if_pos h]
            rfl
          · obtain rfl : i = k := by omega
            rw [appRow, if_neg h, Nat.sub_self]
            show _ = [V.i (yK c true l i)]
            rw [show yK c true l i = gi l i from rfl]
            rfl
    · subst c2
      have ho : outK c false l k = gi l k + corr c (hl (inK c false l) k) (hl (yK c false l) k) := by rw [outK, hh]; rfl
      refine w_region (n' := 6) (by kernel_rfl) (by kernel_rfl) ?_
      refine aops_n hTT (M := []) (n := 4) [pv (39 : Nat) (V.i (gi l k)), pv (40 : Nat) (V.i (corr c (hl (inK c false l) k) (hl (yK c false l) k))), pc (41 : Nat) ((-9223372036854775808 : Int) ≤ gi l k + corr c (hl (inK c false l) k) (hl (yK c false l) k) ∧ gi l k + corr c (hl (inK c false l) k) (hl (yK c false l) k) ≤ (9223372036854775807 : Int)) (V.i (gi l k + corr c (hl (inK c false l) k) (hl (yK c false l) k))), pv (15 : Nat) (V.i (gi l k + corr c (hl (inK c false l) k) (hl (yK c false l) k)))] (by kernel_rfl) (by kernel_rfl) ⟨(by omega), True.intro⟩ ?_
      refine aops_nil ?_
      refine xt_n ?_
      refine hK _ ?_
      clear hK K
      refine aw_seq_k fun K hK => ?_
      refine aw_seq_k fun K hK => ?_
      refine w_region (n' := 7) (by kernel_rfl) (by kernel_rfl) ?_
      refine aops_n hTT (M := []) (n := 20) [pv (42 : Nat) (V.i (gi l k)), pv (43 : Nat) (V.i m), pc (44 : Nat) ((-9223372036854775808 : Int) ≤ -m ∧ -m ≤ (9223372036854775807 : Int)) (V.i (-m)), pv (45 : Nat) (V.b (decide (gi l k < -m))), pv (46 : Nat) (V.b (decide (gi l k < -m))), pc (47 : Nat) ((True ∧ True) ∧ ((decide (gi l k < -m) == false) = true → True)) (V.gd (decide (gi l k < -m) == false) (V.i (gi l k))), pc (48 : Nat) ((True ∧ True) ∧ ((decide (gi l k < -m) == false) = true → True)) (V.gd (decide (gi l k < -m) == false) (V.i m)), pc (49 : Nat) ((((decide (gi l k < -m) == false) = true → (decide (gi l k < -m) == false) = true) ∧ ((decide (gi l k < -m) == false) = true → (decide (gi l k < -m) == false) = true) ∧ True) ∧ ((decide (gi l k < -m) == false) = true → True)) (V.gd (decide (gi l k < -m) == false) (V.b (decide (m < gi l k)))), pc (50 : Nat) (True ∧ (decide (gi l k < -m) = false → (decide (gi l k < -m) == false) = true)) (V.b (decide (gi l k < -m) || decide (m < gi l k))), pv (51 : Nat) (V.b (decide (gi l k < -m) || decide (m < gi l k))), pc (52 : Nat) ((True ∧ True) ∧ (((decide (gi l k < -m) || decide (m < gi l k)) == false) = true → True)) (V.gd ((decide (gi l k < -m) || decide (m < gi l k)) == false) (V.i (gi l k + corr c (hl (inK c false l) k) (hl (yK c false l) k)))), pc (53 : Nat) ((True ∧ True) ∧ (((decide (gi l k < -m) || decide (m < gi l k)) == false) = true → True)) (V.gd ((decide (gi l k < -m) || decide (m < gi l k)) == false) (V.i m)), pc (54 : Nat) (((((decide (gi l k < -m) || decide (m < gi l k)) == false) = true → ((decide (gi l k < -m) || decide (m < gi l k)) == false) = true) ∧ True) ∧ (((decide (gi l k < -m) || decide (m < gi l k)) == false) = true → (-9223372036854775808 : Int) ≤ -m ∧ -m ≤ (9223372036854775807 : Int))) (V.gd ((decide (gi l k < -m) || decide (m < gi l k)) == false) (V.i (-m))), pc (55 : Nat) (((((decide (gi l k < -m) || decide (m < gi l k)) == false) = true → ((decide (gi l k < -m) || decide (m < gi l k)) == false) = true) ∧ (((decide (gi l k < -m) || decide (m < gi l k)) == false) = true → ((decide (gi l k < -m) || decide (m < gi l k)) == false) = true) ∧ True) ∧ (((decide (gi l k < -m) || decide (m < gi l k)) == false) = true → True)) (V.gd ((decide (gi l k < -m) || decide (m < gi l k)) == false) (V.b (decide (gi l k + corr c (hl (inK c false l) k) (hl (yK c false l) k) < -m)))), pc (56 : Nat) (True ∧ ((decide (gi l k < -m) || decide (m < gi l k)) = false → ((decide (gi l k < -m) || decide (m < gi l k)) == false) = true)) (V.b (decide (gi l k < -m) || decide (m < gi l k) || decide (gi l k + corr c (hl (inK c false l) k) (hl (yK c false l) k) < -m))), pv (57 : Nat) (V.b (decide (gi l k < -m) || decide (m < gi l k) || decide (gi l k + corr c (hl (inK c false l) k) (hl (yK c false l) k) < -m))), pc (58 : Nat) ((True ∧ True) ∧ (((decide (gi l k < -m) || decide (m < gi l k) || decide (gi l k + corr c (hl (inK c false l) k) (hl (yK c false l) k) < -m)) == false) = true → True)) (V.gd ((decide (gi l k < -m) || decide (m < gi l k) || decide (gi l k + corr c (hl (inK c false l) k) (hl (yK c false l) k) < -m)) == false) (V.i (gi l k + corr c (hl (inK c false l) k) (hl (yK c false l) k)))), pc (59 : Nat) ((True ∧ True) ∧ (((decide (gi l k < -m) || decide (m < gi l k) || decide (gi l k + corr c (hl (inK c false l) k) (hl (yK c false l) k) < -m)) == false) = true → True)) (V.gd ((decide (gi l k < -m) || decide (m < gi l k) || decide (gi l k + corr c (hl (inK c false l) k) (hl (yK c false l) k) < -m)) == false) (V.i m)), pc (60 : Nat) (((((decide (gi l k < -m) || decide (m < gi l k) || decide (gi l k + corr c (hl (inK c false l) k) (hl (yK c false l) k) < -m)) == false) = true → ((decide (gi l k < -m) || decide (m < gi l k) || decide (gi l k + corr c (hl (inK c false l) k) (hl (yK c false l) k) < -m)) == false) = true) ∧ (((decide (gi l k < -m) || decide (m < gi l k) || decide (gi l k + corr c (hl (inK c false l) k) (hl (yK c false l) k) < -m)) == false) = true → ((decide (gi l k < -m) || decide (m < gi l k) || decide (gi l k + corr c (hl (inK c false l) k) (hl (yK c false l) k) < -m)) == false) = true) ∧ True) ∧ (((decide (gi l k < -m) || decide (m < gi l k) || decide (gi l k + corr c (hl (inK c false l) k) (hl (yK c false l) k) < -m)) == false) = true → True)) (V.gd ((decide (gi l k < -m) || decide (m < gi l k) || decide (gi l k + corr c (hl (inK c false l) k) (hl (yK c false l) k) < -m)) == false) (V.b (decide (m < gi l k + corr c (hl (inK c false l) k) (hl (yK c false l) k))))), pc (61 : Nat) (True ∧ ((decide (gi l k < -m) || decide (m < gi l k) || decide (gi l k + corr c (hl (inK c false l) k) (hl (yK c false l) k) < -m)) = false → ((decide (gi l k < -m) || decide (m < gi l k) || decide (gi l k + corr c (hl (inK c false l) k) (hl (yK c false l) k) < -m)) == false) = true)) (V.b (decide (gi l k < -m) || decide (m < gi l k) || decide (gi l k + corr c (hl (inK c false l) k) (hl (yK c false l) k) < -m) || decide (m < gi l k + corr c (hl (inK c false l) k) (hl (yK c false l) k))))] (by kernel_rfl) (by kernel_rfl) ⟨(by omega), ⟨⟨True.intro, True.intro⟩, (fun _ => True.intro)⟩, ⟨⟨True.intro, True.intro⟩, (fun _ => True.intro)⟩, ⟨⟨(by (exact fun h => h)), ⟨(by (exact fun h => h)), True.intro⟩⟩, (fun _ => True.intro)⟩, ⟨True.intro, (by (intro h; rw [h]; rfl))⟩, ⟨⟨True.intro, True.intro⟩, (fun _ => True.intro)⟩, ⟨⟨True.intro, True.intro⟩, (fun _ => True.intro)⟩, ⟨⟨(by (exact fun h => h)), True.intro⟩, (by (intro hg; simp at hg; omega))⟩, ⟨⟨(by (exact fun h => h)), ⟨(by (exact fun h => h)), True.intro⟩⟩, (fun _ => True.intro)⟩, ⟨True.intro, (by (intro h; rw [h]; rfl))⟩, ⟨⟨True.intro, True.intro⟩, (fun _ => True.intro)⟩, ⟨⟨True.intro, True.intro⟩, (fun _ => True.intro)⟩, ⟨⟨(by (exact fun h => h)), ⟨(by (exact fun h => h)), True.intro⟩⟩, (fun _ => True.intro)⟩, ⟨True.intro, (by (intro h; rw [h]; rfl))⟩, True.intro⟩ ?_
      refine aops_nil ?_
      refine xt_n ?_
      refine hK _ ?_
      clear hK K
      refine w_cond (t := decide (gi l k < -m) || decide (m < gi l k) || decide (gi l k + corr c (hl (inK c false l) k) (hl (yK c false l) k) < -m) || decide (m < gi l k + corr c (hl (inK c false l) k) (hl (yK c false l) k))) (by kernel_rfl) (fun c3 => ?_) (fun c3 => ?_)
      · have hb : bey (outK c false l k) m = true := by
          rw [ho]
          simp [bey] at c3 ⊢
          omega
        refine aw_seq_k fun K hK => ?_
        refine w_region (n' := 8) (by kernel_rfl) (by kernel_rfl) ?_
        refine aops_n hTT (M := []) (n := 2) [pv (8 : Nat) V.nil, pv (9 : Nat) (V.b false)] (by kernel_rfl) (by kernel_rfl) True.intro ?_
        refine aops_nil ?_
        refine xt_n ?_
        refine hK _ ?_
        clear hK K
        refine aw_ret ?_
        refine xt_r ?_
        refine xb_r ?_
        refine xt_r ?_
        refine xt_r ?_
        refine xb_r ?_
        refine xt_r ?_
        rw [runI_none c1 hb]
        refine ret_of_le (le_nil 8 (sz := 1) 0 (fun k => [.i (gi [] k)]) (by kernel_rfl) ?_) ?_
        · rfl
        refine ret_pure (v' := V.tup [V.sl (1 : Nat) (0 : Nat) fun (k : Nat) => [V.i (gi [] k)], V.b false]) (.inr rfl) (by kernel_rfl) (by kernel_rfl) (by kernel_rfl)
      · have hb : bey (outK c false l k) m = false := by
          rw [ho]
          simp [bey] at c3 ⊢
          omega
        refine aw_skip ?_
        refine xt_n ?_
        refine hK _ ?_
        clear hK K
        refine w_region (n' := 8) (by kernel_rfl) (by kernel_rfl) ?_
        refine aops_n hTT (M := []) (n := 10) [pv (62 : Nat) (V.own (10 : Nat)), pv (63 : Nat) (V.i (gi l k)), pv (64 : Nat) (V.sl (1 : Nat) (1 : Nat) fun (i : Nat) => List.take (1 : Nat) (List.drop (i * (1 : Nat)) [V.i (gi l k)])), PR.mk (some (65 : Nat)) (some (k + (1 : Nat) ≤ (1099511627776 : Nat))) (V.own (700065 : Nat)) [((10 : Nat), none), ((700065 : Nat), some (Ob.row (2 : Nat) (1 : Nat) (k + (1 : Nat)) (appRow k (fun (j : Nat) => [V.i (inK c false l j)]) fun (i : Nat) => List.take (1 : Nat) (List.drop (i * (1 : Nat)) [V.i (gi l k)]))))] false, pv (66 : Nat) (V.own (11 : Nat)), pv (67 : Nat) (V.i (gi l k + corr c (hl (inK c false l) k) (hl (yK c false l) k))), pv (68 : Nat) (V.sl (1 : Nat) (1 : Nat) fun (i : Nat) => List.take (1 : Nat) (List.drop (i * (1 : Nat)) [V.i (gi l k + corr c (hl (inK c false l) k) (hl (yK c false l) k))])), PR.mk (some (69 : Nat)) (some (k + (1 : Nat) ≤ (1099511627776 : Nat))) (V.own (700069 : Nat)) [((11 : Nat), none), ((700069 : Nat), some (Ob.row (2 : Nat) (1 : Nat) (k + (1 : Nat)) (appRow k (fun (j : Nat) => [V.i (yK c false l j)]) fun (i : Nat) => List.take (1 : Nat) (List.drop (i * (1 : Nat)) [V.i (gi l k + corr c (hl (inK c false l) k) (hl (yK c false l) k))]))))] false, pv (10 : Nat) (V.own (700065 : Nat)), pv (11 : Nat) (V.own (700069 : Nat))] (by kernel_rfl) (by kernel_rfl) ⟨(by omega), (by omega), True.intro⟩ ?_
        refine aops_nil ?_
        refine xb_n ?_
        refine xt_n ?_
        refine hK _ ?_
        clear hK K
        refine w_region (n' := 9) (by kernel_rfl) (by kernel_rfl) ?_
        refine aops_n hTT (M := []) (n := 3) [pv (20 : Nat) (V.i (↑k : Int)), pc (21 : Nat) ((-9223372036854775808 : Int) ≤ (↑k : Int) + (1 : Int) ∧ (↑k : Int) + (1 : Int) ≤ (9223372036854775807 : Int)) (V.i ((↑k : Int) + (1 : Int))), pv (12 : Nat) (V.i ((↑k : Int) + (1 : Int)))] (by kernel_rfl) (by kernel_rfl) ⟨(by omega), True.intro⟩ ?_
        refine aops_nil ?_
        refine xt_n ?_
        refine ⟨k + 1, ⟨by omega, fun i hi => ?_⟩, ?_, by omega⟩
        · by_cases h : i < k
          · exact hf i h
          · obtain rfl : i = k := by omega
            exact hb
        refine le_ren (tl := [(1, V.sl (1 : Nat) (List.length l) fun (k : Nat) => [V.i (gi l k)]), (2, V.b false), (3, V.i m), (4, V.ptr [V.sl (1 : Nat) (List.length (Cv.feed c)) fun (k : Nat) => [V.i (gi (Cv.feed c) k)], V.sl (1 : Nat) (List.length (Cv.back c)) fun (k : Nat) => [V.i (gi (Cv.back c) k)], V.i (Cv.share c)]), (10, V.own (10 : Nat)), (11, V.own (11 : Nat)), (12, V.i (↑(k + (1 : Nat)) : Int))]) (sl := [(10, Ob.row (2 : Nat) (1 : Nat) (k + (1 : Nat)) fun (j : Nat) => [V.i (inK c false l j)]), (11, Ob.row (2 : Nat) (1 : Nat) (k + (1 : Nat)) fun (j : Nat) => [V.i (yK c false l j)])]) [(10, 700065), (11, 700069)] (.cons (by kernel_rfl) (.cons (by kernel_rfl) (.cons (by kernel_rfl) (.cons (by kernel_rfl) (.cons (by kernel_rfl) (.cons (by kernel_rfl) (.cons (by kernel_rfl) .nil))))))) (.cons ⟨Ob.row (2 : Nat) (1 : Nat) (k + (1 : Nat)) (appRow k (fun (j : Nat) => [V.i (inK c false l j)]) fun (i : Nat) => List.take (1 : Nat) (List.drop (i * (1 : Nat)) [V.i (gi l k)])), (by kernel_rfl), .row (by kernel_rfl) ?_⟩ (.cons ⟨Ob.row (2 : Nat) (1 : Nat) (k + (1 : Nat)) (appRow k (fun (j : Nat) => [V.i (yK c false l j)]) fun (i : Nat) => List.take (1 : Nat) (List.drop (i * (1 : Nat)) [V.i (gi l k + corr c (hl (inK c false l) k) (hl (yK c false l) k))])), (by kernel_rfl), .row (by kernel_rfl) ?_⟩ .nil)) (by kernel_rfl) (by kernel_rfl)
        · intro i hi
          by_cases h : i < k
          · rw [appRow, if_pos h]
            rfl
          · obtain rfl : i = k := by omega
            rw [appRow, if_neg h, Nat.sub_self]
            show _ = [V.i (inK c false l i)]
            rw [show inK c false l i = gi l i from rfl]
            rfl
        · intro i hi
          by_cases h : i < k
          · rw [appRow, if_pos h]
            rfl
          · obtain rfl : i = k := by omega
            rw [appRow, if_neg h, Nat.sub_self]
            show _ = [V.i (yK c false l i)]
            rw [show yK c false l i = outK c false l i from rfl, ho]
            rfl
  · simp at c1
    obtain rfl : k = l.length := by omega
    refine aw_exit ?_
    refine xt_x ?_
    refine xt_x ?_
    refine xb_same ?_
    refine xt_n ?_
    clear hK K
    refine hK _ ?_
    clear hK K
    refine aw_seq_k fun K hK => ?_
    refine aw_seq_k fun K hK => ?_
    refine w_region (n' := 3) (by kernel_rfl) (by kernel_rfl) ?_
    refine aops_n hTT (M := []) (n := 1) [pv (70 : Nat) (V.b u)] (by kernel_rfl) (by kernel_rfl) True.intro ?_
    refine aops_nil ?_
    refine xt_n ?_
    refine hK _ ?_
    clear hK K
    refine w_cond (t := u) (by kernel_rfl) (fun c2 => ?_) (fun c2 => ?_)
    · subst c2
      refine aw_seq_k fun K hK => ?_
      refine w_region (n' := 4) (by kernel_rfl) (by kernel_rfl) ?_
      refine aops_n hTT (M := []) (n := 3) [pv (71 : Nat) (V.own (10 : Nat)), pv (8 : Nat) (V.own (10 : Nat)), pv (9 : Nat) (V.b true)] (by kernel_rfl) (by kernel_rfl) True.intro ?_
      refine aops_nil ?_
      refine xt_n ?_
      refine hK _ ?_
      clear hK K
      refine aw_ret ?_
      refine xt_r ?_
      rw [runI_some hf]
      refine ret_of_le (le_shut 8 10 (e := (2 : Nat)) (sz := (1 : Nat)) (n := List.length l) (n' := (resL c true l).length) (row := fun (j : Nat) => [V.i (inK c true l j)]) (row' := (fun k => [.i (gi (resL c true l) k)])) (by kernel_rfl) (by kernel_rfl) (fun _ _ => rfl) ?_ ?_) ?_
      · rw [resL_len]
      · intro i hi
        rw [resL_gi hi]
        rfl
      refine ret_pure (v' := V.tup [V.sl (1 : Nat) (List.length (resL c true l)) fun (k : Nat) => [V.i (gi (resL c true l) k)], V.b true]) (.inr rfl) (by kernel_rfl) (by kernel_rfl) (by kernel_rfl)
    · subst c2
      refine aw_skip ?_
      refine xt_n ?_
      refine hK _ ?_
      clear hK K
      refine aw_seq_k fun K hK => ?_
      refine w_region (n' := 4) (by kernel_rfl) (by kernel_rfl) ?_
      refine aops_n hTT (M := []) (n := 3) [pv (72 : Nat) (V.own (11 : Nat)), pv (8 : Nat) (V.own (11 : Nat)), pv (9 : Nat) (V.b true)] (by kernel_rfl) (by kernel_rfl) True.intro ?_
      refine aops_nil ?_
      refine xt_n ?_
      refine hK _ ?_
      clear hK K
      refine aw_ret ?_
      rw [runI_some hf]
      refine ret_of_le (le_shut 8 11 (e := (2 : Nat)) (sz := (1 : Nat)) (n := List.length l) (n' := (resL c false l).length) (row := fun (j : Nat) => [V.i (yK c false l j)]) (row' := (fun k => [.i (gi (resL c false l) k)])) (by kernel_rfl) (by kernel_rfl) (fun _ _ => rfl) ?_ ?_) ?_
      · rw [resL_len]
      · intro i hi
        rw [resL_gi hi]
        rfl
      refine ret_pure (v' := V.tup [V.sl (1 : Nat) (List.length (resL c false l)) fun (k : Nat) => [V.i (gi (resL c false l) k)], V.b true]) (.inr rfl) (by kernel_rfl) (by kernel_rfl) (by kernel_rfl)
end Go.Proofs.Ytblipieipldanaa
