/-
  A curve applied to each element; a list copied. Conditions: told in each theorem.
-/
import Derived.Test.YtblipieipldanaaFA4
namespace Go.Proofs.Ytblipieipldanaa
open Go.Ab Go.RowKit Go.Dw Go.Shelf

theorem step1_hist (c : Cv) (u : Bool) (l : List Int) (k : Nat) (n : Int) (hc : cvOk c) (hn : 0 ≤ n ∧ n ≤ 131072) (ha : AllLe n l) (hf : fine c u l n k) :
    AM Try.prog 105 [.i (gi l k), .ptr [.b u], .ref 500 0] [PB 501, St c (hist c u l k).2 (hist c u l k).1 (k % 8)] (.i (outK c u l k)) [some (PB 501), some (St c (hist c u l (k + 1)).2 (hist c u l (k + 1)).1 ((k + 1) % 8))] [] := by
  obtain ⟨b1, b2⟩ := hist_bd hn.1 ha hf
  refine (step1_ac c u (hist c u l k).2 (hist c u l k).1 (k % 8) n (gi l k) hc (by omega) hn b1 b2 (ha.gi hn.1 k)).conv rfl ?_
  rw [show (k + 1) % 8 = (k % 8 + 1) % 8 by omega, hist_x, hist_y]
  cases u <;> rfl
set_option maxRecDepth 100000 in
theorem each_ok (c : Cv) (u : Bool) (l : List Int) (mx : Int) (hc : cvOk c) (hl : l.length ≤ 8192) (hm : 0 ≤ mx ∧ mx ≤ 131072) (ha : AllLe mx l) (hf : fine c u l mx l.length) :
    AM Try.prog 89 [V.ints l, FStep u 500, FIn mx] [PB 501, St c [] [] 0] (.tup [.own 0, .i 0]) [none, none] [.row 2 1 l.length fun k => [.i (gi (resL c u l) k)]] := by
  refine am_intro hTT hMX (fn := Try.f89) (N := _) ⟨Try.func89, rfl, Try.ntmps89, by kernel_rfl⟩ (by simp) rfl (by simp) (by simp) fun C hF => ?_
  refine aw_seq_k fun K hK => ?_
  refine w_region (n' := 2) (by kernel_rfl) (by kernel_rfl) ?_
  refine aops_n hTT (M := []) (n := 2) [pv (6 : Nat) V.nil, pv (7 : Nat) (V.i (0 : Int))] (by kernel_rfl) (by kernel_rfl) True.intro ?_
  refine aops_nil ?_
  refine xt_n ?_
  refine hK _ ?_
  clear hK K
  refine aw_seq_k fun K hK => ?_
  refine w_region (n' := 3) (by kernel_rfl) (by kernel_rfl) ?_
  refine aops_n hTT (M := []) (n := 4) [pv (12 : Nat) (V.sl (1 : Nat) (List.length l) fun (k : Nat) => [V.i (gi l k)]), pv (13 : Nat) (V.i (↑(List.length l) : Int)), PR.mk (some (14 : Nat)) (some ((0 : Int) ≤ (0 : Int) ∧ (0 : Int) ≤ (↑(List.length l) : Int) ∧ (↑(List.length l) : Int) ≤ (1099511627776 : Int))) (V.own (200014 : Nat)) [((200014 : Nat), some (Ob.row (2 : Nat) (1 : Nat) (0 : Nat) fun (x : Nat) => [V.c (Value.int IntKind.i64 (0 : Int))]))] false, pv (8 : Nat) (V.own (200014 : Nat))] (by kernel_rfl) (by kernel_rfl) ⟨⟨(by omega), (by omega)⟩, True.intro⟩ ?_
  refine aops_nil ?_
  refine xt_n ?_
  refine hK _ ?_
  clear hK K
  refine aw_seq_k fun K hK => ?_
  refine aw_seq_k fun K hK => ?_
  refine w_region (n' := 4) (by kernel_rfl) (by kernel_rfl) ?_
  refine aops_n hTT (M := []) (n := 3) [pv (15 : Nat) (V.sl (1 : Nat) (List.length l) fun (k : Nat) => [V.i (gi l k)]), pv (16 : Nat) (V.i (↑(List.length l) : Int)), pv (17 : Nat) (V.i (0 : Int))] (by kernel_rfl) (by kernel_rfl) True.intro ?_
  refine aops_nil ?_
  refine xt_n ?_
  refine hK _ ?_
  clear hK K
  refine aw_block ?_
  refine w_loop (ι := Nat) (fun k => [(1, FStep u 500), (2, FIn mx), (8, .own 8), (15, V.ints l), (16, .i l.length), (17, .i k)])
    (fun k => [(500, PB 501), (501, St c (hist c u l k).2 (hist c u l k).1 (k % 8)), (8, .row 2 1 k fun j => [.i (gi (resL c u l) j)])]) (fun k => k ≤ l.length ∧ fine c u l mx k) (fun k => l.length - k) 0 ⟨Nat.zero_le _, fun j hj => by omega⟩ ?_ ?_
  · refine le_ren (tl := [(1, V.fn (Fn.func (105 : Nat)) [] [V.ptr [V.b u], V.ref (500 : Nat) (0 : Nat)]), (2, V.fn (Fn.func (108 : Nat)) [] [V.ptr [V.i mx]]), (8, V.own (8 : Nat)), (15, V.sl (1 : Nat) (List.length l) fun (k : Nat) => [V.i (gi l k)]), (16, V.i (↑(List.length l) : Int)), (17, V.i (0 : Int))]) (sl := [(500, Ob.box (108 : Nat) [V.ref (501 : Nat) (0 : Nat)]), (501, Ob.box (113 : Nat) [V.i (gi (Prod.snd (hist c u l (0 : Nat))) (((0 : Nat) % (8 : Nat) + (7 : Nat)) % (8 : Nat))), V.i (gi (Prod.snd (hist c u l (0 : Nat))) (((0 : Nat) % (8 : Nat) + (6 : Nat)) % (8 : Nat))), V.i (gi (Prod.snd (hist c u l (0 : Nat))) (((0 : Nat) % (8 : Nat) + (5 : Nat)) % (8 : Nat))), V.i (gi (Prod.snd (hist c u l (0 : Nat))) (((0 : Nat) % (8 : Nat) + (4 : Nat)) % (8 : Nat))), V.i (gi (Prod.snd (hist c u l (0 : Nat))) (((0 : Nat) % (8 : Nat) + (3 : Nat)) % (8 : Nat))), V.i (gi (Prod.snd (hist c u l (0 : Nat))) (((0 : Nat) % (8 : Nat) + (2 : Nat)) % (8 : Nat))), V.i (gi (Prod.snd (hist c u l (0 : Nat))) (((0 : Nat) % (8 : Nat) + (1 : Nat)) % (8 : Nat))), V.i (gi (Prod.snd (hist c u l (0 : Nat))) ((0 : Nat) % (8 : Nat) % (8 : Nat))), V.i (0 : Int), V.i (gi (Prod.fst (hist c u l (0 : Nat))) (((0 : Nat) % (8 : Nat) + (7 : Nat)) % (8 : Nat))), V.i (gi (Prod.fst (hist c u l (0 : Nat))) (((0 : Nat) % (8 : Nat) + (6 : Nat)) % (8 : Nat))), V.i (gi (Prod.fst (hist c u l (0 : Nat))) (((0 : Nat) % (8 : Nat) + (5 : Nat)) % (8 : Nat))), V.i (gi (Prod.fst (hist c u l (0 : Nat))) (((0 : Nat) % (8 : Nat) + (4 : Nat)) % (8 : Nat))), V.i (gi (Prod.fst (hist c u l (0 : Nat))) (((0 : Nat) % (8 : Nat) + (3 : Nat)) % (8 : Nat))), V.i (gi (Prod.fst (hist c u l (0 : Nat))) (((0 : Nat) % (8 : Nat) + (2 : Nat)) % (8 : Nat))), V.i (gi (Prod.fst (hist c u l (0 : Nat))) (((0 : Nat) % (8 : Nat) + (1 : Nat)) % (8 : Nat))), V.i (gi (Prod.fst (hist c u l (0 : Nat))) ((0 : Nat) % (8 : Nat) % (8 : Nat))), V.i (0 : Int), V.sl (1 : Nat) (List.length (Cv.feed c)) fun (k : Nat) => [V.i (gi (Cv.feed c) k)], V.sl (1 : Nat) (List.length (Cv.back c)) fun (k : Nat) => [V.i (gi (Cv.back c) k)], V.i (Cv.share c)]), (8, Ob.row (2 : Nat) (1 : Nat) (0 : Nat) fun (j : Nat) => [V.i (gi (resL c u l) j)])]) [(8, 200014)] (.cons (by kernel_rfl) (.cons (by kernel_rfl) (.cons (by kernel_rfl) (.cons (by kernel_rfl) (.cons (by kernel_rfl) (.cons (by kernel_rfl) .nil)))))) (.cons ⟨Ob.box (108 : Nat) [V.ref (501 : Nat) (0 : Nat)], (by kernel_rfl), .box (by kernel_rfl)⟩ (.cons ⟨Ob.box (113 : Nat) [V.i (gi [] (((0 : Nat) + (7 : Nat)) % (8 : Nat))), V.i (gi [] (((0 : Nat) + (6 : Nat)) % (8 : Nat))), V.i (gi [] (((0 : Nat) + (5 : Nat)) % (8 : Nat))), V.i (gi [] (((0 : Nat) + (4 : Nat)) % (8 : Nat))), V.i (gi [] (((0 : Nat) + (3 : Nat)) % (8 : Nat))), V.i (gi [] (((0 : Nat) + (2 : Nat)) % (8 : Nat))), V.i (gi [] (((0 : Nat) + (1 : Nat)) % (8 : Nat))), V.i (gi [] ((0 : Nat) % (8 : Nat))), V.i (0 : Int), V.i (gi [] (((0 : Nat) + (7 : Nat)) % (8 : Nat))), V.i (gi [] (((0 : Nat) + (6 : Nat)) % (8 : Nat))), V.i (gi [] (((0 : Nat) + (5 : Nat)) % (8 : Nat))), V.i (gi [] (((0 : Nat) + (4 : Nat)) % (8 : Nat))), V.i (gi [] (((0 : Nat) + (3 : Nat)) % (8 : Nat))), V.i (gi [] (((0 : Nat) + (2 : Nat)) % (8 : Nat))), V.i (gi [] (((0 : Nat) + (1 : Nat)) % (8 : Nat))), V.i (gi [] ((0 : Nat) % (8 : Nat))), V.i (0 : Int), V.sl (1 : Nat) (List.length (Cv.feed c)) fun (k : Nat) => [V.i (gi (Cv.feed c) k)], V.sl (1 : Nat) (List.length (Cv.back c)) fun (k : Nat) => [V.i (gi (Cv.back c) k)], V.i (Cv.share c)], (by kernel_rfl), .box (by kernel_rfl)⟩ (.cons ⟨Ob.row (2 : Nat) (1 : Nat) (0 : Nat) fun (x : Nat) => [V.c (Value.int IntKind.i64 (0 : Int))], (by kernel_rfl), .row (by kernel_rfl) ?_⟩ .nil))) (by kernel_rfl) (by kernel_rfl)
    intro i hi
    omega
  rintro k ⟨hk, hfk⟩
  refine aw_seq_k fun K hK => ?_
  refine w_region (n' := 2) (by kernel_rfl) (by kernel_rfl) ?_
  refine aops_n hTT (M := []) (n := 1) [pv (18 : Nat) (V.b (decide ((↑k : Int) < (↑(List.length l) : Int))))] (by kernel_rfl) (by kernel_rfl) True.intro ?_
  refine aops_nil ?_
  refine xt_n ?_
  refine hK _ ?_
  clear hK K
  refine aw_seq_k fun K hK => ?_
  refine w_cond (t := decide ((↑k : Int) < (↑(List.length l) : Int))) (by kernel_rfl) (fun c1 => ?_) (fun c1 => ?_)
  · simp at c1
    refine aw_skip ?_
    refine xt_n ?_
    refine hK _ ?_
    clear hK K
    refine aw_seq_k fun K hK => ?_
    refine aw_block ?_
    refine aw_seq_k fun K hK => ?_
    refine w_region (n' := 3) (by kernel_rfl) (by kernel_rfl) ?_
    refine aops_n hTT (M := []) (n := 3) [pc (19 : Nat) ((0 : Int) ≤ (↑k : Int) ∧ (↑k : Int) < (↑(List.length l) : Int)) (V.ptr [V.i (gi l k)]), pv (20 : Nat) (V.i (gi l k)), pv (10 : Nat) (V.i (gi l k))] (by kernel_rfl) (by kernel_rfl) ⟨(by omega), True.intro⟩ ?_
    refine aops_nil ?_
    refine xt_n ?_
    refine hK _ ?_
    clear hK K
    refine aw_seq_k fun K hK => ?_
    refine w_region (n' := 4) (by kernel_rfl) (by kernel_rfl) ?_
    refine aops_n hTT (M := []) (n := 2) [pv (21 : Nat) (V.fn (Fn.func (105 : Nat)) [] [V.ptr [V.b u], V.ref (500 : Nat) (0 : Nat)]), pv (22 : Nat) (V.i (gi l k))] (by kernel_rfl) (by kernel_rfl) True.intro ?_
    refine aops_callM [500, 501] (first := []) (caps := [V.ptr [V.b u], V.ref (500 : Nat) (0 : Nat)]) (ins' := [Ob.box (108 : Nat) [V.ref (501 : Nat) (0 : Nat)], Ob.box (113 : Nat) [V.i (gi (Prod.snd (hist c u l k)) ((k % (8 : Nat) + (7 : Nat)) % (8 : Nat))), V.i (gi (Prod.snd (hist c u l k)) ((k % (8 : Nat) + (6 : Nat)) % (8 : Nat))), V.i (gi (Prod.snd (hist c u l k)) ((k % (8 : Nat) + (5 : Nat)) % (8 : Nat))), V.i (gi (Prod.snd (hist c u l k)) ((k % (8 : Nat) + (4 : Nat)) % (8 : Nat))), V.i (gi (Prod.snd (hist c u l k)) ((k % (8 : Nat) + (3 : Nat)) % (8 : Nat))), V.i (gi (Prod.snd (hist c u l k)) ((k % (8 : Nat) + (2 : Nat)) % (8 : Nat))), V.i (gi (Prod.snd (hist c u l k)) ((k % (8 : Nat) + (1 : Nat)) % (8 : Nat))), V.i (gi (Prod.snd (hist c u l k)) (k % (8 : Nat) % (8 : Nat))), V.i (↑(k % (8 : Nat)) : Int), V.i (gi (Prod.fst (hist c u l k)) ((k % (8 : Nat) + (7 : Nat)) % (8 : Nat))), V.i (gi (Prod.fst (hist c u l k)) ((k % (8 : Nat) + (6 : Nat)) % (8 : Nat))), V.i (gi (Prod.fst (hist c u l k)) ((k % (8 : Nat) + (5 : Nat)) % (8 : Nat))), V.i (gi (Prod.fst (hist c u l k)) ((k % (8 : Nat) + (4 : Nat)) % (8 : Nat))), V.i (gi (Prod.fst (hist c u l k)) ((k % (8 : Nat) + (3 : Nat)) % (8 : Nat))), V.i (gi (Prod.fst (hist c u l k)) ((k % (8 : Nat) + (2 : Nat)) % (8 : Nat))), V.i (gi (Prod.fst (hist c u l k)) ((k % (8 : Nat) + (1 : Nat)) % (8 : Nat))), V.i (gi (Prod.fst (hist c u l k)) (k % (8 : Nat) % (8 : Nat))), V.i (↑(k % (8 : Nat)) : Int), V.sl (1 : Nat) (List.length (Cv.feed c)) fun (k : Nat) => [V.i (gi (Cv.feed c) k)], V.sl (1 : Nat) (List.length (Cv.back c)) fun (k : Nat) => [V.i (gi (Cv.back c) k)], V.i (Cv.share c)]]) (v' := V.i (outK c u l k)) (δ := [(500, Option.some (Ob.box (108 : Nat) [V.ref (501 : Nat) (0 : Nat)])), (501, Option.some (Ob.box (113 : Nat) [V.i (gi (Prod.snd (hist c u l (k + (1 : Nat)))) (((k + (1 : Nat)) % (8 : Nat) + (7 : Nat)) % (8 : Nat))), V.i (gi (Prod.snd (hist c u l (k + (1 : Nat)))) (((k + (1 : Nat)) % (8 : Nat) + (6 : Nat)) % (8 : Nat))), V.i (gi (Prod.snd (hist c u l (k + (1 : Nat)))) (((k + (1 : Nat)) % (8 : Nat) + (5 : Nat)) % (8 : Nat))), V.i (gi (Prod.snd (hist c u l (k + (1 : Nat)))) (((k + (1 : Nat)) % (8 : Nat) + (4 : Nat)) % (8 : Nat))), V.i (gi (Prod.snd (hist c u l (k + (1 : Nat)))) (((k + (1 : Nat)) % (8 : Nat) + (3 : Nat)) % (8 : Nat))), V.i (gi (Prod.snd (hist c u l (k + (1 : Nat)))) (((k + (1 : Nat)) % (8 : Nat) + (2 : Nat)) % (8 : Nat))), V.i (gi (Prod.snd (hist c u l (k + (1 : Nat)))) (((k + (1 : Nat)) % (8 : Nat) + (1 : Nat)) % (8 : Nat))), V.i (gi (Prod.snd (hist c u l (k + (1 : Nat)))) ((k + (1 : Nat)) % (8 : Nat) % (8 : Nat))), V.i (↑((k + (1 : Nat)) % (8 : Nat)) : Int), V.i (gi (Prod.fst (hist c u l (k + (1 : Nat)))) (((k + (1 : Nat)) % (8 : Nat) + (7 : Nat)) % (8 : Nat))), V.i (gi (Prod.fst (hist c u l (k + (1 : Nat)))) (((k + (1 : Nat)) % (8 : Nat) + (6 : Nat)) % (8 : Nat))), V.i (gi (Prod.fst (hist c u l (k + (1 : Nat)))) (((k + (1 : Nat)) % (8 : Nat) + (5 : Nat)) % (8 : Nat))), V.i (gi (Prod.fst (hist c u l (k + (1 : Nat)))) (((k + (1 : Nat)) % (8 : Nat) + (4 : Nat)) % (8 : Nat))), V.i (gi (Prod.fst (hist c u l (k + (1 : Nat)))) (((k + (1 : Nat)) % (8 : Nat) + (3 : Nat)) % (8 : Nat))), V.i (gi (Prod.fst (hist c u l (k + (1 : Nat)))) (((k + (1 : Nat)) % (8 : Nat) + (2 : Nat)) % (8 : Nat))), V.i (gi (Prod.fst (hist c u l (k + (1 : Nat)))) (((k + (1 : Nat)) % (8 : Nat) + (1 : Nat)) % (8 : Nat))), V.i (gi (Prod.fst (hist c u l (k + (1 : Nat)))) ((k + (1 : Nat)) % (8 : Nat) % (8 : Nat))), V.i (↑((k + (1 : Nat)) % (8 : Nat)) : Int), V.sl (1 : Nat) (List.length (Cv.feed c)) fun (k : Nat) => [V.i (gi (Cv.feed c) k)], V.sl (1 : Nat) (List.length (Cv.back c)) fun (k : Nat) => [V.i (gi (Cv.back c) k)], V.i (Cv.share c)]))]) (kp := [500, 501]) (step1_hist c u l k mx hc hm ha hfk) (by kernel_rfl) (by kernel_rfl) (by kernel_rfl) (by kernel_rfl) (by kernel_rfl) (by kernel_rfl) rfl rfl (by kernel_rfl) (.box (by kernel_rfl) (by kernel_rfl) (.box (by kernel_rfl) (by kernel_rfl) .nil)) (by kernel_rfl) (by kernel_rfl) (by kernel_rfl) ?_
    refine aops_n hTT (M := []) (n := 1) [pv (11 : Nat) (V.i (outK c u l k))] (by kernel_rfl) (by kernel_rfl) True.intro ?_
    refine aops_nil ?_
    refine xt_n ?_
    refine hK _ ?_
    clear hK K
    refine aw_seq_k fun K hK => ?_
    refine aw_seq_k fun K hK => ?_
    refine w_region (n' := 5) (by kernel_rfl) (by kernel_rfl) ?_
    refine aops_n hTT (M := []) (n := 2) [pv (24 : Nat) (V.fn (Fn.func (108 : Nat)) [] [V.ptr [V.i mx]]), pv (25 : Nat) (V.i (outK c u l k))] (by kernel_rfl) (by kernel_rfl) True.intro ?_
    refine e_call (first := []) (caps := [V.ptr [V.i mx]]) (within1_ac (outK c u l k) mx (by omega)) (by kernel_rfl) (by kernel_rfl) (by kernel_rfl) (by kernel_rfl) (by kernel_rfl) ?_
    refine aops_n hTT (M := []) (n := 1) [pv (27 : Nat) (V.b !!bey (outK c u l k) mx)] (by kernel_rfl) (by kernel_rfl) True.intro ?_
    refine aops_nil ?_
    refine xt_n ?_
    refine hK _ ?_
    clear hK K
    refine w_cond (t := !!bey (outK c u l k) mx) (by kernel_rfl) (fun c2 => ?_) (fun c2 => ?_)
    · simp at c2
      rw [hf k c1] at c2
      cases c2
    simp at c2
    refine aw_skip ?_
    refine xt_n ?_
    refine hK _ ?_
    clear hK K
    refine w_region (n' := 6) (by kernel_rfl) (by kernel_rfl) ?_
    refine aops_n hTT (M := []) (n := 5) [pv (28 : Nat) (V.own (8 : Nat)), pv (29 : Nat) (V.i (outK c u l k)), pv (30 : Nat) (V.sl (1 : Nat) (1 : Nat) fun (i : Nat) => List.take (1 : Nat) (List.drop (i * (1 : Nat)) [V.i (outK c u l k)])), PR.mk (some (31 : Nat)) (some (k + (1 : Nat) ≤ (1099511627776 : Nat))) (V.own (500031 : Nat)) [((8 : Nat), none), ((500031 : Nat), some (Ob.row (2 : Nat) (1 : Nat) (k + (1 : Nat)) (appRow k (fun (j : Nat) => [V.i (gi (resL c u l) j)]) fun (i : Nat) => List.take (1 : Nat) (List.drop (i * (1 : Nat)) [V.i (outK c u l k)]))))] false, pv (8 : Nat) (V.own (500031 : Nat))] (by kernel_rfl) (by kernel_rfl) ⟨(by omega), True.intro⟩ ?_
    refine aops_nil ?_
    refine xb_n ?_
    refine xt_n ?_
    refine hK _ ?_
    clear hK K
    refine w_region (n' := 7) (by kernel_rfl) (by kernel_rfl) ?_
    refine aops_n hTT (M := []) (n := 2) [pc (32 : Nat) ((-9223372036854775808 : Int) ≤ (↑k : Int) + (1 : Int) ∧ (↑k : Int) + (1 : Int) ≤ (9223372036854775807 : Int)) (V.i ((↑k : Int) + (1 : Int))), pv (17 : Nat) (V.i ((↑k : Int) + (1 : Int)))] (by kernel_rfl) (by kernel_rfl) ⟨(by omega), True.intro⟩ ?_
    refine aops_nil ?_
    refine xt_n ?_
    refine ⟨k + 1, ⟨by omega, fun i hi => ?_⟩, ?_, by omega⟩
    · by_cases h : i < k
      · exact hfk i h
      · obtain rfl : i = k := by omega
        exact c2
    refine le_ren (tl := [(1, V.fn (Fn.func (105 : Nat)) [] [V.ptr [V.b u], V.ref (500 : Nat) (0 : Nat)]), (2, V.fn (Fn.func (108 : Nat)) [] [V.ptr [V.i mx]]), (8, V.own (8 : Nat)), (15, V.sl (1 : Nat) (List.length l) fun (k : Nat) => [V.i (gi l k)]), (16, V.i (↑(List.length l) : Int)), (17, V.i (↑(k + (1 : Nat)) : Int))]) (sl := [(500, Ob.box (108 : Nat) [V.ref (501 : Nat) (0 : Nat)]), (501, Ob.box (113 : Nat) [V.i (gi (Prod.snd (hist c u l (k + (1 : Nat)))) (((k + (1 : Nat)) % (8 : Nat) + (7 : Nat)) % (8 : Nat))), V.i (gi (Prod.snd (hist c u l (k + (1 : Nat)))) (((k + (1 : Nat)) % (8 : Nat) + (6 : Nat)) % (8 : Nat))), V.i (gi (Prod.snd (hist c u l (k + (1 : Nat)))) (((k + (1 : Nat)) % (8 : Nat) + (5 : Nat)) % (8 : Nat))), V.i (gi (Prod.snd (hist c u l (k + (1 : Nat)))) (((k + (1 : Nat)) % (8 : Nat) + (4 : Nat)) % (8 : Nat))), V.i (gi (Prod.snd (hist c u l (k + (1 : Nat)))) (((k + (1 : Nat)) % (8 : Nat) + (3 : Nat)) % (8 : Nat))), V.i (gi (Prod.snd (hist c u l (k + (1 : Nat)))) (((k + (1 : Nat)) % (8 : Nat) + (2 : Nat)) % (8 : Nat))), V.i (gi (Prod.snd (hist c u l (k + (1 : Nat)))) (((k + (1 : Nat)) % (8 : Nat) + (1 : Nat)) % (8 : Nat))), V.i (gi (Prod.snd (hist c u l (k + (1 : Nat)))) ((k + (1 : Nat)) % (8 : Nat) % (8 : Nat))), V.i (↑((k + (1 : Nat)) % (8 : Nat)) : Int), V.i (gi (Prod.fst (hist c u l (k + (1 : Nat)))) (((k + (1 : Nat)) % (8 : Nat) + (7 : Nat)) % (8 : Nat))), V.i (gi (Prod.fst (hist c u l (k + (1 : Nat)))) (((k + (1 : Nat)) % (8 : Nat) + (6 : Nat)) % (8 : Nat))), V.i (gi (Prod.fst (hist c u l (k + (1 : Nat)))) (((k + (1 : Nat)) % (8 : Nat) + (5 : Nat)) % (8 : Nat))), V.i (gi (Prod.fst (hist c u l (k + (1 : Nat)))) (((k + (1 : Nat)) % (8 : Nat) + (4 : Nat)) % (8 : Nat))), V.i (gi (Prod.fst (hist c u l (k + (1 : Nat)))) (((k + (1 : Nat)) % (8 : Nat) + (3 : Nat)) % (8 : Nat))), V.i (gi (Prod.fst (hist c u l (k + (1 : Nat)))) (((k + (1 : Nat)) % (8 : Nat) + (2 : Nat)) % (8 : Nat))), V.i (gi (Prod.fst (hist c u l (k + (1 : Nat)))) (((k + (1 : Nat)) % (8 : Nat) + (1 : Nat)) % (8 : Nat))), V.i (gi (Prod.fst (hist c u l (k + (1 : Nat)))) ((k + (1 : Nat)) % (8 : Nat) % (8 : Nat))), V.i (↑((k + (1 : Nat)) % (8 : Nat)) : Int), V.sl (1 : Nat) (List.length (Cv.feed c)) fun (k : Nat) => [V.i (gi (Cv.feed c) k)], V.sl (1 : Nat) (List.length (Cv.back c)) fun (k : Nat) => [V.i (gi (Cv.back c) k)], V.i (Cv.share c)]), (8, Ob.row (2 : Nat) (1 : Nat) (k + (1 : Nat)) fun (j : Nat) => [V.i (gi (resL c u l) j)])]) [(8, 500031)] (.cons (by kernel_rfl) (.cons (by kernel_rfl) (.cons (by kernel_rfl) (.cons (by kernel_rfl) (.cons (by kernel_rfl) (.cons (by kernel_rfl) .nil)))))) (.cons ⟨Ob.box (108 : Nat) [V.ref (501 : Nat) (0 : Nat)], (by kernel_rfl), .box (by kernel_rfl)⟩ (.cons ⟨Ob.box (113 : Nat) [V.i (gi (Prod.snd (hist c u l (k + (1 : Nat)))) (((k + (1 : Nat)) % (8 : Nat) + (7 : Nat)) % (8 : Nat))), V.i (gi (Prod.snd (hist c u l (k + (1 : Nat)))) (((k + (1 : Nat)) % (8 : Nat) + (6 : Nat)) % (8 : Nat))), V.i (gi (Prod.snd (hist c u l (k + (1 : Nat)))) (((k + (1 : Nat)) % (8 : Nat) + (5 : Nat)) % (8 : Nat))), V.i (gi (Prod.snd (hist c u l (k + (1 : Nat)))) (((k + (1 : Nat)) % (8 : Nat) + (4 : Nat)) % (8 : Nat))), V.i (gi (Prod.snd (hist c u l (k + (1 : Nat)))) (((k + (1 : Nat)) % (8 : Nat) + (3 : Nat)) % (8 : Nat))), V.i (gi (Prod.snd (hist c u l (k + (1 : Nat)))) (((k + (1 : Nat)) % (8 : Nat) + (2 : Nat)) % (8 : Nat))), V.i (gi (Prod.snd (hist c u l (k + (1 : Nat)))) (((k + (1 : Nat)) % (8 : Nat) + (1 : Nat)) % (8 : Nat))), V.i (gi (Prod.snd (hist c u l (k + (1 : Nat)))) ((k + (1 : Nat)) % (8 : Nat) % (8 : Nat))), V.i (↑((k + (1 : Nat)) % (8 : Nat)) : Int), V.i (gi (Prod.fst (hist c u l (k + (1 : Nat)))) (((k + (1 : Nat)) % (8 : Nat) + (7 : Nat)) % (8 : Nat))), V.i (gi (Prod.fst (hist c u l (k + (1 : Nat)))) (((k + (1 : Nat)) % (8 : Nat) + (6 : Nat)) % (8 : Nat))), V.i (gi (Prod.fst (hist c u l (k + (1 : Nat)))) (((k + (1 : Nat)) % (8 : Nat) + (5 : Nat)) % (8 : Nat))), V.i (gi (Prod.fst (hist c u l (k + (1 : Nat)))) (((k + (1 : Nat)) % (8 : Nat) + (4 : Nat)) % (8 : Nat))), V.i (gi (Prod.fst (hist c u l (k + (1 : Nat)))) (((k + (1 : Nat)) % (8 : Nat) + (3 : Nat)) % (8 : Nat))), V.i (gi (Prod.fst (hist c u l (k + (1 : Nat)))) (((k + (1 : Nat)) % (8 : Nat) + (2 : Nat)) % (8 : Nat))), V.i (gi (Prod.fst (hist c u l (k + (1 : Nat)))) (((k + (1 : Nat)) % (8 : Nat) + (1 : Nat)) % (8 : Nat))), V.i (gi (Prod.fst (hist c u l (k + (1 : Nat)))) ((k + (1 : Nat)) % (8 : Nat) % (8 : Nat))), V.i (↑((k + (1 : Nat)) % (8 : Nat)) : Int), V.sl (1 : Nat) (List.length (Cv.feed c)) fun (k : Nat) => [V.i (gi (Cv.feed c) k)], V.sl (1 : Nat) (List.length (Cv.back c)) fun (k : Nat) => [V.i (gi (Cv.back c) k)], V.i (Cv.share c)], (by kernel_rfl), .box (by kernel_rfl)⟩ (.cons ⟨Ob.row (2 : Nat) (1 : Nat) (k + (1 : Nat)) (appRow k (fun (j : Nat) => [V.i (gi (resL c u l) j)]) fun (i : Nat) => List.take (1 : Nat) (List.drop (i * (1 : Nat)) [V.i (outK c u l k)])), (by kernel_rfl), .row (by kernel_rfl) ?_⟩ .nil))) (by kernel_rfl) (by kernel_rfl)
    intro i hi
    by_cases h : i < k
    · rw [appRow, if_pos h]
      rfl
    · obtain rfl : i = k := by omega
      rw [appRow, if_neg h, Nat.sub_self]
      show _ = [V.i (gi (resL c u l) i)]
      rw [resL_gi c1]
      rfl
  · simp at c1
    obtain rfl : k = l.length := by omega
    refine aw_exit ?_
    refine xt_x ?_
    refine xt_x ?_
    refine xb_same ?_
    refine xt_n ?_
    clear hK K
    refine hK _ ?_
    clear hK K
    refine aw_seq_k fun K hK => ?_
    refine w_region (n' := 3) (by kernel_rfl) (by kernel_rfl) ?_
    refine aops_n hTT (M := []) (n := 3) [pv (33 : Nat) (V.own (8 : Nat)), pv (6 : Nat) (V.own (8 : Nat)), pv (7 : Nat) (V.i (0 : Int))] (by kernel_rfl) (by kernel_rfl) True.intro ?_
    refine aops_nil ?_
    refine xt_n ?_
    refine hK _ ?_
    clear hK K
    refine aw_ret ?_
    refine retM (v' := V.tup [V.own (0 : Nat), V.i (0 : Int)]) [(0, 8)] [(6, V.own (0 : Nat)), (7, V.i (0 : Int))] (.inr rfl) (.cons (by kernel_rfl) (.cons (by kernel_rfl) .nil)) (.cons ⟨Ob.row (2 : Nat) (1 : Nat) (List.length l) fun (j : Nat) => [V.i (gi (resL c u l) j)], (by kernel_rfl), .row (by kernel_rfl) (fun _ _ => rfl)⟩ .nil) (by kernel_rfl) (by kernel_rfl) (by kernel_rfl) (by kernel_rfl) (by kernel_rfl) (by kernel_rfl) (by kernel_rfl)
set_option maxRecDepth 100000 in
theorem each_no (c : Cv) (u : Bool) (l : List Int) (mx : Int) (hc : cvOk c) (hl : l.length ≤ 8192) (hm : 0 ≤ mx ∧ mx ≤ 131072) (ha : AllLe mx l) {j : Nat} (hj : j < l.length) (hb : bey (outK c u l j) mx = true) :
    AM Try.prog 89 [V.ints l, FStep u 500, FIn mx] [PB 501, St c [] [] 0] (.tup [.nil, .i 4]) [none, none] [] := by
  refine am_intro hTT hMX (fn := Try.f89) (N := _) ⟨Try.func89, rfl, Try.ntmps89, by kernel_rfl⟩ (by simp) rfl (by simp) (by simp) fun C hF => ?_
  refine aw_seq_k fun K hK => ?_
  refine w_region (n' := 2) (by kernel_rfl) (by kernel_rfl) ?_
  refine aops_n hTT (M := []) (n := 2) [pv (6 : Nat) V.nil, pv (7 : Nat) (V.i (0 : Int))] (by kernel_rfl) (by kernel_rfl) True.intro ?_
  refine aops_nil ?_
  refine xt_n ?_
  refine hK _ ?_
  clear hK K
  refine aw_seq_k fun K hK => ?_
  refine w_region (n' := 3) (by kernel_rfl) (by kernel_rfl) ?_
  refine aops_n hTT (M := []) (n := 4) [pv (12 : Nat) (V.sl (1 : Nat) (List.length l) fun (k : Nat) => [V.i (gi l k)]), pv (13 : Nat) (V.i (↑(List.length l) : Int)), PR.mk (some (14 : Nat)) (some ((0 : Int) ≤ (0 : Int) ∧ (0 : Int) ≤ (↑(List.length l) : Int) ∧ (↑(List.length l) : Int) ≤ (1099511627776 : Int))) (V.own (200014 : Nat)) [((200014 : Nat), some (Ob.row (2 : Nat) (1 : Nat) (0 : Nat) fun (x : Nat) => [V.c (Value.int IntKind.i64 (0 : Int))]))] false, pv (8 : Nat) (V.own (200014 : Nat))] (by kernel_rfl) (by kernel_rfl) ⟨⟨(by omega), (by omega)⟩, True.intro⟩ ?_
  refine aops_nil ?_
  refine xt_n ?_
  refine hK _ ?_
  clear hK K
  refine aw_seq_k fun K hK => ?_
  refine aw_seq_k fun K hK => ?_
  refine w_region (n' := 4) (by kernel_rfl) (by kernel_rfl) ?_
  refine aops_n hTT (M := []) (n := 3) [pv (15 : Nat) (V.sl (1 : Nat) (List.length l) fun (k : Nat) => [V.i (gi l k)]), pv (16 : Nat) (V.i (↑(List.length l) : Int)), pv (17 : Nat) (V.i (0 : Int))] (by kernel_rfl) (by kernel_rfl) True.intro ?_
  refine aops_nil ?_
  refine xt_n ?_
  refine hK _ ?_
  clear hK K
  refine aw_block ?_
  refine w_loop (ι := Nat) (fun k => [(1, FStep u 500), (2, FIn mx), (8, .own 8), (15, V.ints l), (16, .i l.length), (17, .i k)])
    (fun k => [(500, PB 501), (501, St c (hist c u l k).2 (hist c u l k).1 (k % 8)), (8, .row 2 1 k fun j => [.i (gi (resL c u l) j)])]) (fun k => k ≤ l.length ∧ fine c u l mx k) (fun k => l.length - k) 0 ⟨Nat.zero_le _, fun j hj => by omega⟩ ?_ ?_
  · refine le_ren (tl := [(1, V.fn (Fn.func (105 : Nat)) [] [V.ptr [V.b u], V.ref (500 : Nat) (0 : Nat)]), (2, V.fn (Fn.func (108 : Nat)) [] [V.ptr [V.i mx]]), (8, V.own (8 : Nat)), (15, V.sl (1 : Nat) (List.length l) fun (k : Nat) => [V.i (gi l k)]), (16, V.i (↑(List.length l) : Int)), (17, V.i (0 : Int))]) (sl := [(500, Ob.box (108 : Nat) [V.ref (501 : Nat) (0 : Nat)]), (501, Ob.box (113 : Nat) [V.i (gi (Prod.snd (hist c u l (0 : Nat))) (((0 : Nat) % (8 : Nat) + (7 : Nat)) % (8 : Nat))), V.i (gi (Prod.snd (hist c u l (0 : Nat))) (((0 : Nat) % (8 : Nat) + (6 : Nat)) % (8 : Nat))), V.i (gi (Prod.snd (hist c u l (0 : Nat))) (((0 : Nat) % (8 : Nat) + (5 : Nat)) % (8 : Nat))), V.i (gi (Prod.snd (hist c u l (0 : Nat))) (((0 : Nat) % (8 : Nat) + (4 : Nat)) % (8 : Nat))), V.i (gi (Prod.snd (hist c u l (0 : Nat))) (((0 : Nat) % (8 : Nat) + (3 : Nat)) % (8 : Nat))), V.i (gi (Prod.snd (hist c u l (0 : Nat))) (((0 : Nat) % (8 : Nat) + (2 : Nat)) % (8 : Nat))), V.i (gi (Prod.snd (hist c u l (0 : Nat))) (((0 : Nat) % (8 : Nat) + (1 : Nat)) % (8 : Nat))), V.i (gi (Prod.snd (hist c u l (0 : Nat))) ((0 : Nat) % (8 : Nat) % (8 : Nat))), V.i (0 : Int), V.i (gi (Prod.fst (hist c u l (0 : Nat))) (((0 : Nat) % (8 : Nat) + (7 : Nat)) % (8 : Nat))), V.i (gi (Prod.fst (hist c u l (0 : Nat))) (((0 : Nat) % (8 : Nat) + (6 : Nat)) % (8 : Nat))), V.i (gi (Prod.fst (hist c u l (0 : Nat))) (((0 : Nat) % (8 : Nat) + (5 : Nat)) % (8 : Nat))), V.i (gi (Prod.fst (hist c u l (0 : Nat))) (((0 : Nat) % (8 : Nat) + (4 : Nat)) % (8 : Nat))), V.i (gi (Prod.fst (hist c u l (0 : Nat))) (((0 : Nat) % (8 : Nat) + (3 : Nat)) % (8 : Nat))), V.i (gi (Prod.fst (hist c u l (0 : Nat))) (((0 : Nat) % (8 : Nat) + (2 : Nat)) % (8 : Nat))), V.i (gi (Prod.fst (hist c u l (0 : Nat))) (((0 : Nat) % (8 : Nat) + (1 : Nat)) % (8 : Nat))), V.i (gi (Prod.fst (hist c u l (0 : Nat))) ((0 : Nat) % (8 : Nat) % (8 : Nat))), V.i (0 : Int), V.sl (1 : Nat) (List.length (Cv.feed c)) fun (k : Nat) => [V.i (gi (Cv.feed c) k)], V.sl (1 : Nat) (List.length (Cv.back c)) fun (k : Nat) => [V.i (gi (Cv.back c) k)], V.i (Cv.share c)]), (8, Ob.row (2 : Nat) (1 : Nat) (0 : Nat) fun (j : Nat) => [V.i (gi (resL c u l) j)])]) [(8, 200014)] (.cons (by kernel_rfl) (.cons (by kernel_rfl) (.cons (by kernel_rfl) (.cons (by kernel_rfl) (.cons (by kernel_rfl) (.cons (by kernel_rfl) .nil)))))) (.cons ⟨Ob.box (108 : Nat) [V.ref (501 : Nat) (0 : Nat)], (by kernel_rfl), .box (by kernel_rfl)⟩ (.cons ⟨Ob.box (113 : Nat) [V.i (gi [] (((0 : Nat) + (7 : Nat)) % (8 : Nat))), V.i (gi [] (((0 : Nat) + (6 : Nat)) % (8 : Nat))), V.i (gi [] (((0 : Nat) + (5 : Nat)) % (8 : Nat))), V.i (gi [] (((0 : Nat) + (4 : Nat)) % (8 : Nat))), V.i (gi [] (((0 : Nat) + (3 : Nat)) % (8 : Nat))), V.i (gi [] (((0 : Nat) + (2 : Nat)) % (8 : Nat))), V.i (gi [] (((0 : Nat) + (1 : Nat)) % (8 : Nat))), V.i (gi [] ((0 : Nat) % (8 : Nat))), V.i (0 : Int), V.i (gi [] (((0 : Nat) + (7 : Nat)) % (8 : Nat))), V.i (gi [] (((0 : Nat) + (6 : Nat)) % (8 : Nat))), V.i (gi [] (((0 : Nat) + (5 : Nat)) % (8 : Nat))), V.i (gi [] (((0 : Nat) + (4 : Nat)) % (8 : Nat))), V.i (gi [] (((0 : Nat) + (3 : Nat)) % (8 : Nat))), V.i (gi [] (((0 : Nat) + (2 : Nat)) % (8 : Nat))), V.i (gi [] (((0 : Nat) + (1 : Nat)) % (8 : Nat))), V.i (gi [] ((0 : Nat) % (8 : Nat))), V.i (0 : Int), V.sl (1 : Nat) (List.length (Cv.feed c)) fun (k : Nat) => [V.i (gi (Cv.feed c) k)], V.sl (1 : Nat) (List.length (Cv.back c)) fun (k : Nat) => [V.i (gi (Cv.back c) k)], V.i (Cv.share c)], (by kernel_rfl), .box (by kernel_rfl)⟩ (.cons ⟨Ob.row (2 : Nat) (1 : Nat) (0 : Nat) fun (x : Nat) => [V.c (Value.int IntKind.i64 (0 : Int))], (by kernel_rfl), .row (by kernel_rfl) ?_⟩ .nil))) (by kernel_rfl) (by kernel_rfl)
    intro i hi
    omega
  rintro k ⟨hk, hfk⟩
  refine aw_seq_k fun K hK => ?_
  refine w_region (n' := 2) (by kernel_rfl) (by kernel_rfl) ?_
  refine aops_n hTT (M := []) (n := 1) [pv (18 : Nat) (V.b (decide ((↑k : Int) < (↑(List.length l) : Int))))] (by kernel_rfl) (by kernel_rfl) True.intro ?_
  refine aops_nil ?_
  refine xt_n ?_
  refine hK _ ?_
  clear hK K
  refine aw_seq_k fun K hK => ?_
  refine w_cond (t := decide ((↑k : Int) < (↑(List.length l) : Int))) (by kernel_rfl) (fun c1 => ?_) (fun c1 => ?_)
  · simp at c1
    refine aw_skip ?_
    refine xt_n ?_
    refine hK _ ?_
    clear hK K
    refine aw_seq_k fun K hK => ?_
    refine aw_block ?_
    refine aw_seq_k fun K hK => ?_
    refine w_region (n' := 3) (by kernel_rfl) (by kernel_rfl) ?_
    refine aops_n hTT (M := []) (n := 3) [pc (19 : Nat) ((0 : Int) ≤ (↑k : Int) ∧ (↑k : Int) < (↑(List.length l) : Int)) (V.ptr [V.i (gi l k)]), pv (20 : Nat) (V.i (gi l k)), pv (10 : Nat) (V.i (gi l k))] (by kernel_rfl) (by kernel_rfl) ⟨(by omega), True.intro⟩ ?_
    refine aops_nil ?_
    refine xt_n ?_
    refine hK _ ?_
    clear hK K
    refine aw_seq_k fun K hK => ?_
    refine w_region (n' := 4) (by kernel_rfl) (by kernel_rfl) ?_
    refine aops_n hTT (M := []) (n := 2) [pv (21 : Nat) (V.fn (Fn.func (105 : Nat)) [] [V.ptr [V.b u], V.ref (500 : Nat) (0 : Nat)]), pv (22 : Nat) (V.i (gi l k))] (by kernel_rfl) (by kernel_rfl) True.intro ?_
    refine aops_callM [500, 501] (first := []) (caps := [V.ptr [V.b u], V.ref (500 : Nat) (0 : Nat)]) (ins' := [Ob.box (108 : Nat) [V.ref (501 : Nat) (0 : Nat)], Ob.box (113 : Nat) [V.i (gi (Prod.snd (hist c u l k)) ((k % (8 : Nat) + (7 : Nat)) % (8 : Nat))), V.i (gi (Prod.snd (hist c u l k)) ((k % (8 : Nat) + (6 : Nat)) % (8 : Nat))), V.i (gi (Prod.snd (hist c u l k)) ((k % (8 : Nat) + (5 : Nat)) % (8 : Nat))), V.i (gi (Prod.snd (hist c u l k)) ((k % (8 : Nat) + (4 : Nat)) % (8 : Nat))), V.i (gi (Prod.snd (hist c u l k)) ((k % (8 : Nat) + (3 : Nat)) % (8 : Nat))), V.i (gi (Prod.snd (hist c u l k)) ((k % (8 : Nat) + (2 : Nat)) % (8 : Nat))), V.i (gi (Prod.snd (hist c u l k)) ((k % (8 : Nat) + (1 : Nat)) % (8 : Nat))), V.i (gi (Prod.snd (hist c u l k)) (k % (8 : Nat) % (8 : Nat))), V.i (↑(k % (8 : Nat)) : Int), V.i (gi (Prod.fst (hist c u l k)) ((k % (8 : Nat) + (7 : Nat)) % (8 : Nat))), V.i (gi (Prod.fst (hist c u l k)) ((k % (8 : Nat) + (6 : Nat)) % (8 : Nat))), V.i (gi (Prod.fst (hist c u l k)) ((k % (8 : Nat) + (5 : Nat)) % (8 : Nat))), V.i (gi (Prod.fst (hist c u l k)) ((k % (8 : Nat) + (4 : Nat)) % (8 : Nat))), V.i (gi (Prod.fst (hist c u l k)) ((k % (8 : Nat) + (3 : Nat)) % (8 : Nat))), V.i (gi (Prod.fst (hist c u l k)) ((k % (8 : Nat) + (2 : Nat)) % (8 : Nat))), V.i (gi (Prod.fst (hist c u l k)) ((k % (8 : Nat) + (1 : Nat)) % (8 : Nat))), V.i (gi (Prod.fst (hist c u l k)) (k % (8 : Nat) % (8 : Nat))), V.i (↑(k % (8 : Nat)) : Int), V.sl (1 : Nat) (List.length (Cv.feed c)) fun (k : Nat) => [V.i (gi (Cv.feed c) k)], V.sl (1 : Nat) (List.length (Cv.back c)) fun (k : Nat) => [V.i (gi (Cv.back c) k)], V.i (Cv.share c)]]) (v' := V.i (outK c u l k)) (δ := [(500, Option.some (Ob.box (108 : Nat) [V.ref (501 : Nat) (0 : Nat)])), (501, Option.some (Ob.box (113 : Nat) [V.i (gi (Prod.snd (hist c u l (k + (1 : Nat)))) (((k + (1 : Nat)) % (8 : Nat) + (7 : Nat)) % (8 : Nat))), V.i (gi (Prod.snd (hist c u l (k + (1 : Nat)))) (((k + (1 : Nat)) % (8 : Nat) + (6 : Nat)) % (8 : Nat))), V.i (gi (Prod.snd (hist c u l (k + (1 : Nat)))) (((k + (1 : Nat)) % (8 : Nat) + (5 : Nat)) % (8 : Nat))), V.i (gi (Prod.snd (hist c u l (k + (1 : Nat)))) (((k + (1 : Nat)) % (8 : Nat) + (4 : Nat)) % (8 : Nat))), V.i (gi (Prod.snd (hist c u l (k + (1 : Nat)))) (((k + (1 : Nat)) % (8 : Nat) + (3 : Nat)) % (8 : Nat))), V.i (gi (Prod.snd (hist c u l (k + (1 : Nat)))) (((k + (1 : Nat)) % (8 : Nat) + (2 : Nat)) % (8 : Nat))), V.i (gi (Prod.snd (hist c u l (k + (1 : Nat)))) (((k + (1 : Nat)) % (8 : Nat) + (1 : Nat)) % (8 : Nat))), V.i (gi (Prod.snd (hist c u l (k + (1 : Nat)))) ((k + (1 : Nat)) % (8 : Nat) % (8 : Nat))), V.i (↑((k + (1 : Nat)) % (8 : Nat)) : Int), V.i (gi (Prod.fst (hist c u l (k + (1 : Nat)))) (((k + (1 : Nat)) % (8 : Nat) + (7 : Nat)) % (8 : Nat))), V.i (gi (Prod.fst (hist c u l (k + (1 : Nat)))) (((k + (1 : Nat)) % (8 : Nat) + (6 : Nat)) % (8 : Nat))), V.i (gi (Prod.fst (hist c u l (k + (1 : Nat)))) (((k + (1 : Nat)) % (8 : Nat) + (5 : Nat)) % (8 : Nat))), V.i (gi (Prod.fst (hist c u l (k + (1 : Nat)))) (((k + (1 : Nat)) % (8 : Nat) + (4 : Nat)) % (8 : Nat))), V.i (gi (Prod.fst (hist c u l (k + (1 : Nat)))) (((k + (1 : Nat)) % (8 : Nat) + (3 : Nat)) % (8 : Nat))), V.i (gi (Prod.fst (hist c u l (k + (1 : Nat)))) (((k + (1 : Nat)) % (8 : Nat) + (2 : Nat)) % (8 : Nat))), V.i (gi (Prod.fst (hist c u l (k + (1 : Nat)))) (((k + (1 : Nat)) % (8 : Nat) + (1 : Nat)) % (8 : Nat))), V.i (gi (Prod.fst (hist c u l (k + (1 : Nat)))) ((k + (1 : Nat)) % (8 : Nat) % (8 : Nat))), V.i (↑((k + (1 : Nat)) % (8 : Nat)) : Int), V.sl (1 : Nat) (List.length (Cv.feed c)) fun (k : Nat) => [V.i (gi (Cv.feed c) k)], V.sl (1 : Nat) (List.length (Cv.back c)) fun (k : Nat) => [V.i (gi (Cv.back c) k)], V.i (Cv.share c)]))]) (kp := [500, 501]) (step1_hist c u l k mx hc hm ha hfk) (by kernel_rfl) (by kernel_rfl) (by kernel_rfl) (by kernel_rfl) (by kernel_rfl) (by kernel_rfl) rfl rfl (by kernel_rfl) (.box (by kernel_rfl) (by kernel_rfl) (.box (by kernel_rfl) (by kernel_rfl) .nil)) (by kernel_rfl) (by kernel_rfl) (by kernel_rfl) ?_
    refine aops_n hTT (M := []) (n := 1) [pv (11 : Nat) (V.i (outK c u l k))] (by kernel_rfl) (by kernel_rfl) True.intro ?_
    refine aops_nil ?_
    refine xt_n ?_
    refine hK _ ?_
    clear hK K
    refine aw_seq_k fun K hK => ?_
    refine aw_seq_k fun K hK => ?_
    refine w_region (n' := 5) (by kernel_rfl) (by kernel_rfl) ?_
    refine aops_n hTT (M := []) (n := 2) [pv (24 : Nat) (V.fn (Fn.func (108 : Nat)) [] [V.ptr [V.i mx]]), pv (25 : Nat) (V.i (outK c u l k))] (by kernel_rfl) (by kernel_rfl) True.intro ?_
    refine e_call (first := []) (caps := [V.ptr [V.i mx]]) (within1_ac (outK c u l k) mx (by omega)) (by kernel_rfl) (by kernel_rfl) (by kernel_rfl) (by kernel_rfl) (by kernel_rfl) ?_
    refine aops_n hTT (M := []) (n := 1) [pv (27 : Nat) (V.b !!bey (outK c u l k) mx)] (by kernel_rfl) (by kernel_rfl) True.intro ?_
    refine aops_nil ?_
    refine xt_n ?_
    refine hK _ ?_
    clear hK K
    refine w_cond (t := !!bey (outK c u l k) mx) (by kernel_rfl) (fun c2 => ?_) (fun c2 => ?_)
    · simp at c2
      refine aw_seq_k fun K hK => ?_
      refine w_region (n' := 6) (by kernel_rfl) (by kernel_rfl) ?_
      refine aops_n hTT (M := []) (n := 2) [pv (6 : Nat) V.nil, pv (7 : Nat) (V.i (4 : Int))] (by kernel_rfl) (by kernel_rfl) True.intro ?_
      refine aops_nil ?_
      refine xt_n ?_
      refine hK _ ?_
      clear hK K
      refine aw_ret ?_
      refine xt_r ?_
      refine xb_r ?_
      refine xt_r ?_
      refine xt_r ?_
      refine xb_r ?_
      refine xt_r ?_
      refine retM (v' := V.tup [V.nil, V.i (4 : Int)]) [] [(6, V.nil), (7, V.i (4 : Int))] (.inr rfl) (.cons (by kernel_rfl) (.cons (by kernel_rfl) .nil)) .nil (by kernel_rfl) (by kernel_rfl) (by kernel_rfl) (by kernel_rfl) (by kernel_rfl) (by kernel_rfl) (by kernel_rfl)
    simp at c2
    refine aw_skip ?_
    refine xt_n ?_
    refine hK _ ?_
    clear hK K
    refine w_region (n' := 6) (by kernel_rfl) (by kernel_rfl) ?_
    refine aops_n hTT (M := []) (n := 5) [pv (28 : Nat) (V.own (8 : Nat)), pv (29 : Nat) (V.i (outK c u l k)), pv (30 : Nat) (V.sl (1 : Nat) (1 : Nat) fun (i : Nat) => List.take (1 : Nat) (List.drop (i * (1 : Nat)) [V.i (outK c u l k)])), PR.mk (some (31 : Nat)) (some (k + (1 : Nat) ≤ (1099511627776 : Nat))) (V.own (500031 : Nat)) [((8 : Nat), none), ((500031 : Nat), some (Ob.row (2 : Nat) (1 : Nat) (k + (1 : Nat)) (appRow k (fun (j : Nat) => [V.i (gi (resL c u l) j)]) fun (i : Nat) => List.take (1 : Nat) (List.drop (i * (1 : Nat)) [V.i (outK c u l k)]))))] false, pv (8 : Nat) (V.own (500031 : Nat))] (by kernel_rfl) (by kernel_rfl) ⟨(by omega), True.intro⟩ ?_
    refine aops_nil ?_
    refine xb_n ?_
    refine xt_n ?_
    refine hK _ ?_
    clear hK K
    refine w_region (n' := 7) (by kernel_rfl) (by kernel_rfl) ?_
    refine aops_n hTT (M := []) (n := 2) [pc (32 : Nat) ((-9223372036854775808 : Int) ≤ (↑k : Int) + (1 : Int) ∧ (↑k : Int) + (1 : Int) ≤ (9223372036854775807 : Int)) (V.i ((↑k : Int) + (1 : Int))), pv (17 : Nat) (V.i ((↑k : Int) + (1 : Int)))] (by kernel_rfl) (by kernel_rfl) ⟨(by omega), True.intro⟩ ?_
    refine aops_nil ?_
    refine xt_n ?_
    refine ⟨k + 1, ⟨by omega, fun i hi => ?_⟩, ?_, by omega⟩
    · by_cases h : i < k
      · exact hfk i h
      · obtain rfl : i = k := by omega
        exact c2
    refine le_ren (tl := [(1, V.fn (Fn.func (105 : Nat)) [] [V.ptr [V.b u], V.ref (500 : Nat) (0 : Nat)]), (2, V.fn (Fn.func (108 : Nat)) [] [V.ptr [V.i mx]]), (8, V.own (8 : Nat)), (15, V.sl (1 : Nat) (List.length l) fun (k : Nat) => [V.i (gi l k)]), (16, V.i (↑(List.length l) : Int)), (17, V.i (↑(k + (1 : Nat)) : Int))]) (sl := [(500, Ob.box (108 : Nat) [V.ref (501 : Nat) (0 : Nat)]), (501, Ob.box (113 : Nat) [V.i (gi (Prod.snd (hist c u l (k + (1 : Nat)))) (((k + (1 : Nat)) % (8 : Nat) + (7 : Nat)) % (8 : Nat))), V.i (gi (Prod.snd (hist c u l (k + (1 : Nat)))) (((k + (1 : Nat)) % (8 : Nat) + (6 : Nat)) % (8 : Nat))), V.i (gi (Prod.snd (hist c u l (k + (1 : Nat)))) (((k + (1 : Nat)) % (8 : Nat) + (5 : Nat)) % (8 : Nat))), V.i (gi (Prod.snd (hist c u l (k + (1 : Nat)))) (((k + (1 : Nat)) % (8 : Nat) + (4 : Nat)) % (8 : Nat))), V.i (gi (Prod.snd (hist c u l (k + (1 : Nat)))) (((k + (1 : Nat)) % (8 : Nat) + (3 : Nat)) % (8 : Nat))), V.i (gi (Prod.snd (hist c u l (k + (1 : Nat)))) (((k + (1 : Nat)) % (8 : Nat) + (2 : Nat)) % (8 : Nat))), V.i (gi (Prod.snd (hist c u l (k + (1 : Nat)))) (((k + (1 : Nat)) % (8 : Nat) + (1 : Nat)) % (8 : Nat))), V.i (gi (Prod.snd (hist c u l (k + (1 : Nat)))) ((k + (1 : Nat)) % (8 : Nat) % (8 : Nat))), V.i (↑((k + (1 : Nat)) % (8 : Nat)) : Int), V.i (gi (Prod.fst (hist c u l (k + (1 : Nat)))) (((k + (1 : Nat)) % (8 : Nat) + (7 : Nat)) % (8 : Nat))), V.i (gi (Prod.fst (hist c u l (k + (1 : Nat)))) (((k + (1 : Nat)) % (8 : Nat) + (6 : Nat)) % (8 : Nat))), V.i (gi (Prod.fst (hist c u l (k + (1 : Nat)))) (((k + (1 : Nat)) % (8 : Nat) + (5 : Nat)) % (8 : Nat))), V.i (gi (Prod.fst (hist c u l (k + (1 : Nat)))) (((k + (1 : Nat)) % (8 : Nat) + (4 : Nat)) % (8 : Nat))), V.i (gi (Prod.fst (hist c u l (k + (1 : Nat)))) (((k + (1 : Nat)) % (8 : Nat) + (3 : Nat)) % (8 : Nat))), V.i (gi (Prod.fst (hist c u l (k + (1 : Nat)))) (((k + (1 : Nat)) % (8 : Nat) + (2 : Nat)) % (8 : Nat))), V.i (gi (Prod.fst (hist c u l (k + (1 : Nat)))) (((k + (1 : Nat)) % (8 : Nat) + (1 : Nat)) % (8 : Nat))), V.i (gi (Prod.fst (hist c u l (k + (1 : Nat)))) ((k + (1 : Nat)) % (8 : Nat) % (8 : Nat))), V.i (↑((k + (1 : Nat)) % (8 : Nat)) : Int), V.sl (1 : Nat) (List.length (Cv.feed c)) fun (k : Nat) => [V.i (gi (Cv.feed c) k)], V.sl (1 : Nat) (List.length (Cv.back c)) fun (k : Nat) => [V.i (gi (Cv.back c) k)], V.i (Cv.share c)]), (8, Ob.row (2 : Nat) (1 : Nat) (k + (1 : Nat)) fun (j : Nat) => [V.i (gi (resL c u l) j)])]) [(8, 500031)] (.cons (by kernel_rfl) (.cons (by kernel_rfl) (.cons (by kernel_rfl) (.cons (by kernel_rfl) (.cons (by kernel_rfl) (.cons (by kernel_rfl) .nil)))))) (.cons ⟨Ob.box (108 : Nat) [V.ref (501 : Nat) (0 : Nat)], (by kernel_rfl), .box (by kernel_rfl)⟩ (.cons ⟨Ob.box (113 : Nat) [V.i (gi (Prod.snd (hist c u l (k + (1 : Nat)))) (((k + (1 : Nat)) % (8 : Nat) + (7 : Nat)) % (8 : Nat))), V.i (gi (Prod.snd (hist c u l (k + (1 : Nat)))) (((k + (1 : Nat)) % (8 : Nat) + (6 : Nat)) % (8 : Nat))), V.i (gi (Prod.snd (hist c u l (k + (1 : Nat)))) (((k + (1 : Nat)) % (8 : Nat) + (5 : Nat)) % (8 : Nat))), V.i (gi (Prod.snd (hist c u l (k + (1 : Nat)))) (((k + (1 : Nat)) % (8 : Nat) + (4 : Nat)) % (8 : Nat))), V.i (gi (Prod.snd (hist c u l (k + (1 : Nat)))) (((k + (1 : Nat)) % (8 : Nat) + (3 : Nat)) % (8 : Nat))), V.i (gi (Prod.snd (hist c u l (k + (1 : Nat)))) (((k + (1 : Nat)) % (8 : Nat) + (2 : Nat)) % (8 : Nat))), V.i (gi (Prod.snd (hist c u l (k + (1 : Nat)))) (((k + (1 : Nat)) % (8 : Nat) + (1 : Nat)) % (8 : Nat))), V.i (gi (Prod.snd (hist c u l (k + (1 : Nat)))) ((k + (1 : Nat)) % (8 : Nat) % (8 : Nat))), V.i (↑((k + (1 : Nat)) % (8 : Nat)) : Int), V.i (gi (Prod.fst (hist c u l (k + (1 : Nat)))) (((k + (1 : Nat)) % (8 : Nat) + (7 : Nat)) % (8 : Nat))), V.i (gi (Prod.fst (hist c u l (k + (1 : Nat)))) (((k + (1 : Nat)) % (8 : Nat) + (6 : Nat)) % (8 : Nat))), V.i (gi (Prod.fst (hist c u l (k + (1 : Nat)))) (((k + (1 : Nat)) % (8 : Nat) + (5 : Nat)) % (8 : Nat))), V.i (gi (Prod.fst (hist c u l (k + (1 : Nat)))) (((k + (1 : Nat)) % (8 : Nat) + (4 : Nat)) % (8 : Nat))), V.i (gi (Prod.fst (hist c u l (k + (1 : Nat)))) (((k + (1 : Nat)) % (8 : Nat) + (3 : Nat)) % (8 : Nat))), V.i (gi (Prod.fst (hist c u l (k + (1 : Nat)))) (((k + (1 : Nat)) % (8 : Nat) + (2 : Nat)) % (8 : Nat))), V.i (gi (Prod.fst (hist c u l (k + (1 : Nat)))) (((k + (1 : Nat)) % (8 : Nat) + (1 : Nat)) % (8 : Nat))), V.i (gi (Prod.fst (hist c u l (k + (1 : Nat)))) ((k + (1 : Nat)) % (8 : Nat) % (8 : Nat))), V.i (↑((k + (1 : Nat)) % (8 : Nat)) : Int), V.sl (1 : Nat) (List.length (Cv.feed c)) fun (k : Nat) => [V.i (gi (Cv.feed c) k)], V.sl (1 : Nat) (List.length (Cv.back c)) fun (k : Nat) => [V.i (gi (Cv.back c) k)], V.i (Cv.share c)], (by kernel_rfl), .box (by kernel_rfl)⟩ (.cons ⟨Ob.row (2 : Nat) (1 : Nat) (k + (1 : Nat)) (appRow k (fun (j : Nat) => [V.i (gi (resL c u l) j)]) fun (i : Nat) => List.take (1 : Nat) (List.drop (i * (1 : Nat)) [V.i (outK c u l k)])), (by kernel_rfl), .row (by kernel_rfl) ?_⟩ .nil))) (by kernel_rfl) (by kernel_rfl)
    intro i hi
    by_cases h : i < k
    · rw [appRow, if_pos h]
      rfl
    · obtain rfl : i = k := by omega
      rw [appRow, if_neg h, Nat.sub_self]
      show _ = [V.i (gi (resL c u l) i)]
      rw [resL_gi c1]
      rfl
  · simp at c1
    obtain rfl : k = l.length := by omega
    rw [hfk j hj] at hb
    cases hb
/-- a contract at an empty slice -/
theorem AC.emp {P : Program} {f : FuncId} {v : V} {obs : List Ob} {sz : Nat} {row : Nat → List V} (h : ∀ A c, AC P f [.c (.slice A 0 c)] v obs) : AC P f [.sl sz 0 row] v obs := by
  refine ⟨(h none 0).1, fun L w vs hL hgl hv => ?_⟩
  obtain ⟨vs⟩ := vs
  obtain ⟨x, e, hr⟩ := hv.get (i := 0) rfl
  obtain ⟨A, c, rfl, _⟩ := hr.sl_inv
  refine (h A c).2 L w _ hL hgl ?_
  have hn := hv.1
  match vs, hn, e with
  | [y], _, e =>
    simp at e; subst e
    exact .cons (.c _ _) .nil
theorem emp_ints {w : World} {L : Nat → Prop} {ρ : Nat → Option Value} {A : Option Addr} {c : Nat} {x : Value} (h : R w L ρ (.c (.slice A 0 c)) x) : R w L ρ (V.ints []) x := by
  rw [h.c_inv]
  exact .sl0 _ _ _ _ _
set_option maxRecDepth 100000 in
theorem Clone_pos (l : List Int) (hl : l.length ≤ 8192) (h0 : 0 < l.length) : AC Try.prog 88 [V.ints l] (V.ints l) [] := by
  refine ac_intro hTT hMX (fn := Try.f88) (N := _) ⟨Try.func88, rfl, Try.ntmps88, by kernel_rfl⟩ (by simp) fun C hC hF => ?_
  refine aw_seq_k fun K hK => ?_
  refine w_region (n' := 2) (by kernel_rfl) (by kernel_rfl) ?_
  refine aops_n hTT (M := [5]) (n := 1) [pv (2 : Nat) V.nil] (by kernel_rfl) (by kernel_rfl) True.intro ?_
  refine aops_nil ?_
  refine xt_n ?_
  refine hK _ ?_
  clear hK K
  refine aw_seq_k fun K hK => ?_
  refine aw_seq_k fun K hK => ?_
  refine w_region (n' := 3) (by kernel_rfl) (by kernel_rfl) ?_
  refine aops_n hTT (M := [5]) (n := 2) [pv (3 : Nat) (V.sl (1 : Nat) (List.length l) fun (k : Nat) => [V.i (gi l k)]), pc (4 : Nat) ((0 : Nat) < List.length l) (V.b false)] (by kernel_rfl) (by kernel_rfl) ⟨(by omega), True.intro⟩ ?_
  refine aops_nil ?_
  refine xt_n ?_
  refine hK _ ?_
  clear hK K
  refine w_false (t := false) (by kernel_rfl) rfl ?_
  refine aw_skip ?_
  refine xt_n ?_
  refine hK _ ?_
  clear hK K
  refine aw_seq_k fun K hK => ?_
  refine w_region (n' := 4) (by kernel_rfl) (by kernel_rfl) ?_
  refine aops_n hTT (M := [5]) (n := 4) [pn (5 : Nat) (V.own (300005 : Nat)) (300005 : Nat) (Ob.row (2 : Nat) (1 : Nat) (0 : Nat) fun (i : Nat) => List.take (1 : Nat) (List.drop (i * (1 : Nat)) (repV (0 : Nat) [V.c (Value.int IntKind.i64 (0 : Int))]))), pv (6 : Nat) (V.sl (1 : Nat) (List.length l) fun (k : Nat) => [V.i (gi l k)]), PR.mk (some (7 : Nat)) (some ((0 : Nat) + List.length l ≤ (1099511627776 : Nat))) (V.own (300007 : Nat)) [((300005 : Nat), none), ((300007 : Nat), some (Ob.row (2 : Nat) (1 : Nat) ((0 : Nat) + List.length l) (appRow (0 : Nat) (fun (i : Nat) => List.take (1 : Nat) (List.drop (i * (1 : Nat)) (repV (0 : Nat) [V.c (Value.int IntKind.i64 (0 : Int))]))) fun (k : Nat) => [V.i (gi l k)])))] false, pv (2 : Nat) (V.own (300007 : Nat))] (by kernel_rfl) (by kernel_rfl) ⟨(by omega), True.intro⟩ ?_
  refine aops_nil ?_
  refine xt_n ?_
  refine hK _ ?_
  clear hK K
  refine aw_ret ?_
  refine ret_of_le (le_shut 2 300007 (e := (2 : Nat)) (sz := (1 : Nat)) (n := (0 : Nat) + List.length l) (n' := l.length) (row := appRow (0 : Nat) (fun (i : Nat) => List.take (1 : Nat) (List.drop (i * (1 : Nat)) (repV (0 : Nat) [V.c (Value.int IntKind.i64 (0 : Int))]))) fun (k : Nat) => [V.i (gi l k)]) (row' := (fun k => [.i (gi l k)])) (by kernel_rfl) (by kernel_rfl) (fun _ _ => rfl) ?_ ?_) ?_
  · omega
  · intro i hi
    rw [appRow, if_neg (by omega), Nat.sub_zero]
  refine ret_pure (v' := V.sl (1 : Nat) (List.length l) fun (k : Nat) => [V.i (gi l k)]) (.inr rfl) (by kernel_rfl) (by kernel_rfl) (by kernel_rfl)
theorem Clone_nil (c : Nat) : AC Try.prog 88 [.c (.slice none 0 c)] (V.ints []) [] := by
  refine ac_intro hTT hMX (fn := Try.f88) (N := _) ⟨Try.func88, rfl, Try.ntmps88, by kernel_rfl⟩ (by simp) fun C hC hF => ?_
  refine aw_seq_k fun K hK => ?_
  refine w_region (n' := 2) (by kernel_rfl) (by kernel_rfl) ?_
  refine aops_n hTT (M := []) (n := 1) [pv (2 : Nat) V.nil] (by kernel_rfl) (by kernel_rfl) True.intro ?_
  refine aops_nil ?_
  refine xt_n ?_
  refine hK _ ?_
  clear hK K
  refine aw_seq_k fun K hK => ?_
  refine aw_seq_k fun K hK => ?_
  refine w_region (n' := 3) (by kernel_rfl) (by kernel_rfl) ?_
  refine aops_n hTT (M := []) (n := 2) [pv (3 : Nat) (V.c (Value.slice none (0 : Nat) c)), pv (4 : Nat) (V.b true)] (by kernel_rfl) (by kernel_rfl) True.intro ?_
  refine aops_nil ?_
  refine xt_n ?_
  refine hK _ ?_
  clear hK K
  refine w_true (t := true) (by kernel_rfl) rfl ?_
  refine aw_seq_k fun K hK => ?_
  refine w_region (n' := 4) (by kernel_rfl) (by kernel_rfl) ?_
  refine aops_n hTT (M := []) (n := 1) [pv (2 : Nat) V.nil] (by kernel_rfl) (by kernel_rfl) True.intro ?_
  refine aops_nil ?_
  refine xt_n ?_
  refine hK _ ?_
  clear hK K
  refine aw_ret ?_
  refine xt_r ?_
  refine ret_of_le (le_nil 2 (sz := 1) 0 (fun k => [.i (gi [] k)]) (by kernel_rfl) ?_) ?_
  · rfl
  refine ret_pure (v' := V.sl (1 : Nat) (0 : Nat) fun (k : Nat) => [V.i (gi [] k)]) (.inr rfl) (by kernel_rfl) (by kernel_rfl) (by kernel_rfl)
set_option maxRecDepth 100000 in
theorem Clone_emp (a : Addr) (c : Nat) : AC Try.prog 88 [.c (.slice (some a) 0 c)] (V.ints []) [] := by
  refine ac_intro hTT hMX (fn := Try.f88) (N := _) ⟨Try.func88, rfl, Try.ntmps88, by kernel_rfl⟩ (by simp) fun C hC hF => ?_
  refine aw_seq_k fun K hK => ?_
  refine w_region (n' := 2) (by kernel_rfl) (by kernel_rfl) ?_
  refine aops_n hTT (M := []) (n := 1) [pv (2 : Nat) V.nil] (by kernel_rfl) (by kernel_rfl) True.intro ?_
  refine aops_nil ?_
  refine xt_n ?_
  refine hK _ ?_
  clear hK K
  refine aw_seq_k fun K hK => ?_
  refine aw_seq_k fun K hK => ?_
  refine w_region (n' := 3) (by kernel_rfl) (by kernel_rfl) ?_
  refine aops_n hTT (M := []) (n := 2) [pv (3 : Nat) (V.c (Value.slice (some a) (0 : Nat) c)), pv (4 : Nat) (V.b false)] (by kernel_rfl) (by kernel_rfl) True.intro ?_
  refine aops_nil ?_
  refine xt_n ?_
  refine hK _ ?_
  clear hK K
  refine w_false (t := false) (by kernel_rfl) rfl ?_
  refine aw_skip ?_
  refine xt_n ?_
  refine hK _ ?_
  clear hK K
  refine aw_seq_k fun K hK => ?_
  refine w_le (le_val 0 (V.ints []) fun w L ρ x hx => emp_ints hx) ?_
  refine w_region (n' := 4) (by kernel_rfl) (by kernel_rfl) ?_
  refine aops_n hTT (M := [5]) (n := 4) [pn (5 : Nat) (V.own (300005 : Nat)) (300005 : Nat) (Ob.row (2 : Nat) (1 : Nat) (0 : Nat) fun (i : Nat) => List.take (1 : Nat) (List.drop (i * (1 : Nat)) (repV (0 : Nat) [V.c (Value.int IntKind.i64 (0 : Int))]))), pv (6 : Nat) (V.sl (1 : Nat) (0 : Nat) fun (k : Nat) => [V.i (gi [] k)]), PR.mk (some (7 : Nat)) (some ((0 : Nat) + (0 : Nat) ≤ (1099511627776 : Nat))) (V.own (300007 : Nat)) [((300005 : Nat), none), ((300007 : Nat), some (Ob.row (2 : Nat) (1 : Nat) (0 : Nat) (appRow (0 : Nat) (fun (i : Nat) => List.take (1 : Nat) (List.drop (i * (1 : Nat)) (repV (0 : Nat) [V.c (Value.int IntKind.i64 (0 : Int))]))) fun (k : Nat) => [V.i (gi [] k)])))] false, pv (2 : Nat) (V.own (300007 : Nat))] (by kernel_rfl) (by kernel_rfl) ⟨(by omega), True.intro⟩ ?_
  refine aops_nil ?_
  refine xt_n ?_
  refine hK _ ?_
  clear hK K
  refine aw_ret ?_
  refine ret_of_le (le_shut 2 300007 (e := (2 : Nat)) (sz := (1 : Nat)) (n := (0 : Nat)) (n' := 0) (row := appRow (0 : Nat) (fun (i : Nat) => List.take (1 : Nat) (List.drop (i * (1 : Nat)) (repV (0 : Nat) [V.c (Value.int IntKind.i64 (0 : Int))]))) fun (k : Nat) => [V.i (gi [] k)]) (row' := (fun k => [.i (gi [] k)])) (by kernel_rfl) (by kernel_rfl) (fun _ _ => rfl) ?_ ?_) ?_
  · rfl
  · intro i hi
    omega
  refine ret_pure (v' := V.sl (1 : Nat) (0 : Nat) fun (k : Nat) => [V.i (gi [] k)]) (.inr rfl) (by kernel_rfl) (by kernel_rfl) (by kernel_rfl)
theorem Clone_ac (l : List Int) (hl : l.length ≤ 8192) : AC Try.prog 88 [V.ints l] (V.ints l) [] := by
  by_cases h0 : 0 < l.length
  · exact Clone_pos l hl h0
  · obtain rfl : l = [] := List.length_eq_zero_iff.1 (by omega)
    refine AC.emp fun A c => ?_
    cases A with
    | some a => exact Clone_emp a c
    | none => exact Clone_nil c
end Go.Proofs.Ytblipieipldanaa
