/-
  Several texts in one: A curve applied to each element; a list copied. Conditions: told in each theorem. .. Needs and gains: both copies. Condition: as many elements as a slice can have.
-/
import Derived.Test.YtplnhbenmgclfaaGreatDoorAbs42
import Derived.Test.YtplnhbenmgclfaaGreatDoorX06
import Derived.Test.YtplnhbenmgclfaaGreatDoorX00
import Derived.Test.YtplnhbenmgclfaaGreatDoorMC
import Derived.Test.YtplnhbenmgclfaaGreatDoorX02
namespace Go.Proofs.YtplnhbenmgclfaaGreatDoor
open Go.Ab Go.RowKit Go.Dw Go.Shelf
theorem step1_hist (c : Cv) (u : Bool) (l : List Int) (k : Nat) (n : Int) (hc : cvOk c) (hn : 0 ≤ n ∧ n ≤ 131072) (ha : AllLe n l) (hf : fine c u l n k) :
  AM Tryz.prog 174 [.i (gi l k), .ptr [.b u], .ref 500 0] [PB 501, St c (hist c u l k).2 (hist c u l k).1 (k % 8)] (.i (outK c u l k)) [some (PB 501), some (St c (hist c u l (k + 1)).2 (hist c u l (k + 1)).1 ((k + 1) % 8))] [] := by
 obtain ⟨b1, b2⟩ := hist_bd hn.1 ha hf
 refine (step1_ac c u (hist c u l k).2 (hist c u l k).1 (k % 8) n (gi l k) hc oM hn b1 b2 (ha.gi hn.1 k)).conv rfl ?_
 rw [show (k + 1) % 8 = (k % 8 + 1) % 8 by omega, hist_x, hist_y]
 cases u <;> rfl
abbrev yyFA50 (c : Cv) : V := V.sl 1 (List.length (Cv.feed c)) fun (k : Nat) => [V.i (gi (Cv.feed c) k)]
abbrev yyFA51 (c : Cv) : V := V.sl 1 (List.length (Cv.back c)) fun (k : Nat) => [V.i (gi (Cv.back c) k)]
set_option maxRecDepth 100000 in
theorem each_ok (c : Cv) (u : Bool) (l : List Int) (mx : Int) (hc : cvOk c) (hl : l.length ≤ 8192) (hm : 0 ≤ mx ∧ mx ≤ 131072) (ha : AllLe mx l) (hf : fine c u l mx l.length) :
  AM Tryz.prog 161 [V.ints l, FStep u 500, FIn mx] [PB 501, St c [] [] 0] (.tup [.own 0, .i 0]) [none, none] [.row 2 1 l.length fun k => [.i (gi (resL c u l) k)]] := by
 refine am_intro hTT hMX (fn := Tryz.f161) (N := _) ⟨Tryz.func161, rfl, Tryz.ntmps161, kR⟩ (by simp) rfl (by simp) (by simp) fun C hF => ?_
 refine aw_seq_k fun K hK => wR 2 ?_; refine aX hTT 2 [] tI ?_; refine aops_nil (xt_n (hK _ ?_)); clear hK K; refine aw_seq_k fun K hK => wR 3 ?_; refine aX hTT 4 [(2, .r (PR.mk (some (14 : Nat)) (some ((0 : Int) ≤ (0 : Int) ∧ (0 : Int) ≤ (↑(List.length l) : Int) ∧ (↑(List.length l) : Int) ≤ (1099511627776 : Int))) (V.own 200014) [((200014 : Nat), some (Ob.row 2 1 0 fun (x : Nat) => [V.c (Value.int IntKind.i64 0)]))] false))] ⟨⟨oM, oM⟩, tI⟩ ?_; refine aops_nil (xt_n (hK _ ?_)); clear hK K; refine aw_seq_k fun K hK => ?_; refine aw_seq_k fun K hK => wR 4 ?_; refine aX hTT 3 [] tI ?_; refine aops_nil (xt_n (hK _ ?_)); clear hK K
 refine aw_block ?_
 refine w_loop (ι := Nat) (fun k => [(1, FStep u 500), (2, FIn mx), (8, .own 8), (15, V.ints l), (16, .i l.length), (17, .i k)])
  (fun k => [(500, PB 501), (501, St c (hist c u l k).2 (hist c u l k).1 (k % 8)), (8, .row 2 1 k fun j => [.i (gi (resL c u l) j)])]) (fun k => k ≤ l.length ∧ fine c u l mx k) (fun k => l.length - k) 0 ⟨Nat.zero_le _, fun j hj => by omega⟩ ?_ ?_
 ·
  refine le_ren (tl := [(1, V.fn (Fn.func (174 : Nat)) [] [V.ptr [V.b u], V.ref 500 0]), (2, V.fn (Fn.func (177 : Nat)) [] [V.ptr [V.i mx]]), (8, V.own 8), (15, V.sl 1 (List.length l) fun (k : Nat) => [V.i (gi l k)]), (16, V.i (↑(List.length l) : Int)), (17, V.i 0)]) (sl := [(500, Ob.box 287 [V.ref 501 0]), (501, Ob.box 292 [V.i (gi (Prod.snd (hist c u l (0 : Nat))) (((0 : Nat) % (8 : Nat) + (7 : Nat)) % (8 : Nat))), V.i (gi (Prod.snd (hist c u l (0 : Nat))) (((0 : Nat) % (8 : Nat) + (6 : Nat)) % (8 : Nat))), V.i (gi (Prod.snd (hist c u l (0 : Nat))) (((0 : Nat) % (8 : Nat) + (5 : Nat)) % (8 : Nat))), V.i (gi (Prod.snd (hist c u l (0 : Nat))) (((0 : Nat) % (8 : Nat) + (4 : Nat)) % (8 : Nat))), V.i (gi (Prod.snd (hist c u l (0 : Nat))) (((0 : Nat) % (8 : Nat) + (3 : Nat)) % (8 : Nat))), V.i (gi (Prod.snd (hist c u l (0 : Nat))) (((0 : Nat) % (8 : Nat) + (2 : Nat)) % (8 : Nat))), V.i (gi (Prod.snd (hist c u l (0 : Nat))) (((0 : Nat) % (8 : Nat) + (1 : Nat)) % (8 : Nat))), V.i (gi (Prod.snd (hist c u l (0 : Nat))) ((0 : Nat) % (8 : Nat) % (8 : Nat))), V.i 0, V.i (gi (Prod.fst (hist c u l (0 : Nat))) (((0 : Nat) % (8 : Nat) + (7 : Nat)) % (8 : Nat))), V.i (gi (Prod.fst (hist c u l (0 : Nat))) (((0 : Nat) % (8 : Nat) + (6 : Nat)) % (8 : Nat))), V.i (gi (Prod.fst (hist c u l (0 : Nat))) (((0 : Nat) % (8 : Nat) + (5 : Nat)) % (8 : Nat))), V.i (gi (Prod.fst (hist c u l (0 : Nat))) (((0 : Nat) % (8 : Nat) + (4 : Nat)) % (8 : Nat))), V.i (gi (Prod.fst (hist c u l (0 : Nat))) (((0 : Nat) % (8 : Nat) + (3 : Nat)) % (8 : Nat))), V.i (gi (Prod.fst (hist c u l (0 : Nat))) (((0 : Nat) % (8 : Nat) + (2 : Nat)) % (8 : Nat))), V.i (gi (Prod.fst (hist c u l (0 : Nat))) (((0 : Nat) % (8 : Nat) + (1 : Nat)) % (8 : Nat))), V.i (gi (Prod.fst (hist c u l (0 : Nat))) ((0 : Nat) % (8 : Nat) % (8 : Nat))), V.i 0, (yyFA50 c), (yyFA51 c), V.i (Cv.share c)]), (8, Ob.row 2 1 0 fun (j : Nat) => [V.i (gi (resL c u l) j)])]) [(8, 200014)] (.cons kR (.cons kR (.cons kR (.cons kR (.cons kR (.cons kR .nil)))))) (.cons ⟨Ob.box 287 [V.ref 501 0], kR, .box kR⟩ (.cons ⟨Ob.box 292 [V.i (gi [] (((0 : Nat) + (7 : Nat)) % (8 : Nat))), V.i (gi [] (((0 : Nat) + (6 : Nat)) % (8 : Nat))), V.i (gi [] (((0 : Nat) + (5 : Nat)) % (8 : Nat))), V.i (gi [] (((0 : Nat) + (4 : Nat)) % (8 : Nat))), V.i (gi [] (((0 : Nat) + (3 : Nat)) % (8 : Nat))), V.i (gi [] (((0 : Nat) + (2 : Nat)) % (8 : Nat))), V.i (gi [] (((0 : Nat) + (1 : Nat)) % (8 : Nat))), V.i (gi [] ((0 : Nat) % (8 : Nat))), V.i 0, V.i (gi [] (((0 : Nat) + (7 : Nat)) % (8 : Nat))), V.i (gi [] (((0 : Nat) + (6 : Nat)) % (8 : Nat))), V.i (gi [] (((0 : Nat) + (5 : Nat)) % (8 : Nat))), V.i (gi [] (((0 : Nat) + (4 : Nat)) % (8 : Nat))), V.i (gi [] (((0 : Nat) + (3 : Nat)) % (8 : Nat))), V.i (gi [] (((0 : Nat) + (2 : Nat)) % (8 : Nat))), V.i (gi [] (((0 : Nat) + (1 : Nat)) % (8 : Nat))), V.i (gi [] ((0 : Nat) % (8 : Nat))), V.i 0, (yyFA50 c), (yyFA51 c), V.i (Cv.share c)], kR, .box kR⟩ (.cons ⟨Ob.row 2 1 0 fun (x : Nat) => [V.c (Value.int IntKind.i64 0)], kR, .row kR ?_⟩ .nil))) kR kR
  intro i hi
  omega
 rintro k ⟨hk, hfk⟩
 refine aw_seq_k fun K hK => wR 2 ?_; refine aX hTT 1 [] tI ?_; refine aops_nil (xt_n (hK _ ?_)); clear hK K; refine aw_seq_k fun K hK => ?_
 refine w_cond (t := decide ((↑k : Int) < (↑(List.length l) : Int))) kR (fun c1 => ?_) (fun c1 => ?_)
 ·
  simp at c1
  refine aw_skip ?_
  refine xt_n (hK _ ?_); clear hK K; refine aw_seq_k fun K hK => ?_
  refine aw_block ?_
  refine aw_seq_k fun K hK => wR 3 ?_; refine aX hTT 3 [(0, .c ((0 : Int) ≤ (↑k : Int) ∧ (↑k : Int) < (↑(List.length l) : Int)))] ⟨oM, tI⟩ ?_; refine aops_nil (xt_n (hK _ ?_)); clear hK K; refine aw_seq_k fun K hK => wR 4 ?_; refine aX hTT 2 [] tI ?_
  refine aops_callM [500, 501] (first := []) (caps := [V.ptr [V.b u], V.ref 500 0]) (ins' := [Ob.box 287 [V.ref 501 0], Ob.box 292 [V.i (gi (Prod.snd (hist c u l k)) ((k % (8 : Nat) + (7 : Nat)) % (8 : Nat))), V.i (gi (Prod.snd (hist c u l k)) ((k % (8 : Nat) + (6 : Nat)) % (8 : Nat))), V.i (gi (Prod.snd (hist c u l k)) ((k % (8 : Nat) + (5 : Nat)) % (8 : Nat))), V.i (gi (Prod.snd (hist c u l k)) ((k % (8 : Nat) + (4 : Nat)) % (8 : Nat))), V.i (gi (Prod.snd (hist c u l k)) ((k % (8 : Nat) + (3 : Nat)) % (8 : Nat))), V.i (gi (Prod.snd (hist c u l k)) ((k % (8 : Nat) + (2 : Nat)) % (8 : Nat))), V.i (gi (Prod.snd (hist c u l k)) ((k % (8 : Nat) + (1 : Nat)) % (8 : Nat))), V.i (gi (Prod.snd (hist c u l k)) (k % (8 : Nat) % (8 : Nat))), V.i (↑(k % (8 : Nat)) : Int), V.i (gi (Prod.fst (hist c u l k)) ((k % (8 : Nat) + (7 : Nat)) % (8 : Nat))), V.i (gi (Prod.fst (hist c u l k)) ((k % (8 : Nat) + (6 : Nat)) % (8 : Nat))), V.i (gi (Prod.fst (hist c u l k)) ((k % (8 : Nat) + (5 : Nat)) % (8 : Nat))), V.i (gi (Prod.fst (hist c u l k)) ((k % (8 : Nat) + (4 : Nat)) % (8 : Nat))), V.i (gi (Prod.fst (hist c u l k)) ((k % (8 : Nat) + (3 : Nat)) % (8 : Nat))), V.i (gi (Prod.fst (hist c u l k)) ((k % (8 : Nat) + (2 : Nat)) % (8 : Nat))), V.i (gi (Prod.fst (hist c u l k)) ((k % (8 : Nat) + (1 : Nat)) % (8 : Nat))), V.i (gi (Prod.fst (hist c u l k)) (k % (8 : Nat) % (8 : Nat))), V.i (↑(k % (8 : Nat)) : Int), (yyFA50 c), (yyFA51 c), V.i (Cv.share c)]]) (v' := V.i (outK c u l k)) (δ := [(500, Option.some (Ob.box 287 [V.ref 501 0])), (501, Option.some (Ob.box 292 [V.i (gi (Prod.snd (hist c u l (k + (1 : Nat)))) (((k + (1 : Nat)) % (8 : Nat) + (7 : Nat)) % (8 : Nat))), V.i (gi (Prod.snd (hist c u l (k + (1 : Nat)))) (((k + (1 : Nat)) % (8 : Nat) + (6 : Nat)) % (8 : Nat))), V.i (gi (Prod.snd (hist c u l (k + (1 : Nat)))) (((k + (1 : Nat)) % (8 : Nat) + (5 : Nat)) % (8 : Nat))), V.i (gi (Prod.snd (hist c u l (k + (1 : Nat)))) (((k + (1 : Nat)) % (8 : Nat) + (4 : Nat)) % (8 : Nat))), V.i (gi (Prod.snd (hist c u l (k + (1 : Nat)))) (((k + (1 : Nat)) % (8 : Nat) + (3 : Nat)) % (8 : Nat))), V.i (gi (Prod.snd (hist c u l (k + (1 : Nat)))) (((k + (1 : Nat)) % (8 : Nat) + (2 : Nat)) % (8 : Nat))), V.i (gi (Prod.snd (hist c u l (k + (1 : Nat)))) (((k + (1 : Nat)) % (8 : Nat) + (1 : Nat)) % (8 : Nat))), V.i (gi (Prod.snd (hist c u l (k + (1 : Nat)))) ((k + (1 : Nat)) % (8 : Nat) % (8 : Nat))), V.i (↑((k + (1 : Nat)) % (8 : Nat)) : Int), V.i (gi (Prod.fst (hist c u l (k + (1 : Nat)))) (((k + (1 : Nat)) % (8 : Nat) + (7 : Nat)) % (8 : Nat))), V.i (gi (Prod.fst (hist c u l (k + (1 : Nat)))) (((k + (1 : Nat)) % (8 : Nat) + (6 : Nat)) % (8 : Nat))), V.i (gi (Prod.fst (hist c u l (k + (1 : Nat)))) (((k + (1 : Nat)) % (8 : Nat) + (5 : Nat)) % (8 : Nat))), V.i (gi (Prod.fst (hist c u l (k + (1 : Nat)))) (((k + (1 : Nat)) % (8 : Nat) + (4 : Nat)) % (8 : Nat))), V.i (gi (Prod.fst (hist c u l (k + (1 : Nat)))) (((k + (1 : Nat)) % (8 : Nat) + (3 : Nat)) % (8 : Nat))), V.i (gi (Prod.fst (hist c u l (k + (1 : Nat)))) (((k + (1 : Nat)) % (8 : Nat) + (2 : Nat)) % (8 : Nat))), V.i (gi (Prod.fst (hist c u l (k + (1 : Nat)))) (((k + (1 : Nat)) % (8 : Nat) + (1 : Nat)) % (8 : Nat))), V.i (gi (Prod.fst (hist c u l (k + (1 : Nat)))) ((k + (1 : Nat)) % (8 : Nat) % (8 : Nat))), V.i (↑((k + (1 : Nat)) % (8 : Nat)) : Int), (yyFA50 c), (yyFA51 c), V.i (Cv.share c)]))]) (kp := [500, 501]) (step1_hist c u l k mx hc hm ha hfk) kR kR kR kR kR kR rfl rfl kR (.box kR kR (.box kR kR .nil)) kR kR kR ?_
  refine aX hTT 1 [] tI ?_; refine aops_nil (xt_n (hK _ ?_)); clear hK K; refine aw_seq_k fun K hK => ?_; refine aw_seq_k fun K hK => wR 5 ?_; refine aX hTT 2 [] tI ?_
  refine e_call (first := []) (caps := [V.ptr [V.i mx]]) (within1_ac (outK c u l k) mx oM) kR kR kR kR kR ?_
  refine aX hTT 1 [] tI ?_; refine aops_nil (xt_n (hK _ ?_)); clear hK K
  refine w_cond (t := !!bey (outK c u l k) mx) kR (fun c2 => ?_) (fun c2 => ?_)
  ·
   simp at c2
   rw [hf k c1] at c2
   cases c2
  simp at c2
  refine aw_skip ?_
  refine xt_n (hK _ ?_); clear hK K; refine wR 6 ?_; refine aX hTT 5 [(3, .r (PR.mk (some (31 : Nat)) (some (k + (1 : Nat) ≤ (1099511627776 : Nat))) (V.own 500031) [((8 : Nat), none), ((500031 : Nat), some (Ob.row 2 1 (k + (1 : Nat)) (appRow k (fun (j : Nat) => [V.i (gi (resL c u l) j)]) fun (i : Nat) => List.take (1 : Nat) (List.drop (i * (1 : Nat)) [V.i (outK c u l k)]))))] false))] ⟨oM, tI⟩ ?_; refine aops_nil ?_; refine xb_n ?_; refine xt_n (hK _ ?_); clear hK K; refine wR 7 ?_; refine aX hTT 2 [(0, .i ((↑k : Int) + (1 : Int)))] ⟨oM, tI⟩ ?_; refine aops_nil ?_; refine xt_n ?_
  refine ⟨k + 1, ⟨by omega, fun i hi => ?_⟩, ?_, by omega⟩
  ·
   by_cases h : i < k
   ·
    exact hfk i h
   ·
    obtain rfl : i = k := by omega
    exact c2
  refine le_ren (tl := [(1, V.fn (Fn.func (174 : Nat)) [] [V.ptr [V.b u], V.ref 500 0]), (2, V.fn (Fn.func (177 : Nat)) [] [V.ptr [V.i mx]]), (8, V.own 8), (15, V.sl 1 (List.length l) fun (k : Nat) => [V.i (gi l k)]), (16, V.i (↑(List.length l) : Int)), (17, V.i (↑(k + (1 : Nat)) : Int))]) (sl := [(500, Ob.box 287 [V.ref 501 0]), (501, Ob.box 292 [V.i (gi (Prod.snd (hist c u l (k + (1 : Nat)))) (((k + (1 : Nat)) % (8 : Nat) + (7 : Nat)) % (8 : Nat))), V.i (gi (Prod.snd (hist c u l (k + (1 : Nat)))) (((k + (1 : Nat)) % (8 : Nat) + (6 : Nat)) % (8 : Nat))), V.i (gi (Prod.snd (hist c u l (k + (1 : Nat)))) (((k + (1 : Nat)) % (8 : Nat) + (5 : Nat)) % (8 : Nat))), V.i (gi (Prod.snd (hist c u l (k + (1 : Nat)))) (((k + (1 : Nat)) % (8 : Nat) + (4 : Nat)) % (8 : Nat))), V.i (gi (Prod.snd (hist c u l (k + (1 : Nat)))) (((k + (1 : Nat)) % (8 : Nat) + (3 : Nat)) % (8 : Nat))), V.i (gi (Prod.snd (hist c u l (k + (1 : Nat)))) (((k + (1 : Nat)) % (8 : Nat) + (2 : Nat)) % (8 : Nat))), V.i (gi (Prod.snd (hist c u l (k + (1 : Nat)))) (((k + (1 : Nat)) % (8 : Nat) + (1 : Nat)) % (8 : Nat))), V.i (gi (Prod.snd (hist c u l (k + (1 : Nat)))) ((k + (1 : Nat)) % (8 : Nat) % (8 : Nat))), V.i (↑((k + (1 : Nat)) % (8 : Nat)) : Int), V.i (gi (Prod.fst (hist c u l (k + (1 : Nat)))) (((k + (1 : Nat)) % (8 : Nat) + (7 : Nat)) % (8 : Nat))), V.i (gi (Prod.fst (hist c u l (k + (1 : Nat)))) (((k + (1 : Nat)) % (8 : Nat) + (6 : Nat)) % (8 : Nat))), V.i (gi (Prod.fst (hist c u l (k + (1 : Nat)))) (((k + (1 : Nat)) % (8 : Nat) + (5 : Nat)) % (8 : Nat))), V.i (gi (Prod.fst (hist c u l (k + (1 : Nat)))) (((k + (1 : Nat)) % (8 : Nat) + (4 : Nat)) % (8 : Nat))), V.i (gi (Prod.fst (hist c u l (k + (1 : Nat)))) (((k + (1 : Nat)) % (8 : Nat) + (3 : Nat)) % (8 : Nat))), V.i (gi (Prod.fst (hist c u l (k + (1 : Nat)))) (((k + (1 : Nat)) % (8 : Nat) + (2 : Nat)) % (8 : Nat))), V.i (gi (Prod.fst (hist c u l (k + (1 : Nat)))) (((k + (1 : Nat)) % (8 : Nat) + (1 : Nat)) % (8 : Nat))), V.i (gi (Prod.fst (hist c u l (k + (1 : Nat)))) ((k + (1 : Nat)) % (8 : Nat) % (8 : Nat))), V.i (↑((k + (1 : Nat)) % (8 : Nat)) : Int), (yyFA50 c), (yyFA51 c), V.i (Cv.share c)]), (8, Ob.row 2 1 (k + (1 : Nat)) fun (j : Nat) => [V.i (gi (resL c u l) j)])]) [(8, 500031)] (.cons kR (.cons kR (.cons kR (.cons kR (.cons kR (.cons kR .nil)))))) (.cons ⟨Ob.box 287 [V.ref 501 0], kR, .box kR⟩ (.cons ⟨Ob.box 292 [V.i (gi (Prod.snd (hist c u l (k + (1 : Nat)))) (((k + (1 : Nat)) % (8 : Nat) + (7 : Nat)) % (8 : Nat))), V.i (gi (Prod.snd (hist c u l (k + (1 : Nat)))) (((k + (1 : Nat)) % (8 : Nat) + (6 : Nat)) % (8 : Nat))), V.i (gi (Prod.snd (hist c u l (k + (1 : Nat)))) (((k + (1 : Nat)) % (8 : Nat) + (5 : Nat)) % (8 : Nat))), V.i (gi (Prod.snd (hist c u l (k + (1 : Nat)))) (((k + (1 : Nat)) % (8 : Nat) + (4 : Nat)) % (8 : Nat))), V.i (gi (Prod.snd (hist c u l (k + (1 : Nat)))) (((k + (1 : Nat)) % (8 : Nat) + (3 : Nat)) % (8 : Nat))), V.i (gi (Prod.snd (hist c u l (k + (1 : Nat)))) (((k + (1 : Nat)) % (8 : Nat) + (2 : Nat)) % (8 : Nat))), V.i (gi (Prod.snd (hist c u l (k + (1 : Nat)))) (((k + (1 : Nat)) % (8 : Nat) + (1 : Nat)) % (8 : Nat))), V.i (gi (Prod.snd (hist c u l (k + (1 : Nat)))) ((k + (1 : Nat)) % (8 : Nat) % (8 : Nat))), V.i (↑((k + (1 : Nat)) % (8 : Nat)) : Int), V.i (gi (Prod.fst (hist c u l (k + (1 : Nat)))) (((k + (1 : Nat)) % (8 : Nat) + (7 : Nat)) % (8 : Nat))), V.i (gi (Prod.fst (hist c u l (k + (1 : Nat)))) (((k + (1 : Nat)) % (8 : Nat) + (6 : Nat)) % (8 : Nat))), V.i (gi (Prod.fst (hist c u l (k + (1 : Nat)))) (((k + (1 : Nat)) % (8 : Nat) + (5 : Nat)) % (8 : Nat))), V.i (gi (Prod.fst (hist c u l (k + (1 : Nat)))) (((k + (1 : Nat)) % (8 : Nat) + (4 : Nat)) % (8 : Nat))), V.i (gi (Prod.fst (hist c u l (k + (1 : Nat)))) (((k + (1 : Nat)) % (8 : Nat) + (3 : Nat)) % (8 : Nat))), V.i (gi (Prod.fst (hist c u l (k + (1 : Nat)))) (((k + (1 : Nat)) % (8 : Nat) + (2 : Nat)) % (8 : Nat))), V.i (gi (Prod.fst (hist c u l (k + (1 : Nat)))) (((k + (1 : Nat)) % (8 : Nat) + (1 : Nat)) % (8 : Nat))), V.i (gi (Prod.fst (hist c u l (k + (1 : Nat)))) ((k + (1 : Nat)) % (8 : Nat) % (8 : Nat))), V.i (↑((k + (1 : Nat)) % (8 : Nat)) : Int), (yyFA50 c), (yyFA51 c), V.i (Cv.share c)], kR, .box kR⟩ (.cons ⟨Ob.row 2 1 (k + (1 : Nat)) (appRow k (fun (j : Nat) => [V.i (gi (resL c u l) j)]) fun (i : Nat) => List.take (1 : Nat) (List.drop (i * (1 : Nat)) [V.i (outK c u l k)])), kR, .row kR ?_⟩ .nil))) kR kR
  intro i hi
  by_cases h : i < k
  ·
   rw [appRow, if_pos h]
   rfl
  ·
   obtain rfl : i = k := by omega
   rw [appRow, if_neg h, Nat.sub_self]
   show _ = [V.i (gi (resL c u l) i)]
   rw [resL_gi c1]
   rfl
 ·
  simp at c1
  obtain rfl : k = l.length := by omega
  refine aw_exit ?_
  refine xt_x ?_; refine xt_x ?_
  refine xb_same ?_
  refine xt_n ?_; clear hK K; refine hK _ ?_; clear hK K; refine aw_seq_k fun K hK => wR 3 ?_; refine aX hTT 3 [] tI ?_; refine aops_nil (xt_n (hK _ ?_)); clear hK K
  refine aw_ret ?_
  refine retM (v' := V.tup [V.own 0, V.i 0]) [(0, 8)] [(6, V.own 0), (7, V.i 0)] (.inr rfl) (.cons kR (.cons kR .nil)) (.cons ⟨Ob.row 2 1 (List.length l) fun (j : Nat) => [V.i (gi (resL c u l) j)], kR, .row kR (fun _ _ => rfl)⟩ .nil) kR kR kR kR kR kR kR
set_option maxRecDepth 100000 in
theorem each_no (c : Cv) (u : Bool) (l : List Int) (mx : Int) (hc : cvOk c) (hl : l.length ≤ 8192) (hm : 0 ≤ mx ∧ mx ≤ 131072) (ha : AllLe mx l) {j : Nat} (hj : j < l.length) (hb : bey (outK c u l j) mx = true) :
  AM Tryz.prog 161 [V.ints l, FStep u 500, FIn mx] [PB 501, St c [] [] 0] (.tup [.nil, .i 4]) [none, none] [] := by
 refine am_intro hTT hMX (fn := Tryz.f161) (N := _) ⟨Tryz.func161, rfl, Tryz.ntmps161, kR⟩ (by simp) rfl (by simp) (by simp) fun C hF => ?_
 refine aw_seq_k fun K hK => wR 2 ?_; refine aX hTT 2 [] tI ?_; refine aops_nil (xt_n (hK _ ?_)); clear hK K; refine aw_seq_k fun K hK => wR 3 ?_; refine aX hTT 4 [(2, .r (PR.mk (some (14 : Nat)) (some ((0 : Int) ≤ (0 : Int) ∧ (0 : Int) ≤ (↑(List.length l) : Int) ∧ (↑(List.length l) : Int) ≤ (1099511627776 : Int))) (V.own 200014) [((200014 : Nat), some (Ob.row 2 1 0 fun (x : Nat) => [V.c (Value.int IntKind.i64 0)]))] false))] ⟨⟨oM, oM⟩, tI⟩ ?_; refine aops_nil (xt_n (hK _ ?_)); clear hK K; refine aw_seq_k fun K hK => ?_; refine aw_seq_k fun K hK => wR 4 ?_; refine aX hTT 3 [] tI ?_; refine aops_nil (xt_n (hK _ ?_)); clear hK K
 refine aw_block ?_
 refine w_loop (ι := Nat) (fun k => [(1, FStep u 500), (2, FIn mx), (8, .own 8), (15, V.ints l), (16, .i l.length), (17, .i k)])
  (fun k => [(500, PB 501), (501, St c (hist c u l k).2 (hist c u l k).1 (k % 8)), (8, .row 2 1 k fun j => [.i (gi (resL c u l) j)])]) (fun k => k ≤ l.length ∧ fine c u l mx k) (fun k => l.length - k) 0 ⟨Nat.zero_le _, fun j hj => by omega⟩ ?_ ?_
 ·
  refine le_ren (tl := [(1, V.fn (Fn.func (174 : Nat)) [] [V.ptr [V.b u], V.ref 500 0]), (2, V.fn (Fn.func (177 : Nat)) [] [V.ptr [V.i mx]]), (8, V.own 8), (15, V.sl 1 (List.length l) fun (k : Nat) => [V.i (gi l k)]), (16, V.i (↑(List.length l) : Int)), (17, V.i 0)]) (sl := [(500, Ob.box 287 [V.ref 501 0]), (501, Ob.box 292 [V.i (gi (Prod.snd (hist c u l (0 : Nat))) (((0 : Nat) % (8 : Nat) + (7 : Nat)) % (8 : Nat))), V.i (gi (Prod.snd (hist c u l (0 : Nat))) (((0 : Nat) % (8 : Nat) + (6 : Nat)) % (8 : Nat))), V.i (gi (Prod.snd (hist c u l (0 : Nat))) (((0 : Nat) % (8 : Nat) + (5 : Nat)) % (8 : Nat))), V.i (gi (Prod.snd (hist c u l (0 : Nat))) (((0 : Nat) % (8 : Nat) + (4 : Nat)) % (8 : Nat))), V.i (gi (Prod.snd (hist c u l (0 : Nat))) (((0 : Nat) % (8 : Nat) + (3 : Nat)) % (8 : Nat))), V.i (gi (Prod.snd (hist c u l (0 : Nat))) (((0 : Nat) % (8 : Nat) + (2 : Nat)) % (8 : Nat))), V.i (gi (Prod.snd (hist c u l (0 : Nat))) (((0 : Nat) % (8 : Nat) + (1 : Nat)) % (8 : Nat))), V.i (gi (Prod.snd (hist c u l (0 : Nat))) ((0 : Nat) % (8 : Nat) % (8 : Nat))), V.i 0, V.i (gi (Prod.fst (hist c u l (0 : Nat))) (((0 : Nat) % (8 : Nat) + (7 : Nat)) % (8 : Nat))), V.i (gi (Prod.fst (hist c u l (0 : Nat))) (((0 : Nat) % (8 : Nat) + (6 : Nat)) % (8 : Nat))), V.i (gi (Prod.fst (hist c u l (0 : Nat))) (((0 : Nat) % (8 : Nat) + (5 : Nat)) % (8 : Nat))), V.i (gi (Prod.fst (hist c u l (0 : Nat))) (((0 : Nat) % (8 : Nat) + (4 : Nat)) % (8 : Nat))), V.i (gi (Prod.fst (hist c u l (0 : Nat))) (((0 : Nat) % (8 : Nat) + (3 : Nat)) % (8 : Nat))), V.i (gi (Prod.fst (hist c u l (0 : Nat))) (((0 : Nat) % (8 : Nat) + (2 : Nat)) % (8 : Nat))), V.i (gi (Prod.fst (hist c u l (0 : Nat))) (((0 : Nat) % (8 : Nat) + (1 : Nat)) % (8 : Nat))), V.i (gi (Prod.fst (hist c u l (0 : Nat))) ((0 : Nat) % (8 : Nat) % (8 : Nat))), V.i 0, (yyFA50 c), (yyFA51 c), V.i (Cv.share c)]), (8, Ob.row 2 1 0 fun (j : Nat) => [V.i (gi (resL c u l) j)])]) [(8, 200014)] (.cons kR (.cons kR (.cons kR (.cons kR (.cons kR (.cons kR .nil)))))) (.cons ⟨Ob.box 287 [V.ref 501 0], kR, .box kR⟩ (.cons ⟨Ob.box 292 [V.i (gi [] (((0 : Nat) + (7 : Nat)) % (8 : Nat))), V.i (gi [] (((0 : Nat) + (6 : Nat)) % (8 : Nat))), V.i (gi [] (((0 : Nat) + (5 : Nat)) % (8 : Nat))), V.i (gi [] (((0 : Nat) + (4 : Nat)) % (8 : Nat))), V.i (gi [] (((0 : Nat) + (3 : Nat)) % (8 : Nat))), V.i (gi [] (((0 : Nat) + (2 : Nat)) % (8 : Nat))), V.i (gi [] (((0 : Nat) + (1 : Nat)) % (8 : Nat))), V.i (gi [] ((0 : Nat) % (8 : Nat))), V.i 0, V.i (gi [] (((0 : Nat) + (7 : Nat)) % (8 : Nat))), V.i (gi [] (((0 : Nat) + (6 : Nat)) % (8 : Nat))), V.i (gi [] (((0 : Nat) + (5 : Nat)) % (8 : Nat))), V.i (gi [] (((0 : Nat) + (4 : Nat)) % (8 : Nat))), V.i (gi [] (((0 : Nat) + (3 : Nat)) % (8 : Nat))), V.i (gi [] (((0 : Nat) + (2 : Nat)) % (8 : Nat))), V.i (gi [] (((0 : Nat) + (1 : Nat)) % (8 : Nat))), V.i (gi [] ((0 : Nat) % (8 : Nat))), V.i 0, (yyFA50 c), (yyFA51 c), V.i (Cv.share c)], kR, .box kR⟩ (.cons ⟨Ob.row 2 1 0 fun (x : Nat) => [V.c (Value.int IntKind.i64 0)], kR, .row kR ?_⟩ .nil))) kR kR
  intro i hi
  omega
 rintro k ⟨hk, hfk⟩
 refine aw_seq_k fun K hK => wR 2 ?_; refine aX hTT 1 [] tI ?_; refine aops_nil (xt_n (hK _ ?_)); clear hK K; refine aw_seq_k fun K hK => ?_
 refine w_cond (t := decide ((↑k : Int) < (↑(List.length l) : Int))) kR (fun c1 => ?_) (fun c1 => ?_)
 ·
  simp at c1
  refine aw_skip ?_
  refine xt_n (hK _ ?_); clear hK K; refine aw_seq_k fun K hK => ?_
  refine aw_block ?_
  refine aw_seq_k fun K hK => wR 3 ?_; refine aX hTT 3 [(0, .c ((0 : Int) ≤ (↑k : Int) ∧ (↑k : Int) < (↑(List.length l) : Int)))] ⟨oM, tI⟩ ?_; refine aops_nil (xt_n (hK _ ?_)); clear hK K; refine aw_seq_k fun K hK => wR 4 ?_; refine aX hTT 2 [] tI ?_
  refine aops_callM [500, 501] (first := []) (caps := [V.ptr [V.b u], V.ref 500 0]) (ins' := [Ob.box 287 [V.ref 501 0], Ob.box 292 [V.i (gi (Prod.snd (hist c u l k)) ((k % (8 : Nat) + (7 : Nat)) % (8 : Nat))), V.i (gi (Prod.snd (hist c u l k)) ((k % (8 : Nat) + (6 : Nat)) % (8 : Nat))), V.i (gi (Prod.snd (hist c u l k)) ((k % (8 : Nat) + (5 : Nat)) % (8 : Nat))), V.i (gi (Prod.snd (hist c u l k)) ((k % (8 : Nat) + (4 : Nat)) % (8 : Nat))), V.i (gi (Prod.snd (hist c u l k)) ((k % (8 : Nat) + (3 : Nat)) % (8 : Nat))), V.i (gi (Prod.snd (hist c u l k)) ((k % (8 : Nat) + (2 : Nat)) % (8 : Nat))), V.i (gi (Prod.snd (hist c u l k)) ((k % (8 : Nat) + (1 : Nat)) % (8 : Nat))), V.i (gi (Prod.snd (hist c u l k)) (k % (8 : Nat) % (8 : Nat))), V.i (↑(k % (8 : Nat)) : Int), V.i (gi (Prod.fst (hist c u l k)) ((k % (8 : Nat) + (7 : Nat)) % (8 : Nat))), V.i (gi (Prod.fst (hist c u l k)) ((k % (8 : Nat) + (6 : Nat)) % (8 : Nat))), V.i (gi (Prod.fst (hist c u l k)) ((k % (8 : Nat) + (5 : Nat)) % (8 : Nat))), V.i (gi (Prod.fst (hist c u l k)) ((k % (8 : Nat) + (4 : Nat)) % (8 : Nat))), V.i (gi (Prod.fst (hist c u l k)) ((k % (8 : Nat) + (3 : Nat)) % (8 : Nat))), V.i (gi (Prod.fst (hist c u l k)) ((k % (8 : Nat) + (2 : Nat)) % (8 : Nat))), V.i (gi (Prod.fst (hist c u l k)) ((k % (8 : Nat) + (1 : Nat)) % (8 : Nat))), V.i (gi (Prod.fst (hist c u l k)) (k % (8 : Nat) % (8 : Nat))), V.i (↑(k % (8 : Nat)) : Int), (yyFA50 c), (yyFA51 c), V.i (Cv.share c)]]) (v' := V.i (outK c u l k)) (δ := [(500, Option.some (Ob.box 287 [V.ref 501 0])), (501, Option.some (Ob.box 292 [V.i (gi (Prod.snd (hist c u l (k + (1 : Nat)))) (((k + (1 : Nat)) % (8 : Nat) + (7 : Nat)) % (8 : Nat))), V.i (gi (Prod.snd (hist c u l (k + (1 : Nat)))) (((k + (1 : Nat)) % (8 : Nat) + (6 : Nat)) % (8 : Nat))), V.i (gi (Prod.snd (hist c u l (k + (1 : Nat)))) (((k + (1 : Nat)) % (8 : Nat) + (5 : Nat)) % (8 : Nat))), V.i (gi (Prod.snd (hist c u l (k + (1 : Nat)))) (((k + (1 : Nat)) % (8 : Nat) + (4 : Nat)) % (8 : Nat))), V.i (gi (Prod.snd (hist c u l (k + (1 : Nat)))) (((k + (1 : Nat)) % (8 : Nat) + (3 : Nat)) % (8 : Nat))), V.i (gi (Prod.snd (hist c u l (k + (1 : Nat)))) (((k + (1 : Nat)) % (8 : Nat) + (2 : Nat)) % (8 : Nat))), V.i (gi (Prod.snd (hist c u l (k + (1 : Nat)))) (((k + (1 : Nat)) % (8 : Nat) + (1 : Nat)) % (8 : Nat))), V.i (gi (Prod.snd (hist c u l (k + (1 : Nat)))) ((k + (1 : Nat)) % (8 : Nat) % (8 : Nat))), V.i (↑((k + (1 : Nat)) % (8 : Nat)) : Int), V.i (gi (Prod.fst (hist c u l (k + (1 : Nat)))) (((k + (1 : Nat)) % (8 : Nat) + (7 : Nat)) % (8 : Nat))), V.i (gi (Prod.fst (hist c u l (k + (1 : Nat)))) (((k + (1 : Nat)) % (8 : Nat) + (6 : Nat)) % (8 : Nat))), V.i (gi (Prod.fst (hist c u l (k + (1 : Nat)))) (((k + (1 : Nat)) % (8 : Nat) + (5 : Nat)) % (8 : Nat))), V.i (gi (Prod.fst (hist c u l (k + (1 : Nat)))) (((k + (1 : Nat)) % (8 : Nat) + (4 : Nat)) % (8 : Nat))), V.i (gi (Prod.fst (hist c u l (k + (1 : Nat)))) (((k + (1 : Nat)) % (8 : Nat) + (3 : Nat)) % (8 : Nat))), V.i (gi (Prod.fst (hist c u l (k + (1 : Nat)))) (((k + (1 : Nat)) % (8 : Nat) + (2 : Nat)) % (8 : Nat))), V.i (gi (Prod.fst (hist c u l (k + (1 : Nat)))) (((k + (1 : Nat)) % (8 : Nat) + (1 : Nat)) % (8 : Nat))), V.i (gi (Prod.fst (hist c u l (k + (1 : Nat)))) ((k + (1 : Nat)) % (8 : Nat) % (8 : Nat))), V.i (↑((k + (1 : Nat)) % (8 : Nat)) : Int), (yyFA50 c), (yyFA51 c), V.i (Cv.share c)]))]) (kp := [500, 501]) (step1_hist c u l k mx hc hm ha hfk) kR kR kR kR kR kR rfl rfl kR (.box kR kR (.box kR kR .nil)) kR kR kR ?_
  refine aX hTT 1 [] tI ?_; refine aops_nil (xt_n (hK _ ?_)); clear hK K; refine aw_seq_k fun K hK => ?_; refine aw_seq_k fun K hK => wR 5 ?_; refine aX hTT 2 [] tI ?_
  refine e_call (first := []) (caps := [V.ptr [V.i mx]]) (within1_ac (outK c u l k) mx oM) kR kR kR kR kR ?_
  refine aX hTT 1 [] tI ?_; refine aops_nil (xt_n (hK _ ?_)); clear hK K
  refine w_cond (t := !!bey (outK c u l k) mx) kR (fun c2 => ?_) (fun c2 => ?_)
  ·
   simp at c2
   refine aw_seq_k fun K hK => wR 6 ?_; refine aX hTT 2 [] tI ?_; refine aops_nil (xt_n (hK _ ?_)); clear hK K
   refine aw_ret ?_
   refine xt_r ?_
   refine xb_r ?_
   refine xt_r ?_; refine xt_r ?_
   refine xb_r ?_
   refine xt_r ?_
   refine retM (v' := V.tup [V.nil, V.i 4]) [] [(6, V.nil), (7, V.i 4)] (.inr rfl) (.cons kR (.cons kR .nil)) .nil kR kR kR kR kR kR kR
  simp at c2
  refine aw_skip ?_
  refine xt_n (hK _ ?_); clear hK K; refine wR 6 ?_; refine aX hTT 5 [(3, .r (PR.mk (some (31 : Nat)) (some (k + (1 : Nat) ≤ (1099511627776 : Nat))) (V.own 500031) [((8 : Nat), none), ((500031 : Nat), some (Ob.row 2 1 (k + (1 : Nat)) (appRow k (fun (j : Nat) => [V.i (gi (resL c u l) j)]) fun (i : Nat) => List.take (1 : Nat) (List.drop (i * (1 : Nat)) [V.i (outK c u l k)]))))] false))] ⟨oM, tI⟩ ?_; refine aops_nil ?_; refine xb_n ?_; refine xt_n (hK _ ?_); clear hK K; refine wR 7 ?_; refine aX hTT 2 [(0, .i ((↑k : Int) + (1 : Int)))] ⟨oM, tI⟩ ?_; refine aops_nil ?_; refine xt_n ?_
  refine ⟨k + 1, ⟨by omega, fun i hi => ?_⟩, ?_, by omega⟩
  ·
   by_cases h : i < k
   ·
    exact hfk i h
   ·
    obtain rfl : i = k := by omega
    exact c2
  refine le_ren (tl := [(1, V.fn (Fn.func (174 : Nat)) [] [V.ptr [V.b u], V.ref 500 0]), (2, V.fn (Fn.func (177 : Nat)) [] [V.ptr [V.i mx]]), (8, V.own 8), (15, V.sl 1 (List.length l) fun (k : Nat) => [V.i (gi l k)]), (16, V.i (↑(List.length l) : Int)), (17, V.i (↑(k + (1 : Nat)) : Int))]) (sl := [(500, Ob.box 287 [V.ref 501 0]), (501, Ob.box 292 [V.i (gi (Prod.snd (hist c u l (k + (1 : Nat)))) (((k + (1 : Nat)) % (8 : Nat) + (7 : Nat)) % (8 : Nat))), V.i (gi (Prod.snd (hist c u l (k + (1 : Nat)))) (((k + (1 : Nat)) % (8 : Nat) + (6 : Nat)) % (8 : Nat))), V.i (gi (Prod.snd (hist c u l (k + (1 : Nat)))) (((k + (1 : Nat)) % (8 : Nat) + (5 : Nat)) % (8 : Nat))), V.i (gi (Prod.snd (hist c u l (k + (1 : Nat)))) (((k + (1 : Nat)) % (8 : Nat) + (4 : Nat)) % (8 : Nat))), V.i (gi (Prod.snd (hist c u l (k + (1 : Nat)))) (((k + (1 : Nat)) % (8 : Nat) + (3 : Nat)) % (8 : Nat))), V.i (gi (Prod.snd (hist c u l (k + (1 : Nat)))) (((k + (1 : Nat)) % (8 : Nat) + (2 : Nat)) % (8 : Nat))), V.i (gi (Prod.snd (hist c u l (k + (1 : Nat)))) (((k + (1 : Nat)) % (8 : Nat) + (1 : Nat)) % (8 : Nat))), V.i (gi (Prod.snd (hist c u l (k + (1 : Nat)))) ((k + (1 : Nat)) % (8 : Nat) % (8 : Nat))), V.i (↑((k + (1 : Nat)) % (8 : Nat)) : Int), V.i (gi (Prod.fst (hist c u l (k + (1 : Nat)))) (((k + (1 : Nat)) % (8 : Nat) + (7 : Nat)) % (8 : Nat))), V.i (gi (Prod.fst (hist c u l (k + (1 : Nat)))) (((k + (1 : Nat)) % (8 : Nat) + (6 : Nat)) % (8 : Nat))), V.i (gi (Prod.fst (hist c u l (k + (1 : Nat)))) (((k + (1 : Nat)) % (8 : Nat) + (5 : Nat)) % (8 : Nat))), V.i (gi (Prod.fst (hist c u l (k + (1 : Nat)))) (((k + (1 : Nat)) % (8 : Nat) + (4 : Nat)) % (8 : Nat))), V.i (gi (Prod.fst (hist c u l (k + (1 : Nat)))) (((k + (1 : Nat)) % (8 : Nat) + (3 : Nat)) % (8 : Nat))), V.i (gi (Prod.fst (hist c u l (k + (1 : Nat)))) (((k + (1 : Nat)) % (8 : Nat) + (2 : Nat)) % (8 : Nat))), V.i (gi (Prod.fst (hist c u l (k + (1 : Nat)))) (((k + (1 : Nat)) % (8 : Nat) + (1 : Nat)) % (8 : Nat))), V.i (gi (Prod.fst (hist c u l (k + (1 : Nat)))) ((k + (1 : Nat)) % (8 : Nat) % (8 : Nat))), V.i (↑((k + (1 : Nat)) % (8 : Nat)) : Int), (yyFA50 c), (yyFA51 c), V.i (Cv.share c)]), (8, Ob.row 2 1 (k + (1 : Nat)) fun (j : Nat) => [V.i (gi (resL c u l) j)])]) [(8, 500031)] (.cons kR (.cons kR (.cons kR (.cons kR (.cons kR (.cons kR .nil)))))) (.cons ⟨Ob.box 287 [V.ref 501 0], kR, .box kR⟩ (.cons ⟨Ob.box 292 [V.i (gi (Prod.snd (hist c u l (k + (1 : Nat)))) (((k + (1 : Nat)) % (8 : Nat) + (7 : Nat)) % (8 : Nat))), V.i (gi (Prod.snd (hist c u l (k + (1 : Nat)))) (((k + (1 : Nat)) % (8 : Nat) + (6 : Nat)) % (8 : Nat))), V.i (gi (Prod.snd (hist c u l (k + (1 : Nat)))) (((k + (1 : Nat)) % (8 : Nat) + (5 : Nat)) % (8 : Nat))), V.i (gi (Prod.snd (hist c u l (k + (1 : Nat)))) (((k + (1 : Nat)) % (8 : Nat) + (4 : Nat)) % (8 : Nat))), V.i (gi (Prod.snd (hist c u l (k + (1 : Nat)))) (((k + (1 : Nat)) % (8 : Nat) + (3 : Nat)) % (8 : Nat))), V.i (gi (Prod.snd (hist c u l (k + (1 : Nat)))) (((k + (1 : Nat)) % (8 : Nat) + (2 : Nat)) % (8 : Nat))), V.i (gi (Prod.snd (hist c u l (k + (1 : Nat)))) (((k + (1 : Nat)) % (8 : Nat) + (1 : Nat)) % (8 : Nat))), V.i (gi (Prod.snd (hist c u l (k + (1 : Nat)))) ((k + (1 : Nat)) % (8 : Nat) % (8 : Nat))), V.i (↑((k + (1 : Nat)) % (8 : Nat)) : Int), V.i (gi (Prod.fst (hist c u l (k + (1 : Nat)))) (((k + (1 : Nat)) % (8 : Nat) + (7 : Nat)) % (8 : Nat))), V.i (gi (Prod.fst (hist c u l (k + (1 : Nat)))) (((k + (1 : Nat)) % (8 : Nat) + (6 : Nat)) % (8 : Nat))), V.i (gi (Prod.fst (hist c u l (k + (1 : Nat)))) (((k + (1 : Nat)) % (8 : Nat) + (5 : Nat)) % (8 : Nat))), V.i (gi (Prod.fst (hist c u l (k + (1 : Nat)))) (((k + (1 : Nat)) % (8 : Nat) + (4 : Nat)) % (8 : Nat))), V.i (gi (Prod.fst (hist c u l (k + (1 : Nat)))) (((k + (1 : Nat)) % (8 : Nat) + (3 : Nat)) % (8 : Nat))), V.i (gi (Prod.fst (hist c u l (k + (1 : Nat)))) (((k + (1 : Nat)) % (8 : Nat) + (2 : Nat)) % (8 : Nat))), V.i (gi (Prod.fst (hist c u l (k + (1 : Nat)))) (((k + (1 : Nat)) % (8 : Nat) + (1 : Nat)) % (8 : Nat))), V.i (gi (Prod.fst (hist c u l (k + (1 : Nat)))) ((k + (1 : Nat)) % (8 : Nat) % (8 : Nat))), V.i (↑((k + (1 : Nat)) % (8 : Nat)) : Int), (yyFA50 c), (yyFA51 c), V.i (Cv.share c)], kR, .box kR⟩ (.cons ⟨Ob.row 2 1 (k + (1 : Nat)) (appRow k (fun (j : Nat) => [V.i (gi (resL c u l) j)]) fun (i : Nat) => List.take (1 : Nat) (List.drop (i * (1 : Nat)) [V.i (outK c u l k)])), kR, .row kR ?_⟩ .nil))) kR kR
  intro i hi
  by_cases h : i < k
  ·
   rw [appRow, if_pos h]
   rfl
  ·
   obtain rfl : i = k := by omega
   rw [appRow, if_neg h, Nat.sub_self]
   show _ = [V.i (gi (resL c u l) i)]
   rw [resL_gi c1]
   rfl
 ·
  simp at c1
  obtain rfl : k = l.length := by omega
  rw [hfk j hj] at hb
  cases hb
theorem AC.emp {P : Program} {f : FuncId} {v : V} {obs : List Ob} {sz : Nat} {row : Nat → List V} (h : ∀ A c, AC P f [.c (.slice A 0 c)] v obs) : AC P f [.sl sz 0 row] v obs := by
 refine ⟨(h none 0).1, fun L w vs hL hgl hv => ?_⟩
 obtain ⟨vs⟩ := vs
 obtain ⟨x, e, hr⟩ := hv.get (i := 0) rfl
 obtain ⟨A, c, rfl, _⟩ := hr.sl_inv
 refine (h A c).2 L w _ hL hgl ?_
 have hn := hv.1
 match vs, hn, e with
 | [y], _, e =>
  simp at e; subst e
  exact .cons (.c _ _) .nil
theorem emp_ints {w : World} {L : Nat → Prop} {ρ : Nat → Option Value} {A : Option Addr} {c : Nat} {x : Value} (h : R w L ρ (.c (.slice A 0 c)) x) : R w L ρ (V.ints []) x := by
 rw [h.c_inv]
 exact .sl0 _ _ _ _ _
set_option maxRecDepth 100000 in
theorem Clone_pos (l : List Int) (hl : l.length ≤ 8192) (h0 : 0 < l.length) : AC Tryz.prog 160 [V.ints l] (V.ints l) [] := by
 refine acI hTT hMX Tryz.func160 Tryz.ntmps160 fun C hC hF => ?_
 refine aw_seq_k fun K hK => wR 2 ?_
 refine aops_x (M := [5]) hTT 1 [] tI ?_
 refine aops_nil (xt_n (hK _ ?_)); clear hK K; refine aw_seq_k fun K hK => ?_; refine aw_seq_k fun K hK => wR 3 ?_
 refine aops_x (M := [5]) hTT 2 [(1, .c ((0 : Nat) < List.length l))] ⟨oM, tI⟩ ?_
 refine aops_nil (xt_n (hK _ ?_)); clear hK K; refine w_false (t := false) kR rfl ?_
 refine aw_skip ?_
 refine xt_n (hK _ ?_); clear hK K; refine aw_seq_k fun K hK => wR 4 ?_
 refine aops_x (M := [5]) hTT 4 [(0, .r (pn 5 (V.own 300005) (300005 : Nat) (Ob.row 2 1 0 fun (i : Nat) => List.take (1 : Nat) (List.drop (i * (1 : Nat)) (repV (0 : Nat) [V.c (Value.int IntKind.i64 0)]))))), (2, .r (PR.mk (some (7 : Nat)) (some ((0 : Nat) + List.length l ≤ (1099511627776 : Nat))) (V.own 300007) [((300005 : Nat), none), ((300007 : Nat), some (Ob.row 2 1 ((0 : Nat) + List.length l) (appRow (0 : Nat) (fun (i : Nat) => List.take (1 : Nat) (List.drop (i * (1 : Nat)) (repV (0 : Nat) [V.c (Value.int IntKind.i64 0)]))) fun (k : Nat) => [V.i (gi l k)])))] false))] ⟨oM, tI⟩ ?_
 refine aops_nil (xt_n (hK _ ?_)); clear hK K
 refine aw_ret ?_
 refine ret_of_le (le_shut 2 300007 (e := (2 : Nat)) (sz := (1 : Nat)) (n := (0 : Nat) + List.length l) (n' := l.length) (row := appRow (0 : Nat) (fun (i : Nat) => List.take (1 : Nat) (List.drop (i * (1 : Nat)) (repV (0 : Nat) [V.c (Value.int IntKind.i64 0)]))) fun (k : Nat) => [V.i (gi l k)]) (row' := (fun k => [.i (gi l k)])) kR kR (fun _ _ => rfl) ?_ ?_) ?_
 ·
  omega
 ·
  intro i hi
  rw [appRow, if_neg oM, Nat.sub_zero]
 refine rP (V.sl 1 (List.length l) fun (k : Nat) => [V.i (gi l k)])
theorem Clone_nil (c : Nat) : AC Tryz.prog 160 [.c (.slice none 0 c)] (V.ints []) [] := by
 refine acI hTT hMX Tryz.func160 Tryz.ntmps160 fun C hC hF => ?_
 refine aw_seq_k fun K hK => wR 2 ?_; refine aX hTT 1 [] tI ?_; refine aops_nil (xt_n (hK _ ?_)); clear hK K; refine aw_seq_k fun K hK => ?_; refine aw_seq_k fun K hK => wR 3 ?_; refine aX hTT 2 [] tI ?_; refine aops_nil (xt_n (hK _ ?_)); clear hK K; refine w_true (t := true) kR rfl ?_; refine aw_seq_k fun K hK => wR 4 ?_; refine aX hTT 1 [] tI ?_; refine aops_nil (xt_n (hK _ ?_)); clear hK K
 refine aw_ret ?_
 refine xt_r ?_
 refine ret_of_le (le_nil 2 (sz := 1) 0 (fun k => [.i (gi [] k)]) kR ?_) ?_
 ·
  rfl
 refine rP (V.sl 1 0 fun (k : Nat) => [V.i (gi [] k)])
set_option maxRecDepth 100000 in
theorem Clone_emp (a : Addr) (c : Nat) : AC Tryz.prog 160 [.c (.slice (some a) 0 c)] (V.ints []) [] := by
 refine acI hTT hMX Tryz.func160 Tryz.ntmps160 fun C hC hF => ?_
 refine aw_seq_k fun K hK => wR 2 ?_; refine aX hTT 1 [] tI ?_; refine aops_nil (xt_n (hK _ ?_)); clear hK K; refine aw_seq_k fun K hK => ?_; refine aw_seq_k fun K hK => wR 3 ?_; refine aX hTT 2 [] tI ?_; refine aops_nil (xt_n (hK _ ?_)); clear hK K; refine w_false (t := false) kR rfl ?_
 refine aw_skip ?_
 refine xt_n (hK _ ?_); clear hK K; refine aw_seq_k fun K hK => ?_
 refine w_le (le_val 0 (V.ints []) fun w L ρ x hx => emp_ints hx) ?_
 refine wR 4 ?_
 refine aops_x (M := [5]) hTT 4 [(0, .r (pn 5 (V.own 300005) (300005 : Nat) (Ob.row 2 1 0 fun (i : Nat) => List.take (1 : Nat) (List.drop (i * (1 : Nat)) (repV (0 : Nat) [V.c (Value.int IntKind.i64 0)]))))), (2, .r (PR.mk (some (7 : Nat)) (some ((0 : Nat) + (0 : Nat) ≤ (1099511627776 : Nat))) (V.own 300007) [((300005 : Nat), none), ((300007 : Nat), some (Ob.row 2 1 0 (appRow (0 : Nat) (fun (i : Nat) => List.take (1 : Nat) (List.drop (i * (1 : Nat)) (repV (0 : Nat) [V.c (Value.int IntKind.i64 0)]))) fun (k : Nat) => [V.i (gi [] k)])))] false))] ⟨oM, tI⟩ ?_
 refine aops_nil (xt_n (hK _ ?_)); clear hK K
 refine aw_ret ?_
 refine ret_of_le (le_shut 2 300007 (e := (2 : Nat)) (sz := (1 : Nat)) (n := (0 : Nat)) (n' := 0) (row := appRow (0 : Nat) (fun (i : Nat) => List.take (1 : Nat) (List.drop (i * (1 : Nat)) (repV (0 : Nat) [V.c (Value.int IntKind.i64 0)]))) fun (k : Nat) => [V.i (gi [] k)]) (row' := (fun k => [.i (gi [] k)])) kR kR (fun _ _ => rfl) ?_ ?_) ?_
 ·
  rfl
 ·
  intro i hi
  omega
 refine rP (V.sl 1 0 fun (k : Nat) => [V.i (gi [] k)])
theorem Clone_ac (l : List Int) (hl : l.length ≤ 8192) : AC Tryz.prog 160 [V.ints l] (V.ints l) [] := by
 by_cases h0 : 0 < l.length
 ·
  exact Clone_pos l hl h0
 ·
  obtain rfl : l = [] := List.length_eq_zero_iff.1 oM
  refine AC.emp fun A c => ?_
  cases A with
  | some a => exact Clone_emp a c
  | none => exact Clone_nil c
end Go.Proofs.YtplnhbenmgclfaaGreatDoor

namespace Go.Proofs.YtplnhbenmgclfaaGreatDoor
open Go.Ab Go.RowKit Go.Dw Go.Shelf
def seqC (l : List Cv) (u : Bool) : List Cv := if u then l.reverse else l
theorem seqC_len (l : List Cv) (u : Bool) : (seqC l u).length = l.length := by cases u <;> simp [seqC]
theorem seqC_gc {l : List Cv} {u : Bool} {k : Nat} (hk : k < l.length) : gc (seqC l u) k = gc l (if u then l.length - 1 - k else k) := by
 cases u
 ·
  rfl
 ·
  simp [seqC, gc, List.getElem?_reverse hk]
theorem take_gc {l : List Cv} {k : Nat} (hk : k < l.length) : l.take (k + 1) = l.take k ++ [gc l k] := by
 rw [gc_eq hk, List.take_succ_eq_append_getElem hk]
theorem chainI_fold (l : List Cv) (u : Bool) (m : Int) (x : List Int) : chainI l u m x = foldI u m (seqC l u) (some x) := by cases u <;> rfl
theorem foldI_snoc {u : Bool} {m : Int} {l : List Cv} {k : Nat} {x y : List Int} (hk : k < l.length) (h : foldI u m (l.take k) (some x) = some y) : foldI u m (l.take (k + 1)) (some x) = runI (gc l k) u m y := by
 rw [take_gc hk, foldI_append, h]; rfl
theorem foldI_stop {u : Bool} {m : Int} {l : List Cv} {k : Nat} {x : List Int} (h : foldI u m (l.take k) (some x) = none) : foldI u m l (some x) = none := by
 rw [← List.take_append_drop k l, foldI_append, h, foldI_none]
def chR (l : List Cv) (u : Bool) (x : List Int) : Int × List Int :=
 if fChE l ≠ 0 then (fChE l, []) else if sigE x ≠ 0 then (sigE x, []) else match chainI l u 32767 x with
  | some y => (0, y)
  | none => (4, [])
theorem chR_1 {l : List Cv} {u : Bool} {x : List Int} (h : ¬ fChE l = 0) : chR l u x = (fChE l, []) := by rw [chR, if_pos h]
theorem chR_2 {l : List Cv} {u : Bool} {x : List Int} (h : fChE l = 0) (h2 : ¬ sigE x = 0) : chR l u x = (sigE x, []) := by rw [chR, if_neg (by simp [h]), if_pos h2]
theorem chR_3 {l : List Cv} {u : Bool} {x : List Int} (h : fChE l = 0) (h2 : sigE x = 0) (h3 : chainI l u 32767 x = none) : chR l u x = (4, []) := by rw [chR, if_neg (by simp [h]), if_neg (by simp [h2]), h3]
theorem chR_4 {l : List Cv} {u : Bool} {x y : List Int} (h : fChE l = 0) (h2 : sigE x = 0) (h3 : chainI l u 32767 x = some y) : chR l u x = (0, y) := by rw [chR, if_neg (by simp [h]), if_neg (by simp [h2]), h3]
theorem fine_or (c : Cv) (u : Bool) (l : List Int) (m : Int) : fine c u l m l.length ∨ ∃ j, j < l.length ∧ bey (outK c u l j) m = true := by
 by_cases h : ∃ j, j < l.length ∧ bey (outK c u l j) m = true
 ·
  exact .inr h
 ·
  refine .inl fun j hj => ?_
  cases hb : bey (outK c u l j) m with
  | false => rfl
  | true => exact absurd ⟨j, hj, hb⟩ h
abbrev zzFA60 : V := V.tup [V.sl 1 0 fun (k : Nat) => [V.i (gi [] k)], V.i 4]
set_option maxRecDepth 100000 in
theorem chain_ac (l : List Cv) (x : List Int) (u : Bool) (hl : cvsL l) (hx : x.length ≤ bigL) : AC Tryz.prog 130 [V.cvs l, V.ints x, .b u] (.tup [V.ints (chR l u x).2, .i (chR l u x).1]) [] := by
 refine acI hTT hMX Tryz.func130 Tryz.ntmps130 fun C hC hF => ?_
 refine aw_seq_k fun K hK => wR 2 ?_; refine aX hTT 2 [] tI ?_; refine aops_nil (xt_n (hK _ ?_)); clear hK K; refine aw_seq_k fun K hK => ?_; refine aw_seq_k fun K hK => wR 3 ?_; refine aX hTT 1 [] tI ?_
 refine eC (checkChain_ac l hl) ?_
 refine aX hTT 1 [] tI ?_; refine aops_nil (xt_n (hK _ ?_)); clear hK K; refine aw_seq_k fun K hK => wR 4 ?_; refine aX hTT 2 [] tI ?_; refine aops_nil (xt_n (hK _ ?_)); clear hK K
 refine w_cond (t := !decide (fChE l = (0 : Int))) kR (fun c1 => ?_) (fun c1 => ?_)
 ·
  simp at c1
  refine aw_seq_k fun K hK => wR 5 ?_; refine aX hTT 3 [] tI ?_; refine aops_nil (xt_n (hK _ ?_)); clear hK K
  refine aw_ret ?_
  refine xt_r ?_
  rw [chR_1 c1]
  refine ret_of_le (le_nil 6 (sz := 1) 0 (fun k => [.i (gi [] k)]) kR ?_) ?_
  ·
   rfl
  refine rP (V.tup [V.sl 1 0 fun (k : Nat) => [V.i (gi [] k)], V.i (fChE l)])
 simp at c1
 refine aw_skip ?_
 refine xt_n (hK _ ?_); clear hK K; refine aw_seq_k fun K hK => ?_; refine aw_seq_k fun K hK => wR 5 ?_; refine aX hTT 1 [] tI ?_
 refine eC (checkSignal_ac x hx) ?_
 refine aX hTT 1 [] tI ?_; refine aops_nil (xt_n (hK _ ?_)); clear hK K; refine aw_seq_k fun K hK => wR 6 ?_; refine aX hTT 2 [] tI ?_; refine aops_nil (xt_n (hK _ ?_)); clear hK K
 refine w_cond (t := !decide (sigE x = (0 : Int))) kR (fun c2 => ?_) (fun c2 => ?_)
 ·
  simp at c2
  refine aw_seq_k fun K hK => wR 7 ?_; refine aX hTT 3 [] tI ?_; refine aops_nil (xt_n (hK _ ?_)); clear hK K
  refine aw_ret ?_
  refine xt_r ?_
  rw [chR_2 c1 c2]
  refine ret_of_le (le_nil 6 (sz := 1) 0 (fun k => [.i (gi [] k)]) kR ?_) ?_
  ·
   rfl
  refine rP (V.tup [V.sl 1 0 fun (k : Nat) => [V.i (gi [] k)], V.i (sigE x)])
 simp at c2
 obtain ⟨g1, g2⟩ := sigE_ok.1 c2
 obtain ⟨g3, g4⟩ := fChE_ok.1 c1
 refine aw_skip ?_
 refine xt_n (hK _ ?_); clear hK K; refine aw_seq_k fun K hK => wR 7 ?_; refine aX hTT 1 [] tI ?_
 refine eC (Clone_ac x oM) ?_
 refine aX hTT 1 [] tI ?_; refine aops_nil (xt_n (hK _ ?_)); clear hK K; refine aw_seq_k fun K hK => ?_; refine aw_seq_k fun K hK => wR 8 ?_; refine aX hTT 3 [] tI ?_; refine aops_nil (xt_n (hK _ ?_)); clear hK K
 refine aw_block ?_
 refine w_loop (ι := Nat × List Int) (fun y => [(0, V.cvs l), (1, V.ints y.2), (2, .b u), (27, .i l.length), (28, .i y.1)]) (fun _ => []) (fun y => y.1 ≤ l.length ∧ y.2.length = x.length ∧ AllLe 32767 y.2 ∧ foldI u 32767 ((seqC l u).take y.1) (some x) = some y.2) (fun y => l.length - y.1) (0, x) ⟨Nat.zero_le _, rfl, g2, rfl⟩ ?_ ?_
 ·
  show Le _ ⟨mkT [(0, V.cvs l), (1, V.ints x), (2, .b u), (27, .i l.length), (28, .i 0)], mkS [], 1⟩
  refine le_ren [] (.cons kR (.cons kR (.cons kR (.cons kR (.cons kR .nil))))) .nil kR kR
 rintro ⟨k, y⟩ ⟨hk, hy, ha, hf⟩
 simp only at hk hy ha hf ⊢
 refine aw_seq_k fun K hK => wR 2 ?_; refine aX hTT 1 [] tI ?_; refine aops_nil (xt_n (hK _ ?_)); clear hK K; refine aw_seq_k fun K hK => ?_
 refine w_cond (t := decide ((↑k : Int) < (↑(List.length l) : Int))) kR (fun c3 => ?_) (fun c3 => ?_)
 ·
  simp at c3
  have hcv : cvOk (gc (seqC l u) k) := by
   rw [seqC_gc c3]
   refine cvE_ok.1 (g4 _ ?_)
   split <;> omega
  have hsn := foldI_snoc (u := u) (m := 32767) (l := seqC l u) (by rw [seqC_len]; exact c3) hf
  have hsq := seqC_gc (l := l) (u := u) c3
  refine aw_skip ?_
  refine xt_n (hK _ ?_); clear hK K; refine aw_seq_k fun K hK => ?_
  refine aw_block ?_
  refine aw_seq_k fun K hK => wR 3 ?_; refine aX hTT 2 [] tI ?_; refine aops_nil (xt_n (hK _ ?_)); clear hK K; refine aw_seq_k fun K hK => wR 4 ?_; refine aX hTT 6 [(2, .c ((0 : Int) ≤ (↑k : Int) ∧ (↑k : Int) < (↑(List.length l) : Int))), (4, .r (pn 11 (V.ref 300011 0) (300011 : Nat) (Ob.box 193 [V.nil, V.nil, V.i 0]))), (5, .r (pw ((0 : Nat) + (3 : Nat) ≤ (3 : Nat)) (300011 : Nat) (Ob.box 193 [V.sl 1 (List.length (Cv.feed (gc l k))) fun (k_1 : Nat) => [V.i (gi (Cv.feed (gc l k)) k_1)], V.sl 1 (List.length (Cv.back (gc l k))) fun (k_1 : Nat) => [V.i (gi (Cv.back (gc l k)) k_1)], V.i (Cv.share (gc l k))])))] ⟨oM, oM, tI⟩ ?_; refine aops_nil (xt_n (hK _ ?_)); clear hK K; refine aw_seq_k fun K hK => ?_; refine aw_seq_k fun K hK => wR 5 ?_; refine aX hTT 1 [] tI ?_; refine aops_nil (xt_n (hK _ ?_)); clear hK K
  refine w_cond (t := u) kR (fun c4 => ?_) (fun c4 => ?_)
  ·
   subst c4
   have hq : gc (seqC l true) k = gc l ((l.length : Int) - 1 - (k : Int)).toNat := by
    rw [hsq, if_pos rfl]
    congr 1
    omega
   rw [hq] at hcv hsn
   refine wR 6 ?_; refine aX hTT 9 [(3, .i ((↑(List.length l) : Int) - (1 : Int))), (5, .i ((↑(List.length l) : Int) - (1 : Int) - (↑k : Int))), (6, .c ((0 : Int) ≤ (↑(List.length l) : Int) - (1 : Int) - (↑k : Int) ∧ (↑(List.length l) : Int) - (1 : Int) - (↑k : Int) < (↑(List.length l) : Int))), (8, .r (pw ((0 : Nat) + (3 : Nat) ≤ (3 : Nat)) (300011 : Nat) (Ob.box 193 [V.sl 1 (List.length (Cv.feed (gc l (Int.toNat ((↑(List.length l) : Int) - (1 : Int) - (↑k : Int)))))) fun (k_1 : Nat) => [V.i (gi (Cv.feed (gc l (Int.toNat ((↑(List.length l) : Int) - (1 : Int) - (↑k : Int))))) k_1)], V.sl 1 (List.length (Cv.back (gc l (Int.toNat ((↑(List.length l) : Int) - (1 : Int) - (↑k : Int)))))) fun (k_1 : Nat) => [V.i (gi (Cv.back (gc l (Int.toNat ((↑(List.length l) : Int) - (1 : Int) - (↑k : Int))))) k_1)], V.i (Cv.share (gc l (Int.toNat ((↑(List.length l) : Int) - (1 : Int) - (↑k : Int)))))])))] ⟨oM, oM, oM, oM, tI⟩ ?_; refine aops_nil (xt_n (hK _ ?_)); clear hK K; refine aw_seq_k fun K hK => wR 7 ?_; refine aX hTT 3 [(1, .c ((0 : Nat) ≤ (3 : Nat)))] ⟨oM, tI⟩ ?_
   refine aops_callN (first := []) (caps := []) (v' := V.fn (Fn.func (174 : Nat)) [] [V.ptr [V.b true], V.ref 600048 0]) (δ := [(600048, Option.some (Ob.box 287 [V.ref 601048 0])), (601048, Option.some (Ob.box 292 [V.i (gi [] (((0 : Nat) + (7 : Nat)) % (8 : Nat))), V.i (gi [] (((0 : Nat) + (6 : Nat)) % (8 : Nat))), V.i (gi [] (((0 : Nat) + (5 : Nat)) % (8 : Nat))), V.i (gi [] (((0 : Nat) + (4 : Nat)) % (8 : Nat))), V.i (gi [] (((0 : Nat) + (3 : Nat)) % (8 : Nat))), V.i (gi [] (((0 : Nat) + (2 : Nat)) % (8 : Nat))), V.i (gi [] (((0 : Nat) + (1 : Nat)) % (8 : Nat))), V.i (gi [] ((0 : Nat) % (8 : Nat))), V.i 0, V.i (gi [] (((0 : Nat) + (7 : Nat)) % (8 : Nat))), V.i (gi [] (((0 : Nat) + (6 : Nat)) % (8 : Nat))), V.i (gi [] (((0 : Nat) + (5 : Nat)) % (8 : Nat))), V.i (gi [] (((0 : Nat) + (4 : Nat)) % (8 : Nat))), V.i (gi [] (((0 : Nat) + (3 : Nat)) % (8 : Nat))), V.i (gi [] (((0 : Nat) + (2 : Nat)) % (8 : Nat))), V.i (gi [] (((0 : Nat) + (1 : Nat)) % (8 : Nat))), V.i (gi [] ((0 : Nat) % (8 : Nat))), V.i 0, V.sl 1 (List.length (Cv.feed (gc l (Int.toNat ((↑(List.length l) : Int) - (1 : Int) - (↑k : Int)))))) fun (k_1 : Nat) => [V.i (gi (Cv.feed (gc l (Int.toNat ((↑(List.length l) : Int) - (1 : Int) - (↑k : Int))))) k_1)], V.sl 1 (List.length (Cv.back (gc l (Int.toNat ((↑(List.length l) : Int) - (1 : Int) - (↑k : Int)))))) fun (k_1 : Nat) => [V.i (gi (Cv.back (gc l (Int.toNat ((↑(List.length l) : Int) - (1 : Int) - (↑k : Int))))) k_1)], V.i (Cv.share (gc l (Int.toNat ((↑(List.length l) : Int) - (1 : Int) - (↑k : Int)))))]))]) (fStep_ac (gc l ((l.length : Int) - 1 - (k : Int)).toNat) true) kR kR kR kR kR kR kR ?_
   skip
   refine eC (within_ac 32767) ?_
   skip
   rcases fine_or (gc l ((l.length : Int) - 1 - (k : Int)).toNat) true y 32767 with hfi | ⟨j, hj, hb⟩
   ·
    rw [runI_some hfi] at hsn
    refine aops_callM [600048, 601048] (first := []) (caps := []) (ins' := [Ob.box 287 [V.ref 601048 0], Ob.box 292 [V.i (gi [] (((0 : Nat) + (7 : Nat)) % (8 : Nat))), V.i (gi [] (((0 : Nat) + (6 : Nat)) % (8 : Nat))), V.i (gi [] (((0 : Nat) + (5 : Nat)) % (8 : Nat))), V.i (gi [] (((0 : Nat) + (4 : Nat)) % (8 : Nat))), V.i (gi [] (((0 : Nat) + (3 : Nat)) % (8 : Nat))), V.i (gi [] (((0 : Nat) + (2 : Nat)) % (8 : Nat))), V.i (gi [] (((0 : Nat) + (1 : Nat)) % (8 : Nat))), V.i (gi [] ((0 : Nat) % (8 : Nat))), V.i 0, V.i (gi [] (((0 : Nat) + (7 : Nat)) % (8 : Nat))), V.i (gi [] (((0 : Nat) + (6 : Nat)) % (8 : Nat))), V.i (gi [] (((0 : Nat) + (5 : Nat)) % (8 : Nat))), V.i (gi [] (((0 : Nat) + (4 : Nat)) % (8 : Nat))), V.i (gi [] (((0 : Nat) + (3 : Nat)) % (8 : Nat))), V.i (gi [] (((0 : Nat) + (2 : Nat)) % (8 : Nat))), V.i (gi [] (((0 : Nat) + (1 : Nat)) % (8 : Nat))), V.i (gi [] ((0 : Nat) % (8 : Nat))), V.i 0, V.sl 1 (List.length (Cv.feed (gc l (Int.toNat ((↑(List.length l) : Int) - (1 : Int) - (↑k : Int)))))) fun (k_1 : Nat) => [V.i (gi (Cv.feed (gc l (Int.toNat ((↑(List.length l) : Int) - (1 : Int) - (↑k : Int))))) k_1)], V.sl 1 (List.length (Cv.back (gc l (Int.toNat ((↑(List.length l) : Int) - (1 : Int) - (↑k : Int)))))) fun (k_1 : Nat) => [V.i (gi (Cv.back (gc l (Int.toNat ((↑(List.length l) : Int) - (1 : Int) - (↑k : Int))))) k_1)], V.i (Cv.share (gc l (Int.toNat ((↑(List.length l) : Int) - (1 : Int) - (↑k : Int)))))]]) (v' := V.tup [V.own 600050, V.i 0]) (δ := [(600048, Option.none), (601048, Option.none), (600050, Option.some (Ob.row 2 1 (List.length y) fun (i : Nat) => V.renL (nameG (6 : Nat) (some 50) [(600048 : Nat), (601048 : Nat)]) [V.i (gi (resL (gc l (Int.toNat ((↑(List.length l) : Int) - (1 : Int) - (↑k : Int)))) true y) i)]))]) (kp := [600048, 601048]) (each_ok (gc l ((l.length : Int) - 1 - (k : Int)).toNat) true y 32767 hcv oM (by decide) ha hfi) kR kR kR kR kR kR rfl rfl kR (.box kR kR (.box kR kR .nil)) kR kR kR ?_
    refine aX hTT 5 [] tI ?_; refine aops_nil (xt_n (hK _ ?_)); clear hK K; refine aw_seq_k fun K hK => ?_; refine aw_seq_k fun K hK => ?_
    refine w_le (le_shut 12 600050 (e := (2 : Nat)) (sz := (1 : Nat)) (n := List.length y) (n' := (resL (gc l ((l.length : Int) - 1 - (k : Int)).toNat) true y).length) (row := fun (i : Nat) => V.renL (nameG (6 : Nat) (some (50 : Tmp)) [(600048 : Nat), (601048 : Nat)]) [V.i (gi (resL (gc l (Int.toNat ((↑(List.length l) : Int) - (1 : Int) - (↑k : Int)))) true y) i)]) (row' := (fun j => [.i (gi (resL (gc l ((l.length : Int) - 1 - (k : Int)).toNat) true y) j)])) kR kR (fun _ _ => rfl) ?_ ?_) ?_
    ·
     rw [resL_len]
    ·
     intro i hi
     rfl
    refine wR 8 ?_; refine aX hTT 2 [] tI ?_; refine aops_nil (xt_n (hK _ ?_)); clear hK K; refine w_false (t := false) kR rfl ?_
    refine aw_skip ?_
    refine xt_n (hK _ ?_); clear hK K; refine wR 9 ?_; refine aX hTT 2 [] tI ?_; refine aops_nil ?_; refine xb_n ?_; refine xt_n (hK _ ?_); clear hK K; refine wR 10 ?_; refine aX hTT 2 [(0, .i ((↑k : Int) + (1 : Int)))] ⟨oM, tI⟩ ?_; refine aops_nil ?_; refine xt_n ?_
    refine ⟨(k + 1, resL (gc l ((l.length : Int) - 1 - (k : Int)).toNat) true y), ⟨by omega, by simp only [resL_len, hy], any_bey.1 (any_resL.2 hfi), hsn⟩, ?_, by simp only; omega⟩
    show Le _ ⟨mkT [(0, V.cvs l), (1, V.ints (resL (gc l ((l.length : Int) - 1 - (k : Int)).toNat) true y)), (2, .b true), (27, .i l.length), (28, .i ((k + 1 : Nat) : Int))], mkS [], 1⟩
    refine le_ren [] (.cons kR (.cons kR (.cons kR (.cons kR (.cons kR .nil))))) .nil kR kR
   ·
    rw [runI_none hj hb] at hsn
    refine aops_callM [600048, 601048] (first := []) (caps := []) (ins' := [Ob.box 287 [V.ref 601048 0], Ob.box 292 [V.i (gi [] (((0 : Nat) + (7 : Nat)) % (8 : Nat))), V.i (gi [] (((0 : Nat) + (6 : Nat)) % (8 : Nat))), V.i (gi [] (((0 : Nat) + (5 : Nat)) % (8 : Nat))), V.i (gi [] (((0 : Nat) + (4 : Nat)) % (8 : Nat))), V.i (gi [] (((0 : Nat) + (3 : Nat)) % (8 : Nat))), V.i (gi [] (((0 : Nat) + (2 : Nat)) % (8 : Nat))), V.i (gi [] (((0 : Nat) + (1 : Nat)) % (8 : Nat))), V.i (gi [] ((0 : Nat) % (8 : Nat))), V.i 0, V.i (gi [] (((0 : Nat) + (7 : Nat)) % (8 : Nat))), V.i (gi [] (((0 : Nat) + (6 : Nat)) % (8 : Nat))), V.i (gi [] (((0 : Nat) + (5 : Nat)) % (8 : Nat))), V.i (gi [] (((0 : Nat) + (4 : Nat)) % (8 : Nat))), V.i (gi [] (((0 : Nat) + (3 : Nat)) % (8 : Nat))), V.i (gi [] (((0 : Nat) + (2 : Nat)) % (8 : Nat))), V.i (gi [] (((0 : Nat) + (1 : Nat)) % (8 : Nat))), V.i (gi [] ((0 : Nat) % (8 : Nat))), V.i 0, V.sl 1 (List.length (Cv.feed (gc l (Int.toNat ((↑(List.length l) : Int) - (1 : Int) - (↑k : Int)))))) fun (k_1 : Nat) => [V.i (gi (Cv.feed (gc l (Int.toNat ((↑(List.length l) : Int) - (1 : Int) - (↑k : Int))))) k_1)], V.sl 1 (List.length (Cv.back (gc l (Int.toNat ((↑(List.length l) : Int) - (1 : Int) - (↑k : Int)))))) fun (k_1 : Nat) => [V.i (gi (Cv.back (gc l (Int.toNat ((↑(List.length l) : Int) - (1 : Int) - (↑k : Int))))) k_1)], V.i (Cv.share (gc l (Int.toNat ((↑(List.length l) : Int) - (1 : Int) - (↑k : Int)))))]]) (v' := V.tup [V.nil, V.i 4]) (δ := [(600048, Option.none), (601048, Option.none)]) (kp := [600048, 601048]) (each_no (gc l ((l.length : Int) - 1 - (k : Int)).toNat) true y 32767 hcv oM (by decide) ha hj hb) kR kR kR kR kR kR rfl rfl kR (.box kR kR (.box kR kR .nil)) kR kR kR ?_
    refine aX hTT 5 [] tI ?_; refine aops_nil (xt_n (hK _ ?_)); clear hK K; refine aw_seq_k fun K hK => ?_; refine aw_seq_k fun K hK => wR 8 ?_; refine aX hTT 2 [] tI ?_; refine aops_nil (xt_n (hK _ ?_)); clear hK K; refine w_true (t := true) kR rfl ?_; refine aw_seq_k fun K hK => wR 9 ?_; refine aX hTT 3 [] tI ?_; refine aops_nil (xt_n (hK _ ?_)); clear hK K
    refine aw_ret ?_
    refine xt_r ?_
    refine xb_r ?_
    refine xt_r ?_; refine xt_r ?_
    refine xb_r ?_
    refine xt_r ?_
    rw [chR_3 c1 c2 ((chainI_fold l true 32767 x).trans (foldI_stop hsn))]
    refine ret_of_le (le_nil 6 (sz := 1) 0 (fun k => [.i (gi [] k)]) kR ?_) ?_
    ·
     rfl
    refine rP (zzFA60)
  ·
   subst c4
   have hq : gc (seqC l false) k = gc l k := hsq
   rw [hq] at hcv hsn
   refine aw_skip ?_
   refine xt_n (hK _ ?_); clear hK K; refine aw_seq_k fun K hK => wR 6 ?_; refine aX hTT 3 [(1, .c ((0 : Nat) ≤ (3 : Nat)))] ⟨oM, tI⟩ ?_
   refine aops_callN (first := []) (caps := []) (v' := V.fn (Fn.func (174 : Nat)) [] [V.ptr [V.b false], V.ref 500048 0]) (δ := [(500048, Option.some (Ob.box 287 [V.ref 501048 0])), (501048, Option.some (Ob.box 292 [V.i (gi [] (((0 : Nat) + (7 : Nat)) % (8 : Nat))), V.i (gi [] (((0 : Nat) + (6 : Nat)) % (8 : Nat))), V.i (gi [] (((0 : Nat) + (5 : Nat)) % (8 : Nat))), V.i (gi [] (((0 : Nat) + (4 : Nat)) % (8 : Nat))), V.i (gi [] (((0 : Nat) + (3 : Nat)) % (8 : Nat))), V.i (gi [] (((0 : Nat) + (2 : Nat)) % (8 : Nat))), V.i (gi [] (((0 : Nat) + (1 : Nat)) % (8 : Nat))), V.i (gi [] ((0 : Nat) % (8 : Nat))), V.i 0, V.i (gi [] (((0 : Nat) + (7 : Nat)) % (8 : Nat))), V.i (gi [] (((0 : Nat) + (6 : Nat)) % (8 : Nat))), V.i (gi [] (((0 : Nat) + (5 : Nat)) % (8 : Nat))), V.i (gi [] (((0 : Nat) + (4 : Nat)) % (8 : Nat))), V.i (gi [] (((0 : Nat) + (3 : Nat)) % (8 : Nat))), V.i (gi [] (((0 : Nat) + (2 : Nat)) % (8 : Nat))), V.i (gi [] (((0 : Nat) + (1 : Nat)) % (8 : Nat))), V.i (gi [] ((0 : Nat) % (8 : Nat))), V.i 0, V.sl 1 (List.length (Cv.feed (gc l k))) fun (k_1 : Nat) => [V.i (gi (Cv.feed (gc l k)) k_1)], V.sl 1 (List.length (Cv.back (gc l k))) fun (k_1 : Nat) => [V.i (gi (Cv.back (gc l k)) k_1)], V.i (Cv.share (gc l k))]))]) (fStep_ac (gc l k) false) kR kR kR kR kR kR kR ?_
   skip
   refine eC (within_ac 32767) ?_
   skip
   rcases fine_or (gc l k) false y 32767 with hfi | ⟨j, hj, hb⟩
   ·
    rw [runI_some hfi] at hsn
    refine aops_callM [500048, 501048] (first := []) (caps := []) (ins' := [Ob.box 287 [V.ref 501048 0], Ob.box 292 [V.i (gi [] (((0 : Nat) + (7 : Nat)) % (8 : Nat))), V.i (gi [] (((0 : Nat) + (6 : Nat)) % (8 : Nat))), V.i (gi [] (((0 : Nat) + (5 : Nat)) % (8 : Nat))), V.i (gi [] (((0 : Nat) + (4 : Nat)) % (8 : Nat))), V.i (gi [] (((0 : Nat) + (3 : Nat)) % (8 : Nat))), V.i (gi [] (((0 : Nat) + (2 : Nat)) % (8 : Nat))), V.i (gi [] (((0 : Nat) + (1 : Nat)) % (8 : Nat))), V.i (gi [] ((0 : Nat) % (8 : Nat))), V.i 0, V.i (gi [] (((0 : Nat) + (7 : Nat)) % (8 : Nat))), V.i (gi [] (((0 : Nat) + (6 : Nat)) % (8 : Nat))), V.i (gi [] (((0 : Nat) + (5 : Nat)) % (8 : Nat))), V.i (gi [] (((0 : Nat) + (4 : Nat)) % (8 : Nat))), V.i (gi [] (((0 : Nat) + (3 : Nat)) % (8 : Nat))), V.i (gi [] (((0 : Nat) + (2 : Nat)) % (8 : Nat))), V.i (gi [] (((0 : Nat) + (1 : Nat)) % (8 : Nat))), V.i (gi [] ((0 : Nat) % (8 : Nat))), V.i 0, V.sl 1 (List.length (Cv.feed (gc l k))) fun (k_1 : Nat) => [V.i (gi (Cv.feed (gc l k)) k_1)], V.sl 1 (List.length (Cv.back (gc l k))) fun (k_1 : Nat) => [V.i (gi (Cv.back (gc l k)) k_1)], V.i (Cv.share (gc l k))]]) (v' := V.tup [V.own 500050, V.i 0]) (δ := [(500048, Option.none), (501048, Option.none), (500050, Option.some (Ob.row 2 1 (List.length y) fun (i : Nat) => V.renL (nameG (5 : Nat) (some 50) [(500048 : Nat), (501048 : Nat)]) [V.i (gi (resL (gc l k) false y) i)]))]) (kp := [500048, 501048]) (each_ok (gc l k) false y 32767 hcv oM (by decide) ha hfi) kR kR kR kR kR kR rfl rfl kR (.box kR kR (.box kR kR .nil)) kR kR kR ?_
    refine aX hTT 5 [] tI ?_; refine aops_nil (xt_n (hK _ ?_)); clear hK K; refine aw_seq_k fun K hK => ?_; refine aw_seq_k fun K hK => ?_
    refine w_le (le_shut 12 500050 (e := (2 : Nat)) (sz := (1 : Nat)) (n := List.length y) (n' := (resL (gc l k) false y).length) (row := fun (i : Nat) => V.renL (nameG (5 : Nat) (some (50 : Tmp)) [(500048 : Nat), (501048 : Nat)]) [V.i (gi (resL (gc l k) false y) i)]) (row' := (fun j => [.i (gi (resL (gc l k) false y) j)])) kR kR (fun _ _ => rfl) ?_ ?_) ?_
    ·
     rw [resL_len]
    ·
     intro i hi
     rfl
    refine wR 7 ?_; refine aX hTT 2 [] tI ?_; refine aops_nil (xt_n (hK _ ?_)); clear hK K; refine w_false (t := false) kR rfl ?_
    refine aw_skip ?_
    refine xt_n (hK _ ?_); clear hK K; refine wR 8 ?_; refine aX hTT 2 [] tI ?_; refine aops_nil ?_; refine xb_n ?_; refine xt_n (hK _ ?_); clear hK K; refine wR 9 ?_; refine aX hTT 2 [(0, .i ((↑k : Int) + (1 : Int)))] ⟨oM, tI⟩ ?_; refine aops_nil ?_; refine xt_n ?_
    refine ⟨(k + 1, resL (gc l k) false y), ⟨by omega, by simp only [resL_len, hy], any_bey.1 (any_resL.2 hfi), hsn⟩, ?_, by simp only; omega⟩
    show Le _ ⟨mkT [(0, V.cvs l), (1, V.ints (resL (gc l k) false y)), (2, .b false), (27, .i l.length), (28, .i ((k + 1 : Nat) : Int))], mkS [], 1⟩
    refine le_ren [] (.cons kR (.cons kR (.cons kR (.cons kR (.cons kR .nil))))) .nil kR kR
   ·
    rw [runI_none hj hb] at hsn
    refine aops_callM [500048, 501048] (first := []) (caps := []) (ins' := [Ob.box 287 [V.ref 501048 0], Ob.box 292 [V.i (gi [] (((0 : Nat) + (7 : Nat)) % (8 : Nat))), V.i (gi [] (((0 : Nat) + (6 : Nat)) % (8 : Nat))), V.i (gi [] (((0 : Nat) + (5 : Nat)) % (8 : Nat))), V.i (gi [] (((0 : Nat) + (4 : Nat)) % (8 : Nat))), V.i (gi [] (((0 : Nat) + (3 : Nat)) % (8 : Nat))), V.i (gi [] (((0 : Nat) + (2 : Nat)) % (8 : Nat))), V.i (gi [] (((0 : Nat) + (1 : Nat)) % (8 : Nat))), V.i (gi [] ((0 : Nat) % (8 : Nat))), V.i 0, V.i (gi [] (((0 : Nat) + (7 : Nat)) % (8 : Nat))), V.i (gi [] (((0 : Nat) + (6 : Nat)) % (8 : Nat))), V.i (gi [] (((0 : Nat) + (5 : Nat)) % (8 : Nat))), V.i (gi [] (((0 : Nat) + (4 : Nat)) % (8 : Nat))), V.i (gi [] (((0 : Nat) + (3 : Nat)) % (8 : Nat))), V.i (gi [] (((0 : Nat) + (2 : Nat)) % (8 : Nat))), V.i (gi [] (((0 : Nat) + (1 : Nat)) % (8 : Nat))), V.i (gi [] ((0 : Nat) % (8 : Nat))), V.i 0, V.sl 1 (List.length (Cv.feed (gc l k))) fun (k_1 : Nat) => [V.i (gi (Cv.feed (gc l k)) k_1)], V.sl 1 (List.length (Cv.back (gc l k))) fun (k_1 : Nat) => [V.i (gi (Cv.back (gc l k)) k_1)], V.i (Cv.share (gc l k))]]) (v' := V.tup [V.nil, V.i 4]) (δ := [(500048, Option.none), (501048, Option.none)]) (kp := [500048, 501048]) (each_no (gc l k) false y 32767 hcv oM (by decide) ha hj hb) kR kR kR kR kR kR rfl rfl kR (.box kR kR (.box kR kR .nil)) kR kR kR ?_
    refine aX hTT 5 [] tI ?_; refine aops_nil (xt_n (hK _ ?_)); clear hK K; refine aw_seq_k fun K hK => ?_; refine aw_seq_k fun K hK => wR 7 ?_; refine aX hTT 2 [] tI ?_; refine aops_nil (xt_n (hK _ ?_)); clear hK K; refine w_true (t := true) kR rfl ?_; refine aw_seq_k fun K hK => wR 8 ?_; refine aX hTT 3 [] tI ?_; refine aops_nil (xt_n (hK _ ?_)); clear hK K
    refine aw_ret ?_
    refine xt_r ?_
    refine xb_r ?_
    refine xt_r ?_; refine xt_r ?_
    refine xb_r ?_
    refine xt_r ?_
    rw [chR_3 c1 c2 ((chainI_fold l false 32767 x).trans (foldI_stop hsn))]
    refine ret_of_le (le_nil 6 (sz := 1) 0 (fun k => [.i (gi [] k)]) kR ?_) ?_
    ·
     rfl
    refine rP (zzFA60)
 ·
  simp at c3
  obtain rfl : k = l.length := by omega
  rw [List.take_of_length_le (by rw [seqC_len]; omega)] at hf
  refine aw_exit ?_
  refine xt_x ?_; refine xt_x ?_
  refine xb_same ?_
  refine xt_n ?_; clear hK K; refine hK _ ?_; clear hK K; refine aw_seq_k fun K hK => wR 3 ?_; refine aX hTT 3 [] tI ?_; refine aops_nil (xt_n (hK _ ?_)); clear hK K
  refine aw_ret ?_
  rw [chR_4 c1 c2 ((chainI_fold l u 32767 x).trans hf)]
  refine rP (V.tup [V.sl 1 (List.length y) fun (k : Nat) => [V.i (gi y k)], V.i 0])
end Go.Proofs.YtplnhbenmgclfaaGreatDoor

namespace Go.Proofs.YtplnhbenmgclfaaGreatDoor
open Go.Ab Go.RowKit Go.Dw Go.Shelf
theorem cvs_one {c : Cv} (h : cvL c) : cvsL [c] := ⟨by unfold bigL; simp, fun k hk => by simp at hk; subst hk; exact h⟩
def apR (c : Cv) (u : Bool) (x : List Int) : Int × List Int := chR [c] u x
set_option maxRecDepth 100000 in
theorem Apply_ac (c : Cv) (x : List Int) (hc : cvL c) (hx : x.length ≤ bigL) : AC Tryz.prog 86 [V.cv c, V.ints x] (.tup [V.ints (apR c false x).2, .i (apR c false x).1]) [] := by
 refine acI hTT hMX Tryz.func86 Tryz.ntmps86 fun C hC hF => ?_
 refine aw_seq_k fun K hK => wR 2 ?_; refine aX hTT 3 [] tI ?_; refine aops_nil (xt_n (hK _ ?_)); clear hK K; refine aw_seq_k fun K hK => wR 3 ?_; refine aX hTT 3 [] tI ?_
 refine eC (AC.conv (chain_ac [c] x false (cvs_one hc) hx) (args' := [V.sl 3 1 fun (i : Nat) => List.take (3 : Nat) (List.drop (i * (3 : Nat)) [V.sl 1 (List.length (Cv.feed c)) fun (k : Nat) => [V.i (gi (Cv.feed c) k)], V.sl 1 (List.length (Cv.back c)) fun (k : Nat) => [V.i (gi (Cv.back c) k)], V.i (Cv.share c)]), V.sl 1 (List.length x) fun (k : Nat) => [V.i (gi x k)], V.b false]) ⟨?_, RImp.refl _, RImp.refl _, trivial⟩) ?_
 ·
  refine RImp.rows rfl fun i hi => ?_
  obtain rfl : i = 0 := by omega
  rfl
 refine aX hTT 4 [] tI ?_; refine aops_nil (xt_n (hK _ ?_)); clear hK K
 refine aw_ret ?_
 refine rP (V.tup [V.sl 1 (List.length (Prod.snd (chR [c] false x))) fun (k : Nat) => [V.i (gi (Prod.snd (chR [c] false x)) k)], V.i (Prod.fst (chR [c] false x))])
def hl (f : Nat → Int) : Nat → List Int
 | 0 => []
 | t + 1 => f t :: hl f t
end Go.Proofs.YtplnhbenmgclfaaGreatDoor

namespace Go.Proofs.YtplnhbenmgclfaaGreatDoor
open Go.Ab Go.RowKit Go.Dw Go.Shelf
end Go.Proofs.YtplnhbenmgclfaaGreatDoor

namespace Go.Proofs.YtplnhbenmgclfaaGreatDoor
open Go.Ab Go.RowKit Go.Dw Go.Shelf
attribute [local go_sem] Oper.semAt_some
end Go.Proofs.YtplnhbenmgclfaaGreatDoor

namespace Go.Proofs.YtplnhbenmgclfaaGreatDoor
open Go.Ab Go.RowKit Go.Dw Go.Shelf
end Go.Proofs.YtplnhbenmgclfaaGreatDoor

namespace Go.Proofs.YtplnhbenmgclfaaGreatDoor
open Go.Ab Go.RowKit Go.Dw Go.Shelf
end Go.Proofs.YtplnhbenmgclfaaGreatDoor

namespace Go.Proofs.YtplnhbenmgclfaaGreatDoor
open Go.Ab Go.RowKit Go.Dw Go.Shelf
end Go.Proofs.YtplnhbenmgclfaaGreatDoor
