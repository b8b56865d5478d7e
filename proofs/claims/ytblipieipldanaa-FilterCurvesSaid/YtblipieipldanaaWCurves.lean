/-
  FilterCurves: the walk of the law. No condition.
-/
import Derived.Test.YtblipieipldanaaFA20
import Derived.Test.YtblipieipldanaaAbs38
import Derived.Test.YtblipieipldanaaAbs39
import Derived.Test.YtblipieipldanaaAbs41
import Derived.Test.YtblipieipldanaaMC
namespace Go.Proofs.Ytblipieipldanaa
open Go.Ab Go.RowKit Go.Dw Go.Shelf

theorem bytes_of {a b : ByteArray} (h : (a.toList == b.toList) = true) : a = b := by
  rw [ByteArray.toList_eq, ByteArray.toList_eq] at h
  have h := Array.ext' (eq_of_beq h)
  cases a; cases b; simp at h; subst h; rfl
theorem sameK (a b : List Int) (ha : a.length ≤ bigL) (hb : b.length ≤ bigL) : AM Try.prog 26 [.own 500, V.ints b] [oRow a] (.b (decide (a = b))) [some (oRow a)] [] :=
  (refSame_ac a b ha hb).rowK 2 (sz := 1) (n := a.length) (row := fun k => [.i (gi a k)]) rfl rfl (by simp) (fun _ => rfl) rfl (by simp)
theorem sameN : AC Try.prog 26 [.nil, V.ints []] (.b true) [] :=
  (refSame_ac [] [] (by decide) (by decide)).conv (args' := [.nil, V.ints []]) ⟨RImp.nils 1 _, RImp.refl _, trivial⟩
set_option maxRecDepth 100000 in
theorem rNamedW0_ac : AC Try.prog 43 [.c (.string nWarm)] (.tup [.agg [.sl 1 1 fun i => List.take 1 (List.drop (i * 1) [.i (64)]), .sl 1 1 fun i => List.take 1 (List.drop (i * 1) [.i (128)]), .i 256], .i 0]) [] := by
  refine ac_intro hTT hMX (fn := Try.f43) (N := _) ⟨Try.func43, rfl, Try.ntmps43, by kernel_rfl⟩ (by simp) fun C hC hF => ?_
  refine aw_seq_k fun K hK => ?_
  refine w_region (n' := 2) (by kernel_rfl) (by kernel_rfl) ?_
  refine aops_n hTT (M := []) (n := 2) [pn (2 : Nat) (V.ref (100002 : Nat) (0 : Nat)) (100002 : Nat) (Ob.box (24 : Nat) [V.nil, V.nil, V.i (0 : Int)]), pv (3 : Nat) (V.i (0 : Int))] (by kernel_rfl) (by kernel_rfl) True.intro ?_
  refine aops_nil ?_
  refine xt_n ?_
  refine hK _ ?_
  clear hK K
  refine aw_seq_k fun K hK => ?_
  refine aw_seq_k fun K hK => ?_
  refine w_region (n' := 3) (by kernel_rfl) (by kernel_rfl) ?_
  refine aops_n hTT (M := []) (n := 1) [pv (4 : Nat) (V.c (Value.string nWarm))] (by kernel_rfl) (by kernel_rfl) True.intro ?_
  refine aops_nil ?_
  refine xt_n ?_
  refine hK _ ?_
  clear hK K
  refine aw_block ?_
  refine aw_seq_k fun K hK => ?_
  refine w_region (n' := 4) (by kernel_rfl) (by kernel_rfl) ?_
  refine aops_n hTT (M := []) (n := 2) [pv (6 : Nat) (V.b false), pv (5 : Nat) (V.b false)] (by kernel_rfl) (by kernel_rfl) True.intro ?_
  refine aops_nil ?_
  refine xt_n ?_
  refine hK _ ?_
  clear hK K
  refine w_false (t := false) (by kernel_rfl) rfl ?_
  refine aw_seq_k fun K hK => ?_
  refine w_region (n' := 5) (by kernel_rfl) (by kernel_rfl) ?_
  refine aops_n hTT (M := []) (n := 2) [pv (9 : Nat) (V.b true), pv (8 : Nat) (V.b true)] (by kernel_rfl) (by kernel_rfl) True.intro ?_
  refine aops_nil ?_
  refine xt_n ?_
  refine hK _ ?_
  clear hK K
  refine w_true (t := true) (by kernel_rfl) rfl ?_
  refine aw_seq_k fun K hK => ?_
  refine w_region (n' := 6) (by kernel_rfl) (by kernel_rfl) ?_
  refine aops_n hTT (M := []) (n := 5) [pv (10 : Nat) (V.sl (1 : Nat) (1 : Nat) fun (i : Nat) => List.take (1 : Nat) (List.drop (i * (1 : Nat)) [V.i (64 : Int)])), pv (11 : Nat) (V.sl (1 : Nat) (1 : Nat) fun (i : Nat) => List.take (1 : Nat) (List.drop (i * (1 : Nat)) [V.i (128 : Int)])), pv (12 : Nat) (V.agg [V.sl (1 : Nat) (1 : Nat) fun (i : Nat) => List.take (1 : Nat) (List.drop (i * (1 : Nat)) [V.i (64 : Int)]), V.sl (1 : Nat) (1 : Nat) fun (i : Nat) => List.take (1 : Nat) (List.drop (i * (1 : Nat)) [V.i (128 : Int)]), V.i (256 : Int)]), pw ((0 : Nat) + (3 : Nat) ≤ (3 : Nat)) (100002 : Nat) (Ob.box (24 : Nat) [V.sl (1 : Nat) (1 : Nat) fun (i : Nat) => List.take (1 : Nat) (List.drop (i * (1 : Nat)) [V.i (64 : Int)]), V.sl (1 : Nat) (1 : Nat) fun (i : Nat) => List.take (1 : Nat) (List.drop (i * (1 : Nat)) [V.i (128 : Int)]), V.i (256 : Int)]), pv (3 : Nat) (V.i (0 : Int))] (by kernel_rfl) (by kernel_rfl) ⟨(by omega), True.intro⟩ ?_
  refine aops_nil ?_
  refine xt_n ?_
  refine hK _ ?_
  clear hK K
  refine aw_ret ?_
  refine xb_r ?_
  refine xt_r ?_
  refine ret_pure (v' := V.tup [V.agg [V.sl (1 : Nat) (1 : Nat) fun (i : Nat) => List.take (1 : Nat) (List.drop (i * (1 : Nat)) [V.i (64 : Int)]), V.sl (1 : Nat) (1 : Nat) fun (i : Nat) => List.take (1 : Nat) (List.drop (i * (1 : Nat)) [V.i (128 : Int)]), V.i (256 : Int)], V.i (0 : Int)]) (.inr rfl) (by kernel_rfl) (by kernel_rfl) (by kernel_rfl)
theorem rNamedW_ac : AC Try.prog 43 [.c (.string nWarm)] (.tup [V.cv ⟨[64], [128], 256⟩, .i 0]) [] :=
  (rNamedW0_ac).res rfl (RImp.tups ⟨RImp.agg ⟨RImp.lit1 [64], RImp.lit1 [128], RImp.refl _, trivial⟩, RImp.refl _, trivial⟩)
set_option maxRecDepth 100000 in
theorem rNamedB0_ac : AC Try.prog 43 [.c (.string nBright)] (.tup [.agg [.sl 1 1 fun i => List.take 1 (List.drop (i * 1) [.i (-192)]), .nil, .i 256], .i 0]) [] := by
  refine ac_intro hTT hMX (fn := Try.f43) (N := _) ⟨Try.func43, rfl, Try.ntmps43, by kernel_rfl⟩ (by simp) fun C hC hF => ?_
  refine aw_seq_k fun K hK => ?_
  refine w_region (n' := 2) (by kernel_rfl) (by kernel_rfl) ?_
  refine aops_n hTT (M := []) (n := 2) [pn (2 : Nat) (V.ref (100002 : Nat) (0 : Nat)) (100002 : Nat) (Ob.box (24 : Nat) [V.nil, V.nil, V.i (0 : Int)]), pv (3 : Nat) (V.i (0 : Int))] (by kernel_rfl) (by kernel_rfl) True.intro ?_
  refine aops_nil ?_
  refine xt_n ?_
  refine hK _ ?_
  clear hK K
  refine aw_seq_k fun K hK => ?_
  refine aw_seq_k fun K hK => ?_
  refine w_region (n' := 3) (by kernel_rfl) (by kernel_rfl) ?_
  refine aops_n hTT (M := []) (n := 1) [pv (4 : Nat) (V.c (Value.string nBright))] (by kernel_rfl) (by kernel_rfl) True.intro ?_
  refine aops_nil ?_
  refine xt_n ?_
  refine hK _ ?_
  clear hK K
  refine aw_block ?_
  refine aw_seq_k fun K hK => ?_
  refine w_region (n' := 4) (by kernel_rfl) (by kernel_rfl) ?_
  refine aops_n hTT (M := []) (n := 2) [pv (6 : Nat) (V.b false), pv (5 : Nat) (V.b false)] (by kernel_rfl) (by kernel_rfl) True.intro ?_
  refine aops_nil ?_
  refine xt_n ?_
  refine hK _ ?_
  clear hK K
  refine w_false (t := false) (by kernel_rfl) rfl ?_
  refine aw_seq_k fun K hK => ?_
  refine w_region (n' := 5) (by kernel_rfl) (by kernel_rfl) ?_
  refine aops_n hTT (M := []) (n := 2) [pv (9 : Nat) (V.b false), pv (8 : Nat) (V.b false)] (by kernel_rfl) (by kernel_rfl) True.intro ?_
  refine aops_nil ?_
  refine xt_n ?_
  refine hK _ ?_
  clear hK K
  refine w_false (t := false) (by kernel_rfl) rfl ?_
  refine aw_seq_k fun K hK => ?_
  refine w_region (n' := 6) (by kernel_rfl) (by kernel_rfl) ?_
  refine aops_n hTT (M := []) (n := 2) [pv (14 : Nat) (V.b true), pv (13 : Nat) (V.b true)] (by kernel_rfl) (by kernel_rfl) True.intro ?_
  refine aops_nil ?_
  refine xt_n ?_
  refine hK _ ?_
  clear hK K
  refine w_true (t := true) (by kernel_rfl) rfl ?_
  refine aw_seq_k fun K hK => ?_
  refine w_region (n' := 7) (by kernel_rfl) (by kernel_rfl) ?_
  refine aops_n hTT (M := []) (n := 4) [pv (15 : Nat) (V.sl (1 : Nat) (1 : Nat) fun (i : Nat) => List.take (1 : Nat) (List.drop (i * (1 : Nat)) [V.i (-192 : Int)])), pv (16 : Nat) (V.agg [V.sl (1 : Nat) (1 : Nat) fun (i : Nat) => List.take (1 : Nat) (List.drop (i * (1 : Nat)) [V.i (-192 : Int)]), V.nil, V.i (256 : Int)]), pw ((0 : Nat) + (3 : Nat) ≤ (3 : Nat)) (100002 : Nat) (Ob.box (24 : Nat) [V.sl (1 : Nat) (1 : Nat) fun (i : Nat) => List.take (1 : Nat) (List.drop (i * (1 : Nat)) [V.i (-192 : Int)]), V.nil, V.i (256 : Int)]), pv (3 : Nat) (V.i (0 : Int))] (by kernel_rfl) (by kernel_rfl) ⟨(by omega), True.intro⟩ ?_
  refine aops_nil ?_
  refine xt_n ?_
  refine hK _ ?_
  clear hK K
  refine aw_ret ?_
  refine xb_r ?_
  refine xt_r ?_
  refine ret_pure (v' := V.tup [V.agg [V.sl (1 : Nat) (1 : Nat) fun (i : Nat) => List.take (1 : Nat) (List.drop (i * (1 : Nat)) [V.i (-192 : Int)]), V.nil, V.i (256 : Int)], V.i (0 : Int)]) (.inr rfl) (by kernel_rfl) (by kernel_rfl) (by kernel_rfl)
theorem rNamedB_ac : AC Try.prog 43 [.c (.string nBright)] (.tup [V.cv ⟨[-192], [], 256⟩, .i 0]) [] :=
  (rNamedB0_ac).res rfl (RImp.tups ⟨RImp.agg ⟨RImp.lit1 [-192], RImp.nils 1 _, RImp.refl _, trivial⟩, RImp.refl _, trivial⟩)
set_option maxRecDepth 100000 in
theorem rNamedS0_ac : AC Try.prog 43 [.c (.string nShel)] (.tup [.agg [.sl 1 2 fun i => List.take 1 (List.drop (i * 1) [.i (32), .i (16)]), .sl 1 2 fun i => List.take 1 (List.drop (i * 1) [.i (96), .i (32)]), .i 256], .i 0]) [] := by
  refine ac_intro hTT hMX (fn := Try.f43) (N := _) ⟨Try.func43, rfl, Try.ntmps43, by kernel_rfl⟩ (by simp) fun C hC hF => ?_
  refine aw_seq_k fun K hK => ?_
  refine w_region (n' := 2) (by kernel_rfl) (by kernel_rfl) ?_
  refine aops_n hTT (M := []) (n := 2) [pn (2 : Nat) (V.ref (100002 : Nat) (0 : Nat)) (100002 : Nat) (Ob.box (24 : Nat) [V.nil, V.nil, V.i (0 : Int)]), pv (3 : Nat) (V.i (0 : Int))] (by kernel_rfl) (by kernel_rfl) True.intro ?_
  refine aops_nil ?_
  refine xt_n ?_
  refine hK _ ?_
  clear hK K
  refine aw_seq_k fun K hK => ?_
  refine aw_seq_k fun K hK => ?_
  refine w_region (n' := 3) (by kernel_rfl) (by kernel_rfl) ?_
  refine aops_n hTT (M := []) (n := 1) [pv (4 : Nat) (V.c (Value.string nShel))] (by kernel_rfl) (by kernel_rfl) True.intro ?_
  refine aops_nil ?_
  refine xt_n ?_
  refine hK _ ?_
  clear hK K
  refine aw_block ?_
  refine aw_seq_k fun K hK => ?_
  refine w_region (n' := 4) (by kernel_rfl) (by kernel_rfl) ?_
  refine aops_n hTT (M := []) (n := 2) [pv (6 : Nat) (V.b false), pv (5 : Nat) (V.b false)] (by kernel_rfl) (by kernel_rfl) True.intro ?_
  refine aops_nil ?_
  refine xt_n ?_
  refine hK _ ?_
  clear hK K
  refine w_false (t := false) (by kernel_rfl) rfl ?_
  refine aw_seq_k fun K hK => ?_
  refine w_region (n' := 5) (by kernel_rfl) (by kernel_rfl) ?_
  refine aops_n hTT (M := []) (n := 2) [pv (9 : Nat) (V.b false), pv (8 : Nat) (V.b false)] (by kernel_rfl) (by kernel_rfl) True.intro ?_
  refine aops_nil ?_
  refine xt_n ?_
  refine hK _ ?_
  clear hK K
  refine w_false (t := false) (by kernel_rfl) rfl ?_
  refine aw_seq_k fun K hK => ?_
  refine w_region (n' := 6) (by kernel_rfl) (by kernel_rfl) ?_
  refine aops_n hTT (M := []) (n := 2) [pv (14 : Nat) (V.b false), pv (13 : Nat) (V.b false)] (by kernel_rfl) (by kernel_rfl) True.intro ?_
  refine aops_nil ?_
  refine xt_n ?_
  refine hK _ ?_
  clear hK K
  refine w_false (t := false) (by kernel_rfl) rfl ?_
  refine aw_seq_k fun K hK => ?_
  refine w_region (n' := 7) (by kernel_rfl) (by kernel_rfl) ?_
  refine aops_n hTT (M := []) (n := 2) [pv (18 : Nat) (V.b true), pv (17 : Nat) (V.b true)] (by kernel_rfl) (by kernel_rfl) True.intro ?_
  refine aops_nil ?_
  refine xt_n ?_
  refine hK _ ?_
  clear hK K
  refine w_true (t := true) (by kernel_rfl) rfl ?_
  refine aw_seq_k fun K hK => ?_
  refine w_region (n' := 8) (by kernel_rfl) (by kernel_rfl) ?_
  refine aops_n hTT (M := []) (n := 5) [pv (19 : Nat) (V.sl (1 : Nat) (2 : Nat) fun (i : Nat) => List.take (1 : Nat) (List.drop (i * (1 : Nat)) [V.i (32 : Int), V.i (16 : Int)])), pv (20 : Nat) (V.sl (1 : Nat) (2 : Nat) fun (i : Nat) => List.take (1 : Nat) (List.drop (i * (1 : Nat)) [V.i (96 : Int), V.i (32 : Int)])), pv (21 : Nat) (V.agg [V.sl (1 : Nat) (2 : Nat) fun (i : Nat) => List.take (1 : Nat) (List.drop (i * (1 : Nat)) [V.i (32 : Int), V.i (16 : Int)]), V.sl (1 : Nat) (2 : Nat) fun (i : Nat) => List.take (1 : Nat) (List.drop (i * (1 : Nat)) [V.i (96 : Int), V.i (32 : Int)]), V.i (256 : Int)]), pw ((0 : Nat) + (3 : Nat) ≤ (3 : Nat)) (100002 : Nat) (Ob.box (24 : Nat) [V.sl (1 : Nat) (2 : Nat) fun (i : Nat) => List.take (1 : Nat) (List.drop (i * (1 : Nat)) [V.i (32 : Int), V.i (16 : Int)]), V.sl (1 : Nat) (2 : Nat) fun (i : Nat) => List.take (1 : Nat) (List.drop (i * (1 : Nat)) [V.i (96 : Int), V.i (32 : Int)]), V.i (256 : Int)]), pv (3 : Nat) (V.i (0 : Int))] (by kernel_rfl) (by kernel_rfl) ⟨(by omega), True.intro⟩ ?_
  refine aops_nil ?_
  refine xt_n ?_
  refine hK _ ?_
  clear hK K
  refine aw_ret ?_
  refine xb_r ?_
  refine xt_r ?_
  refine ret_pure (v' := V.tup [V.agg [V.sl (1 : Nat) (2 : Nat) fun (i : Nat) => List.take (1 : Nat) (List.drop (i * (1 : Nat)) [V.i (32 : Int), V.i (16 : Int)]), V.sl (1 : Nat) (2 : Nat) fun (i : Nat) => List.take (1 : Nat) (List.drop (i * (1 : Nat)) [V.i (96 : Int), V.i (32 : Int)]), V.i (256 : Int)], V.i (0 : Int)]) (.inr rfl) (by kernel_rfl) (by kernel_rfl) (by kernel_rfl)
theorem rNamedS_ac : AC Try.prog 43 [.c (.string nShel)] (.tup [V.cv ⟨[32, 16], [96, 32], 256⟩, .i 0]) [] :=
  (rNamedS0_ac).res rfl (RImp.tups ⟨RImp.agg ⟨RImp.lit1 [32, 16], RImp.lit1 [96, 32], RImp.refl _, trivial⟩, RImp.refl _, trivial⟩)
set_option maxRecDepth 100000 in
theorem rNamedF0_ac : AC Try.prog 43 [.c (.string nFlat)] (.tup [.agg [.nil, .nil, .i 1], .i 0]) [] := by
  refine ac_intro hTT hMX (fn := Try.f43) (N := _) ⟨Try.func43, rfl, Try.ntmps43, by kernel_rfl⟩ (by simp) fun C hC hF => ?_
  refine aw_seq_k fun K hK => ?_
  refine w_region (n' := 2) (by kernel_rfl) (by kernel_rfl) ?_
  refine aops_n hTT (M := []) (n := 2) [pn (2 : Nat) (V.ref (100002 : Nat) (0 : Nat)) (100002 : Nat) (Ob.box (24 : Nat) [V.nil, V.nil, V.i (0 : Int)]), pv (3 : Nat) (V.i (0 : Int))] (by kernel_rfl) (by kernel_rfl) True.intro ?_
  refine aops_nil ?_
  refine xt_n ?_
  refine hK _ ?_
  clear hK K
  refine aw_seq_k fun K hK => ?_
  refine aw_seq_k fun K hK => ?_
  refine w_region (n' := 3) (by kernel_rfl) (by kernel_rfl) ?_
  refine aops_n hTT (M := []) (n := 1) [pv (4 : Nat) (V.c (Value.string nFlat))] (by kernel_rfl) (by kernel_rfl) True.intro ?_
  refine aops_nil ?_
  refine xt_n ?_
  refine hK _ ?_
  clear hK K
  refine aw_block ?_
  refine aw_seq_k fun K hK => ?_
  refine w_region (n' := 4) (by kernel_rfl) (by kernel_rfl) ?_
  refine aops_n hTT (M := []) (n := 2) [pv (6 : Nat) (V.b true), pv (5 : Nat) (V.b true)] (by kernel_rfl) (by kernel_rfl) True.intro ?_
  refine aops_nil ?_
  refine xt_n ?_
  refine hK _ ?_
  clear hK K
  refine w_true (t := true) (by kernel_rfl) rfl ?_
  refine aw_seq_k fun K hK => ?_
  refine w_region (n' := 5) (by kernel_rfl) (by kernel_rfl) ?_
  refine aops_n hTT (M := []) (n := 3) [pv (7 : Nat) (V.agg [V.nil, V.nil, V.i (1 : Int)]), pw ((0 : Nat) + (3 : Nat) ≤ (3 : Nat)) (100002 : Nat) (Ob.box (24 : Nat) [V.nil, V.nil, V.i (1 : Int)]), pv (3 : Nat) (V.i (0 : Int))] (by kernel_rfl) (by kernel_rfl) ⟨(by omega), True.intro⟩ ?_
  refine aops_nil ?_
  refine xt_n ?_
  refine hK _ ?_
  clear hK K
  refine aw_ret ?_
  refine xb_r ?_
  refine xt_r ?_
  refine ret_pure (v' := V.tup [V.agg [V.nil, V.nil, V.i (1 : Int)], V.i (0 : Int)]) (.inr rfl) (by kernel_rfl) (by kernel_rfl) (by kernel_rfl)
theorem rNamedF_ac : AC Try.prog 43 [.c (.string nFlat)] (.tup [V.cv ⟨[], [], 1⟩, .i 0]) [] :=
  (rNamedF0_ac).res rfl (RImp.tups ⟨RImp.agg ⟨RImp.nils 1 _, RImp.nils 1 _, RImp.refl _, trivial⟩, RImp.refl _, trivial⟩)
set_option maxRecDepth 100000 in
theorem rNamedN0_ac {b : ByteArray} (h1 : b ≠ nFlat) (h2 : b ≠ nWarm) (h3 : b ≠ nBright) (h4 : b ≠ nShel) : AC Try.prog 43 [.c (.string b)] (.tup [.agg [.nil, .nil, .i 0], .i 5]) [] := by
  refine ac_intro hTT hMX (fn := Try.f43) (N := _) ⟨Try.func43, rfl, Try.ntmps43, by kernel_rfl⟩ (by simp) fun C hC hF => ?_
  refine aw_seq_k fun K hK => ?_
  refine w_region (n' := 2) (by kernel_rfl) (by kernel_rfl) ?_
  refine aops_n hTT (M := []) (n := 2) [pn (2 : Nat) (V.ref (100002 : Nat) (0 : Nat)) (100002 : Nat) (Ob.box (24 : Nat) [V.nil, V.nil, V.i (0 : Int)]), pv (3 : Nat) (V.i (0 : Int))] (by kernel_rfl) (by kernel_rfl) True.intro ?_
  refine aops_nil ?_
  refine xt_n ?_
  refine hK _ ?_
  clear hK K
  refine aw_seq_k fun K hK => ?_
  refine aw_seq_k fun K hK => ?_
  refine w_region (n' := 3) (by kernel_rfl) (by kernel_rfl) ?_
  refine aops_n hTT (M := []) (n := 1) [pv (4 : Nat) (V.c (Value.string b))] (by kernel_rfl) (by kernel_rfl) True.intro ?_
  refine aops_nil ?_
  refine xt_n ?_
  refine hK _ ?_
  clear hK K
  refine aw_block ?_
  refine aw_seq_k fun K hK => ?_
  refine w_region (n' := 4) (by kernel_rfl) (by kernel_rfl) ?_
  refine aops_n hTT (M := []) (n := 2) [pv (6 : Nat) (V.b (ByteArray.toList b == ByteArray.toList (ByteArray.mk #[(102 : UInt8), (108 : UInt8), (97 : UInt8), (116 : UInt8)]))), pv (5 : Nat) (V.b (ByteArray.toList b == ByteArray.toList (ByteArray.mk #[(102 : UInt8), (108 : UInt8), (97 : UInt8), (116 : UInt8)])))] (by kernel_rfl) (by kernel_rfl) True.intro ?_
  refine aops_nil ?_
  refine xt_n ?_
  refine hK _ ?_
  clear hK K
  refine w_cond (t := ByteArray.toList b == ByteArray.toList (ByteArray.mk #[(102 : UInt8), (108 : UInt8), (97 : UInt8), (116 : UInt8)])) (by kernel_rfl) (fun c1 => ?_) (fun c1 => ?_)
  · exact absurd (bytes_of c1) h1
  refine aw_seq_k fun K hK => ?_
  refine w_region (n' := 5) (by kernel_rfl) (by kernel_rfl) ?_
  refine aops_n hTT (M := []) (n := 2) [pv (9 : Nat) (V.b (ByteArray.toList b == ByteArray.toList (ByteArray.mk #[(119 : UInt8), (97 : UInt8), (114 : UInt8), (109 : UInt8)]))), pv (8 : Nat) (V.b (ByteArray.toList b == ByteArray.toList (ByteArray.mk #[(119 : UInt8), (97 : UInt8), (114 : UInt8), (109 : UInt8)])))] (by kernel_rfl) (by kernel_rfl) True.intro ?_
  refine aops_nil ?_
  refine xt_n ?_
  refine hK _ ?_
  clear hK K
  refine w_cond (t := ByteArray.toList b == ByteArray.toList (ByteArray.mk #[(119 : UInt8), (97 : UInt8), (114 : UInt8), (109 : UInt8)])) (by kernel_rfl) (fun c2 => ?_) (fun c2 => ?_)
  · exact absurd (bytes_of c2) h2
  refine aw_seq_k fun K hK => ?_
  refine w_region (n' := 6) (by kernel_rfl) (by kernel_rfl) ?_
  refine aops_n hTT (M := []) (n := 2) [pv (14 : Nat) (V.b (ByteArray.toList b == ByteArray.toList (ByteArray.mk #[(98 : UInt8), (114 : UInt8), (105 : UInt8), (103 : UInt8), (104 : UInt8), (116 : UInt8)]))), pv (13 : Nat) (V.b (ByteArray.toList b == ByteArray.toList (ByteArray.mk #[(98 : UInt8), (114 : UInt8), (105 : UInt8), (103 : UInt8), (104 : UInt8), (116 : UInt8)])))] (by kernel_rfl) (by kernel_rfl) True.intro ?_
  refine aops_nil ?_
  refine xt_n ?_
  refine hK _ ?_
  clear hK K
  refine w_cond (t := ByteArray.toList b == ByteArray.toList (ByteArray.mk #[(98 : UInt8), (114 : UInt8), (105 : UInt8), (103 : UInt8), (104 : UInt8), (116 : UInt8)])) (by kernel_rfl) (fun c3 => ?_) (fun c3 => ?_)
  · exact absurd (bytes_of c3) h3
  refine aw_seq_k fun K hK => ?_
  refine w_region (n' := 7) (by kernel_rfl) (by kernel_rfl) ?_
  refine aops_n hTT (M := []) (n := 2) [pv (18 : Nat) (V.b (ByteArray.toList b == ByteArray.toList (ByteArray.mk #[(115 : UInt8), (104 : UInt8), (101 : UInt8), (108 : UInt8), (108 : UInt8), (97 : UInt8), (99 : UInt8)]))), pv (17 : Nat) (V.b (ByteArray.toList b == ByteArray.toList (ByteArray.mk #[(115 : UInt8), (104 : UInt8), (101 : UInt8), (108 : UInt8), (108 : UInt8), (97 : UInt8), (99 : UInt8)])))] (by kernel_rfl) (by kernel_rfl) True.intro ?_
  refine aops_nil ?_
  refine xt_n ?_
  refine hK _ ?_
  clear hK K
  refine w_cond (t := ByteArray.toList b == ByteArray.toList (ByteArray.mk #[(115 : UInt8), (104 : UInt8), (101 : UInt8), (108 : UInt8), (108 : UInt8), (97 : UInt8), (99 : UInt8)])) (by kernel_rfl) (fun c4 => ?_) (fun c4 => ?_)
  · exact absurd (bytes_of c4) h4
  refine aw_skip ?_
  refine xb_n ?_
  refine xt_n ?_
  refine hK _ ?_
  clear hK K
  refine aw_seq_k fun K hK => ?_
  refine w_region (n' := 8) (by kernel_rfl) (by kernel_rfl) ?_
  refine aops_n hTT (M := []) (n := 3) [pv (22 : Nat) (V.agg [V.nil, V.nil, V.i (0 : Int)]), pw ((0 : Nat) + (3 : Nat) ≤ (3 : Nat)) (100002 : Nat) (Ob.box (24 : Nat) [V.nil, V.nil, V.i (0 : Int)]), pv (3 : Nat) (V.i (5 : Int))] (by kernel_rfl) (by kernel_rfl) ⟨(by omega), True.intro⟩ ?_
  refine aops_nil ?_
  refine xt_n ?_
  refine hK _ ?_
  clear hK K
  refine aw_ret ?_
  refine ret_pure (v' := V.tup [V.agg [V.nil, V.nil, V.i (0 : Int)], V.i (5 : Int)]) (.inr rfl) (by kernel_rfl) (by kernel_rfl) (by kernel_rfl)
theorem rNamedN_ac {b : ByteArray} (h1 : b ≠ nFlat) (h2 : b ≠ nWarm) (h3 : b ≠ nBright) (h4 : b ≠ nShel) : AC Try.prog 43 [.c (.string b)] (.tup [V.cv ⟨[], [], 0⟩, .i 5]) [] :=
  (rNamedN0_ac h1 h2 h3 h4).res rfl (RImp.tups ⟨RImp.agg ⟨RImp.nils 1 _, RImp.nils 1 _, RImp.refl _, trivial⟩, RImp.refl _, trivial⟩)
set_option maxRecDepth 100000 in
theorem curvesW_law (c : Cv) (hc : cvL c) : AC Try.prog 10 [V.cv c, .c (.string nWarm)] (.b true) [] := by
  refine ac_intro hTT hMX (fn := Try.f10) (N := _) ⟨Try.func10, rfl, Try.ntmps10, by kernel_rfl⟩ (by simp) fun C hC hF => ?_
  refine aw_seq_k fun K hK => ?_
  refine w_region (n' := 2) (by kernel_rfl) (by kernel_rfl) ?_
  refine aops_n hTT (M := []) (n := 2) [pv (2 : Nat) (V.ptr [V.sl (1 : Nat) (List.length (Cv.feed c)) fun (k : Nat) => [V.i (gi (Cv.feed c) k)], V.sl (1 : Nat) (List.length (Cv.back c)) fun (k : Nat) => [V.i (gi (Cv.back c) k)], V.i (Cv.share c)]), pv (4 : Nat) (V.b false)] (by kernel_rfl) (by kernel_rfl) True.intro ?_
  refine aops_nil ?_
  refine xt_n ?_
  refine hK _ ?_
  clear hK K
  refine aw_seq_k fun K hK => ?_
  refine aw_seq_k fun K hK => ?_
  refine w_region (n' := 3) (by kernel_rfl) (by kernel_rfl) ?_
  refine aops_n hTT (M := []) (n := 2) [pv (12 : Nat) (V.agg [V.sl (1 : Nat) (List.length (Cv.feed c)) fun (k : Nat) => [V.i (gi (Cv.feed c) k)], V.sl (1 : Nat) (List.length (Cv.back c)) fun (k : Nat) => [V.i (gi (Cv.back c) k)], V.i (Cv.share c)]), pv (13 : Nat) (V.sl (3 : Nat) (1 : Nat) fun (i : Nat) => List.take (3 : Nat) (List.drop (i * (3 : Nat)) [V.sl (1 : Nat) (List.length (Cv.feed c)) fun (k : Nat) => [V.i (gi (Cv.feed c) k)], V.sl (1 : Nat) (List.length (Cv.back c)) fun (k : Nat) => [V.i (gi (Cv.back c) k)], V.i (Cv.share c)]))] (by kernel_rfl) (by kernel_rfl) True.intro ?_
  refine e_call (first := []) (caps := []) (AC.conv (chains_ac [c] (by unfold bigL; simp)) (args' := [V.sl (3 : Nat) (1 : Nat) fun (i : Nat) => List.take (3 : Nat) (List.drop (i * (3 : Nat)) [V.sl (1 : Nat) (List.length (Cv.feed c)) fun (k : Nat) => [V.i (gi (Cv.feed c) k)], V.sl (1 : Nat) (List.length (Cv.back c)) fun (k : Nat) => [V.i (gi (Cv.back c) k)], V.i (Cv.share c)])]) ⟨?_, trivial⟩) (by kernel_rfl) (by kernel_rfl) (by kernel_rfl) (by kernel_rfl) (by kernel_rfl) ?_
  · refine RImp.rows rfl fun i hi => ?_
    obtain rfl : i = 0 := by omega
    rfl
  refine aops_n hTT (M := []) (n := 5) [pv (15 : Nat) (V.b (longC [c])), pc (16 : Nat) ((True ∧ True) ∧ ((longC [c] == false) = true → True)) (V.gd (longC [c] == false) (V.c (Value.string nWarm))), pc (17 : Nat) ((((longC [c] == false) = true → (longC [c] == false) = true) ∧ True) ∧ ((longC [c] == false) = true → True)) (V.gd (longC [c] == false) (V.i (4 : Int))), pc (18 : Nat) ((((longC [c] == false) = true → (longC [c] == false) = true) ∧ True ∧ True) ∧ ((longC [c] == false) = true → True)) (V.gd (longC [c] == false) (V.b false)), pc (19 : Nat) (True ∧ (longC [c] = false → (longC [c] == false) = true)) (V.b (longC [c] && true))] (by kernel_rfl) (by kernel_rfl) ⟨⟨⟨True.intro, True.intro⟩, (fun _ => True.intro)⟩, ⟨⟨(by (exact fun h => h)), True.intro⟩, (fun _ => True.intro)⟩, ⟨⟨(by (exact fun h => h)), ⟨True.intro, True.intro⟩⟩, (fun _ => True.intro)⟩, ⟨True.intro, (by (intro h; rw [h]; rfl))⟩, True.intro⟩ ?_
  refine aops_nil ?_
  refine xt_n ?_
  refine hK _ ?_
  clear hK K
  refine w_cond (t := longC [c] && true) (by kernel_rfl) (fun c1 => ?_) (fun c1 => ?_)
  · refine aw_seq_k fun K hK => ?_
    refine w_region (n' := 4) (by kernel_rfl) (by kernel_rfl) ?_
    refine e_call (first := []) (caps := []) (fWorks_ac) (by kernel_rfl) (by kernel_rfl) (by kernel_rfl) (by kernel_rfl) (by kernel_rfl) ?_
    refine aops_n hTT (M := []) (n := 1) [pv (4 : Nat) (V.b true)] (by kernel_rfl) (by kernel_rfl) True.intro ?_
    refine aops_nil ?_
    refine xt_n ?_
    refine hK _ ?_
    clear hK K
    refine aw_ret ?_
    refine xt_r ?_
    refine ret_pure (v' := V.b true) (.inr rfl) (by kernel_rfl) (by kernel_rfl) (by kernel_rfl)
  refine aw_skip ?_
  refine xt_n ?_
  refine hK _ ?_
  clear hK K
  refine aw_seq_k fun K hK => ?_
  refine w_region (n' := 4) (by kernel_rfl) (by kernel_rfl) ?_
  refine aops_n hTT (M := []) (n := 1) [pv (22 : Nat) (V.c (Value.string nWarm))] (by kernel_rfl) (by kernel_rfl) True.intro ?_
  refine aops_callN (first := []) (caps := []) (v' := V.tup [V.agg [V.own (300023 : Nat), V.own (301023 : Nat), V.i (256 : Int)], V.i (0 : Int)]) (δ := [(300023, Option.some (Ob.row (2 : Nat) (1 : Nat) (1 : Nat) fun (i : Nat) => V.renL (callG (3 : Nat) (some 23)) [V.i (gi [(64 : Int)] i)])), (301023, Option.some (Ob.row (2 : Nat) (1 : Nat) (1 : Nat) fun (i : Nat) => V.renL (callG (3 : Nat) (some 23)) [V.i (gi [(128 : Int)] i)]))]) (NamedW_ac) (by kernel_rfl) (by kernel_rfl) (by kernel_rfl) (by kernel_rfl) (by kernel_rfl) (by kernel_rfl) (by kernel_rfl) ?_
  refine aops_n hTT (M := []) (n := 6) [pv (21 : Nat) (V.tup [V.agg [V.own (300023 : Nat), V.own (301023 : Nat), V.i (256 : Int)], V.i (0 : Int)]), pv (24 : Nat) (V.agg [V.own (300023 : Nat), V.own (301023 : Nat), V.i (256 : Int)]), pv (25 : Nat) (V.i (0 : Int)), pn (5 : Nat) (V.ref (300005 : Nat) (0 : Nat)) (300005 : Nat) (Ob.box (24 : Nat) [V.nil, V.nil, V.i (0 : Int)]), pw ((0 : Nat) + (3 : Nat) ≤ (3 : Nat)) (300005 : Nat) (Ob.box (24 : Nat) [V.own (300023 : Nat), V.own (301023 : Nat), V.i (256 : Int)]), pv (6 : Nat) (V.i (0 : Int))] (by kernel_rfl) (by kernel_rfl) ⟨(by omega), True.intro⟩ ?_
  refine aops_nil ?_
  refine xt_n ?_
  refine hK _ ?_
  clear hK K
  refine aw_seq_k fun K hK => ?_
  refine w_region (n' := 5) (by kernel_rfl) (by kernel_rfl) ?_
  refine aops_n hTT (M := []) (n := 1) [pv (27 : Nat) (V.c (Value.string nWarm))] (by kernel_rfl) (by kernel_rfl) True.intro ?_
  refine e_call (first := []) (caps := []) (rNamedW_ac) (by kernel_rfl) (by kernel_rfl) (by kernel_rfl) (by kernel_rfl) (by kernel_rfl) ?_
  refine aops_n hTT (M := []) (n := 6) [pv (26 : Nat) (V.tup [V.agg [V.sl (1 : Nat) (1 : Nat) fun (k : Nat) => [V.i (gi (Cv.feed (Cv.mk [(64 : Int)] [(128 : Int)] (256 : Int))) k)], V.sl (1 : Nat) (1 : Nat) fun (k : Nat) => [V.i (gi (Cv.back (Cv.mk [(64 : Int)] [(128 : Int)] (256 : Int))) k)], V.i (Cv.share (Cv.mk [(64 : Int)] [(128 : Int)] (256 : Int)))], V.i (0 : Int)]), pv (29 : Nat) (V.agg [V.sl (1 : Nat) (1 : Nat) fun (k : Nat) => [V.i (gi (Cv.feed (Cv.mk [(64 : Int)] [(128 : Int)] (256 : Int))) k)], V.sl (1 : Nat) (1 : Nat) fun (k : Nat) => [V.i (gi (Cv.back (Cv.mk [(64 : Int)] [(128 : Int)] (256 : Int))) k)], V.i (Cv.share (Cv.mk [(64 : Int)] [(128 : Int)] (256 : Int)))]), pv (30 : Nat) (V.i (0 : Int)), pn (7 : Nat) (V.ref (400007 : Nat) (0 : Nat)) (400007 : Nat) (Ob.box (24 : Nat) [V.nil, V.nil, V.i (0 : Int)]), pw ((0 : Nat) + (3 : Nat) ≤ (3 : Nat)) (400007 : Nat) (Ob.box (24 : Nat) [V.sl (1 : Nat) (1 : Nat) fun (k : Nat) => [V.i (gi (Cv.feed (Cv.mk [(64 : Int)] [(128 : Int)] (256 : Int))) k)], V.sl (1 : Nat) (1 : Nat) fun (k : Nat) => [V.i (gi (Cv.back (Cv.mk [(64 : Int)] [(128 : Int)] (256 : Int))) k)], V.i (Cv.share (Cv.mk [(64 : Int)] [(128 : Int)] (256 : Int)))]), pv (8 : Nat) (V.i (0 : Int))] (by kernel_rfl) (by kernel_rfl) ⟨(by omega), True.intro⟩ ?_
  refine aops_nil ?_
  refine xt_n ?_
  refine hK _ ?_
  clear hK K
  refine aw_seq_k fun K hK => ?_
  refine aw_seq_k fun K hK => ?_
  refine w_regionD (n' := 6) (by kernel_rfl) (by kernel_rfl) ?_
  refine aops_n hTT (M := []) (n := 1) [pv (31 : Nat) (V.agg [V.sl (1 : Nat) (List.length (Cv.feed c)) fun (k : Nat) => [V.i (gi (Cv.feed c) k)], V.sl (1 : Nat) (List.length (Cv.back c)) fun (k : Nat) => [V.i (gi (Cv.back c) k)], V.i (Cv.share c)])] (by kernel_rfl) (by kernel_rfl) True.intro ?_
  refine e_call (first := []) (caps := []) (CheckCurve_ac c hc) (by kernel_rfl) (by kernel_rfl) (by kernel_rfl) (by kernel_rfl) (by kernel_rfl) ?_
  refine aops_n hTT (M := []) (n := 1) [pv (33 : Nat) (V.agg [V.sl (1 : Nat) (List.length (Cv.feed c)) fun (k : Nat) => [V.i (gi (Cv.feed c) k)], V.sl (1 : Nat) (List.length (Cv.back c)) fun (k : Nat) => [V.i (gi (Cv.back c) k)], V.i (Cv.share c)])] (by kernel_rfl) (by kernel_rfl) True.intro ?_
  refine e_call (first := []) (caps := []) (refCheckCurve_ac c hc) (by kernel_rfl) (by kernel_rfl) (by kernel_rfl) (by kernel_rfl) (by kernel_rfl) ?_
  refine aops_n hTT (M := []) (n := 11) [pv (35 : Nat) (V.b !decide (cvE c = cvE c)), pv (36 : Nat) (V.b !decide (cvE c = cvE c)), pc (37 : Nat) ((True ∧ True) ∧ (((!decide (cvE c = cvE c)) == false) = true → True)) (V.gd ((!decide (cvE c = cvE c)) == false) (V.i (0 : Int))), pc (38 : Nat) ((True ∧ True) ∧ (((!decide (cvE c = cvE c)) == false) = true → True)) (V.gd ((!decide (cvE c = cvE c)) == false) (V.i (0 : Int))), pc (39 : Nat) (((((!decide (cvE c = cvE c)) == false) = true → ((!decide (cvE c = cvE c)) == false) = true) ∧ (((!decide (cvE c = cvE c)) == false) = true → ((!decide (cvE c = cvE c)) == false) = true) ∧ True) ∧ (((!decide (cvE c = cvE c)) == false) = true → True)) (V.gd ((!decide (cvE c = cvE c)) == false) (V.b false)), pc (40 : Nat) (True ∧ ((!decide (cvE c = cvE c)) = false → ((!decide (cvE c = cvE c)) == false) = true)) (V.b (!decide (cvE c = cvE c) && true)), pv (41 : Nat) (V.b (!decide (cvE c = cvE c) && true)), pc (42 : Nat) ((True ∧ True) ∧ (((!decide (cvE c = cvE c) && true) == false) = true → True)) (V.gd ((!decide (cvE c = cvE c) && true) == false) (V.ref (300005 : Nat) (0 : Nat))), pc (43 : Nat) (((((!decide (cvE c = cvE c) && true) == false) = true → ((!decide (cvE c = cvE c) && true) == false) = true) ∧ True) ∧ (((!decide (cvE c = cvE c) && true) == false) = true → (0 : Nat) ≤ (3 : Nat))) (V.gd ((!decide (cvE c = cvE c) && true) == false) (V.own (300023 : Nat))), pc (44 : Nat) ((True ∧ True) ∧ (((!decide (cvE c = cvE c) && true) == false) = true → True)) (V.gd ((!decide (cvE c = cvE c) && true) == false) (V.ref (400007 : Nat) (0 : Nat))), pc (45 : Nat) (((((!decide (cvE c = cvE c) && true) == false) = true → ((!decide (cvE c = cvE c) && true) == false) = true) ∧ True) ∧ (((!decide (cvE c = cvE c) && true) == false) = true → (0 : Nat) ≤ (3 : Nat))) (V.gd ((!decide (cvE c = cvE c) && true) == false) (V.sl (1 : Nat) (1 : Nat) fun (k : Nat) => [V.i (gi (Cv.feed (Cv.mk [(64 : Int)] [(128 : Int)] (256 : Int))) k)]))] (by kernel_rfl) (by kernel_rfl) ⟨⟨⟨True.intro, True.intro⟩, (fun _ => True.intro)⟩, ⟨⟨True.intro, True.intro⟩, (fun _ => True.intro)⟩, ⟨⟨(by (exact fun h => h)), ⟨(by (exact fun h => h)), True.intro⟩⟩, (fun _ => True.intro)⟩, ⟨True.intro, (by (intro h; rw [h]; rfl))⟩, ⟨⟨True.intro, True.intro⟩, (fun _ => True.intro)⟩, ⟨⟨(by (exact fun h => h)), True.intro⟩, (by (simp only [inR]; omega))⟩, ⟨⟨True.intro, True.intro⟩, (fun _ => True.intro)⟩, ⟨⟨(by (exact fun h => h)), True.intro⟩, (by (simp only [inR]; omega))⟩, True.intro⟩ ?_
  refine aops_callRG 2 [300023] (g := (!decide (cvE c = cvE c) && true) == false) (first := []) (caps := []) (ins' := [Ob.row (2 : Nat) (1 : Nat) (1 : Nat) fun (i : Nat) => V.renL (callG (3 : Nat) (some (23 : Tmp))) [V.i (gi [(64 : Int)] i)]]) (v' := V.b true) (kp := [300023]) (by kernel_rfl) (fun h => sameK [64] [64] (by decide) (by decide)) rfl (by kernel_rfl) (by kernel_rfl) (by kernel_rfl) (by kernel_rfl) (by kernel_rfl) rfl (by kernel_rfl) (by kernel_rfl) ⟨(fun _ _ => rfl), True.intro⟩ (by kernel_rfl) (by kernel_rfl) (by kernel_rfl) ?_
  refine aops_n hTT (M := []) (n := 7) [pc (47 : Nat) (((((!decide (cvE c = cvE c) && true) == false) = true → ((!decide (cvE c = cvE c) && true) == false) = true) ∧ True) ∧ (((!decide (cvE c = cvE c) && true) == false) = true → True)) (V.gd ((!decide (cvE c = cvE c) && true) == false) (V.b false)), pc (48 : Nat) (True ∧ ((!decide (cvE c = cvE c) && true) = false → ((!decide (cvE c = cvE c) && true) == false) = true)) (V.b (!decide (cvE c = cvE c) && true && true)), pv (49 : Nat) (V.b (!decide (cvE c = cvE c) && true && true)), pc (50 : Nat) ((True ∧ True) ∧ (((!decide (cvE c = cvE c) && true && true) == false) = true → True)) (V.gd ((!decide (cvE c = cvE c) && true && true) == false) (V.ref (300005 : Nat) (1 : Nat))), pc (51 : Nat) (((((!decide (cvE c = cvE c) && true && true) == false) = true → ((!decide (cvE c = cvE c) && true && true) == false) = true) ∧ True) ∧ (((!decide (cvE c = cvE c) && true && true) == false) = true → (1 : Nat) ≤ (3 : Nat))) (V.gd ((!decide (cvE c = cvE c) && true && true) == false) (V.own (301023 : Nat))), pc (52 : Nat) ((True ∧ True) ∧ (((!decide (cvE c = cvE c) && true && true) == false) = true → True)) (V.gd ((!decide (cvE c = cvE c) && true && true) == false) (V.ref (400007 : Nat) (1 : Nat))), pc (53 : Nat) (((((!decide (cvE c = cvE c) && true && true) == false) = true → ((!decide (cvE c = cvE c) && true && true) == false) = true) ∧ True) ∧ (((!decide (cvE c = cvE c) && true && true) == false) = true → (1 : Nat) ≤ (3 : Nat))) (V.gd ((!decide (cvE c = cvE c) && true && true) == false) (V.sl (1 : Nat) (1 : Nat) fun (k : Nat) => [V.i (gi (Cv.back (Cv.mk [(64 : Int)] [(128 : Int)] (256 : Int))) k)]))] (by kernel_rfl) (by kernel_rfl) ⟨⟨⟨(by (exact fun h => h)), True.intro⟩, (fun _ => True.intro)⟩, ⟨True.intro, (by (intro h; rw [h]; rfl))⟩, ⟨⟨True.intro, True.intro⟩, (fun _ => True.intro)⟩, ⟨⟨(by (exact fun h => h)), True.intro⟩, (by (simp only [inR]; omega))⟩, ⟨⟨True.intro, True.intro⟩, (fun _ => True.intro)⟩, ⟨⟨(by (exact fun h => h)), True.intro⟩, (by (simp only [inR]; omega))⟩, True.intro⟩ ?_
  refine aops_callRG 2 [301023] (g := (!decide (cvE c = cvE c) && true && true) == false) (first := []) (caps := []) (ins' := [Ob.row (2 : Nat) (1 : Nat) (1 : Nat) fun (i : Nat) => V.renL (callG (3 : Nat) (some (23 : Tmp))) [V.i (gi [(128 : Int)] i)]]) (v' := V.b true) (kp := [301023]) (by kernel_rfl) (fun h => sameK [128] [128] (by decide) (by decide)) rfl (by kernel_rfl) (by kernel_rfl) (by kernel_rfl) (by kernel_rfl) (by kernel_rfl) rfl (by kernel_rfl) (by kernel_rfl) ⟨(fun _ _ => rfl), True.intro⟩ (by kernel_rfl) (by kernel_rfl) (by kernel_rfl) ?_
  refine aops_n hTT (M := []) (n := 9) [pc (55 : Nat) (((((!decide (cvE c = cvE c) && true && true) == false) = true → ((!decide (cvE c = cvE c) && true && true) == false) = true) ∧ True) ∧ (((!decide (cvE c = cvE c) && true && true) == false) = true → True)) (V.gd ((!decide (cvE c = cvE c) && true && true) == false) (V.b false)), pc (56 : Nat) (True ∧ ((!decide (cvE c = cvE c) && true && true) = false → ((!decide (cvE c = cvE c) && true && true) == false) = true)) (V.b (!decide (cvE c = cvE c) && true && true && true)), pv (57 : Nat) (V.b (!decide (cvE c = cvE c) && true && true && true)), pc (58 : Nat) ((True ∧ True) ∧ (((!decide (cvE c = cvE c) && true && true && true) == false) = true → True)) (V.gd ((!decide (cvE c = cvE c) && true && true && true) == false) (V.ref (300005 : Nat) (2 : Nat))), pc (59 : Nat) (((((!decide (cvE c = cvE c) && true && true && true) == false) = true → ((!decide (cvE c = cvE c) && true && true && true) == false) = true) ∧ True) ∧ (((!decide (cvE c = cvE c) && true && true && true) == false) = true → (2 : Nat) ≤ (3 : Nat))) (V.gd ((!decide (cvE c = cvE c) && true && true && true) == false) (V.i (256 : Int))), pc (60 : Nat) ((True ∧ True) ∧ (((!decide (cvE c = cvE c) && true && true && true) == false) = true → True)) (V.gd ((!decide (cvE c = cvE c) && true && true && true) == false) (V.ref (400007 : Nat) (2 : Nat))), pc (61 : Nat) (((((!decide (cvE c = cvE c) && true && true && true) == false) = true → ((!decide (cvE c = cvE c) && true && true && true) == false) = true) ∧ True) ∧ (((!decide (cvE c = cvE c) && true && true && true) == false) = true → (2 : Nat) ≤ (3 : Nat))) (V.gd ((!decide (cvE c = cvE c) && true && true && true) == false) (V.i (Cv.share (Cv.mk [(64 : Int)] [(128 : Int)] (256 : Int))))), pc (62 : Nat) (((((!decide (cvE c = cvE c) && true && true && true) == false) = true → ((!decide (cvE c = cvE c) && true && true && true) == false) = true) ∧ (((!decide (cvE c = cvE c) && true && true && true) == false) = true → ((!decide (cvE c = cvE c) && true && true && true) == false) = true) ∧ True) ∧ (((!decide (cvE c = cvE c) && true && true && true) == false) = true → True)) (V.gd ((!decide (cvE c = cvE c) && true && true && true) == false) (V.b false)), pc (63 : Nat) (True ∧ ((!decide (cvE c = cvE c) && true && true && true) = false → ((!decide (cvE c = cvE c) && true && true && true) == false) = true)) (V.b (!decide (cvE c = cvE c) && true && true && true && true))] (by kernel_rfl) (by kernel_rfl) ⟨⟨⟨(by (exact fun h => h)), True.intro⟩, (fun _ => True.intro)⟩, ⟨True.intro, (by (intro h; rw [h]; rfl))⟩, ⟨⟨True.intro, True.intro⟩, (fun _ => True.intro)⟩, ⟨⟨(by (exact fun h => h)), True.intro⟩, (by (simp only [inR]; omega))⟩, ⟨⟨True.intro, True.intro⟩, (fun _ => True.intro)⟩, ⟨⟨(by (exact fun h => h)), True.intro⟩, (by (simp only [inR]; omega))⟩, ⟨⟨(by (exact fun h => h)), ⟨(by (exact fun h => h)), True.intro⟩⟩, (fun _ => True.intro)⟩, ⟨True.intro, (by (intro h; rw [h]; rfl))⟩, True.intro⟩ ?_
  refine aops_nil ⟨by kernel_rfl, ?_⟩
  refine xt_n ?_
  refine hK _ ?_
  clear hK K
  refine w_cond (t := !decide (cvE c = cvE c) && true && true && true && true) (by kernel_rfl) (fun c2 => ?_) (fun c2 => ?_)
  · exfalso; simp at c2
  refine aw_skip ?_
  refine xt_n ?_
  refine hK _ ?_
  clear hK K
  refine aw_seq_k fun K hK => ?_
  refine aw_seq_k fun K hK => ?_
  refine w_region (n' := 7) (by kernel_rfl) (by kernel_rfl) ?_
  refine aops_n hTT (M := []) (n := 1) [pv (9 : Nat) (V.i (0 : Int))] (by kernel_rfl) (by kernel_rfl) True.intro ?_
  refine aops_nil ?_
  refine xt_n ?_
  refine hK _ ?_
  clear hK K
  refine aw_block ?_
  refine aw_rounds 4 ?_
  refine awr_succ (m := 3) fun K hK => ?_
  refine aw_seq_k fun K hK => ?_
  refine aw_seq_k fun K hK => ?_
  refine w_region (n' := 8) (by kernel_rfl) (by kernel_rfl) ?_
  refine aops_n hTT (M := []) (n := 5) [pv (64 : Nat) (V.i (0 : Int)), pv (65 : Nat) (V.ref (300005 : Nat) (0 : Nat)), pc (66 : Nat) ((0 : Nat) ≤ (3 : Nat)) (V.own (300023 : Nat)), pv (67 : Nat) (V.i (1 : Int)), pv (68 : Nat) (V.b true)] (by kernel_rfl) (by kernel_rfl) ⟨(by omega), True.intro⟩ ?_
  refine aops_nil ?_
  refine xt_n ?_
  refine hK _ ?_
  clear hK K
  refine w_true (t := true) (by kernel_rfl) rfl ?_
  refine aw_skip ?_
  refine xt_n ?_
  refine hK _ ?_
  clear hK K
  refine aw_seq_k fun K hK => ?_
  refine aw_block ?_
  refine w_region (n' := 9) (by kernel_rfl) (by kernel_rfl) ?_
  refine aops_n hTT (M := []) (n := 5) [pv (71 : Nat) (V.ref (300005 : Nat) (0 : Nat)), pc (72 : Nat) ((0 : Nat) ≤ (3 : Nat)) (V.own (300023 : Nat)), pv (73 : Nat) (V.i (0 : Int)), pc (74 : Nat) ((0 : Int) ≤ (0 : Int) ∧ (0 : Int) < (↑(1 : Nat) : Int)) (V.oel (300023 : Nat) (1 : Nat) (0 : Nat) (0 : Nat)), pw ((0 : Nat) < (1 : Nat) ∧ (0 : Nat) + (1 : Nat) ≤ (1 : Nat)) (300023 : Nat) (Ob.row (2 : Nat) (1 : Nat) (1 : Nat) fun (j : Nat) => if j = (0 : Nat) then [V.i (5 : Int)] else V.renL (callG (3 : Nat) (some (23 : Tmp))) [V.i (gi [(64 : Int)] j)])] (by kernel_rfl) (by kernel_rfl) ⟨(by omega), (by omega), (by omega), True.intro⟩ ?_
  refine aops_nil ?_
  refine xb_n ?_
  refine xt_n ?_
  refine hK _ ?_
  clear hK K
  refine w_region (n' := 10) (by kernel_rfl) (by kernel_rfl) ?_
  refine aops_n hTT (M := []) (n := 3) [pv (69 : Nat) (V.i (0 : Int)), pc (70 : Nat) ((-9223372036854775808 : Int) ≤ (0 : Int) + (1 : Int) ∧ (0 : Int) + (1 : Int) ≤ (9223372036854775807 : Int)) (V.i (1 : Int)), pv (9 : Nat) (V.i (1 : Int))] (by kernel_rfl) (by kernel_rfl) ⟨(by omega), True.intro⟩ ?_
  refine aops_nil ?_
  refine xt_n ?_
  refine hK _ ?_
  clear hK K
  refine awr_succ (m := 2) fun K hK => ?_
  refine aw_seq_k fun K hK => ?_
  refine aw_seq_k fun K hK => ?_
  refine w_region (n' := 11) (by kernel_rfl) (by kernel_rfl) ?_
  refine aops_n hTT (M := []) (n := 5) [pv (64 : Nat) (V.i (1 : Int)), pv (65 : Nat) (V.ref (300005 : Nat) (0 : Nat)), pc (66 : Nat) ((0 : Nat) ≤ (3 : Nat)) (V.own (300023 : Nat)), pv (67 : Nat) (V.i (1 : Int)), pv (68 : Nat) (V.b false)] (by kernel_rfl) (by kernel_rfl) ⟨(by omega), True.intro⟩ ?_
  refine aops_nil ?_
  refine xt_n ?_
  refine hK _ ?_
  clear hK K
  refine w_false (t := false) (by kernel_rfl) rfl ?_
  refine aw_exit ?_
  refine xt_x ?_
  refine xt_x ?_
  refine xb_same ?_
  refine xt_n ?_
  clear hK K
  clear hK K
  refine hK _ ?_
  clear hK K
  refine aw_seq_k fun K hK => ?_
  refine aw_seq_k fun K hK => ?_
  refine w_region (n' := 12) (by kernel_rfl) (by kernel_rfl) ?_
  refine aops_n hTT (M := []) (n := 1) [pv (10 : Nat) (V.i (0 : Int))] (by kernel_rfl) (by kernel_rfl) True.intro ?_
  refine aops_nil ?_
  refine xt_n ?_
  refine hK _ ?_
  clear hK K
  refine aw_block ?_
  refine aw_rounds 4 ?_
  refine awr_succ (m := 3) fun K hK => ?_
  refine aw_seq_k fun K hK => ?_
  refine aw_seq_k fun K hK => ?_
  refine w_region (n' := 13) (by kernel_rfl) (by kernel_rfl) ?_
  refine aops_n hTT (M := []) (n := 5) [pv (75 : Nat) (V.i (0 : Int)), pv (76 : Nat) (V.ref (300005 : Nat) (1 : Nat)), pc (77 : Nat) ((1 : Nat) ≤ (3 : Nat)) (V.own (301023 : Nat)), pv (78 : Nat) (V.i (1 : Int)), pv (79 : Nat) (V.b true)] (by kernel_rfl) (by kernel_rfl) ⟨(by omega), True.intro⟩ ?_
  refine aops_nil ?_
  refine xt_n ?_
  refine hK _ ?_
  clear hK K
  refine w_true (t := true) (by kernel_rfl) rfl ?_
  refine aw_skip ?_
  refine xt_n ?_
  refine hK _ ?_
  clear hK K
  refine aw_seq_k fun K hK => ?_
  refine aw_block ?_
  refine w_region (n' := 14) (by kernel_rfl) (by kernel_rfl) ?_
  refine aops_n hTT (M := []) (n := 5) [pv (82 : Nat) (V.ref (300005 : Nat) (1 : Nat)), pc (83 : Nat) ((1 : Nat) ≤ (3 : Nat)) (V.own (301023 : Nat)), pv (84 : Nat) (V.i (0 : Int)), pc (85 : Nat) ((0 : Int) ≤ (0 : Int) ∧ (0 : Int) < (↑(1 : Nat) : Int)) (V.oel (301023 : Nat) (1 : Nat) (0 : Nat) (0 : Nat)), pw ((0 : Nat) < (1 : Nat) ∧ (0 : Nat) + (1 : Nat) ≤ (1 : Nat)) (301023 : Nat) (Ob.row (2 : Nat) (1 : Nat) (1 : Nat) fun (j : Nat) => if j = (0 : Nat) then [V.i (6 : Int)] else V.renL (callG (3 : Nat) (some (23 : Tmp))) [V.i (gi [(128 : Int)] j)])] (by kernel_rfl) (by kernel_rfl) ⟨(by omega), (by omega), (by omega), True.intro⟩ ?_
  refine aops_nil ?_
  refine xb_n ?_
  refine xt_n ?_
  refine hK _ ?_
  clear hK K
  refine w_region (n' := 15) (by kernel_rfl) (by kernel_rfl) ?_
  refine aops_n hTT (M := []) (n := 3) [pv (80 : Nat) (V.i (0 : Int)), pc (81 : Nat) ((-9223372036854775808 : Int) ≤ (0 : Int) + (1 : Int) ∧ (0 : Int) + (1 : Int) ≤ (9223372036854775807 : Int)) (V.i (1 : Int)), pv (10 : Nat) (V.i (1 : Int))] (by kernel_rfl) (by kernel_rfl) ⟨(by omega), True.intro⟩ ?_
  refine aops_nil ?_
  refine xt_n ?_
  refine hK _ ?_
  clear hK K
  refine awr_succ (m := 2) fun K hK => ?_
  refine aw_seq_k fun K hK => ?_
  refine aw_seq_k fun K hK => ?_
  refine w_region (n' := 16) (by kernel_rfl) (by kernel_rfl) ?_
  refine aops_n hTT (M := []) (n := 5) [pv (75 : Nat) (V.i (1 : Int)), pv (76 : Nat) (V.ref (300005 : Nat) (1 : Nat)), pc (77 : Nat) ((1 : Nat) ≤ (3 : Nat)) (V.own (301023 : Nat)), pv (78 : Nat) (V.i (1 : Int)), pv (79 : Nat) (V.b false)] (by kernel_rfl) (by kernel_rfl) ⟨(by omega), True.intro⟩ ?_
  refine aops_nil ?_
  refine xt_n ?_
  refine hK _ ?_
  clear hK K
  refine w_false (t := false) (by kernel_rfl) rfl ?_
  refine aw_exit ?_
  refine xt_x ?_
  refine xt_x ?_
  refine xb_same ?_
  refine xt_n ?_
  clear hK K
  clear hK K
  refine hK _ ?_
  clear hK K
  refine aw_seq_k fun K hK => ?_
  refine w_region (n' := 17) (by kernel_rfl) (by kernel_rfl) ?_
  refine aops_n hTT (M := []) (n := 1) [pv (87 : Nat) (V.c (Value.string nWarm))] (by kernel_rfl) (by kernel_rfl) True.intro ?_
  refine aops_callN (first := []) (caps := []) (v' := V.tup [V.agg [V.own (1600088 : Nat), V.own (1601088 : Nat), V.i (256 : Int)], V.i (0 : Int)]) (δ := [(1600088, Option.some (Ob.row (2 : Nat) (1 : Nat) (1 : Nat) fun (i : Nat) => V.renL (callG (16 : Nat) (some 88)) [V.i (gi [(64 : Int)] i)])), (1601088, Option.some (Ob.row (2 : Nat) (1 : Nat) (1 : Nat) fun (i : Nat) => V.renL (callG (16 : Nat) (some 88)) [V.i (gi [(128 : Int)] i)]))]) (NamedW_ac) (by kernel_rfl) (by kernel_rfl) (by kernel_rfl) (by kernel_rfl) (by kernel_rfl) (by kernel_rfl) (by kernel_rfl) ?_
  refine aops_n hTT (M := []) (n := 6) [pv (86 : Nat) (V.tup [V.agg [V.own (1600088 : Nat), V.own (1601088 : Nat), V.i (256 : Int)], V.i (0 : Int)]), pv (89 : Nat) (V.agg [V.own (1600088 : Nat), V.own (1601088 : Nat), V.i (256 : Int)]), pv (90 : Nat) (V.i (0 : Int)), pn (11 : Nat) (V.ref (1600011 : Nat) (0 : Nat)) (1600011 : Nat) (Ob.box (24 : Nat) [V.nil, V.nil, V.i (0 : Int)]), pw ((0 : Nat) + (3 : Nat) ≤ (3 : Nat)) (1600011 : Nat) (Ob.box (24 : Nat) [V.own (1600088 : Nat), V.own (1601088 : Nat), V.i (256 : Int)]), pv (6 : Nat) (V.i (0 : Int))] (by kernel_rfl) (by kernel_rfl) ⟨(by omega), True.intro⟩ ?_
  refine aops_nil ?_
  refine xt_n ?_
  refine hK _ ?_
  clear hK K
  refine aw_seq_k fun K hK => ?_
  refine w_region (n' := 18) (by kernel_rfl) (by kernel_rfl) ?_
  refine aops_n hTT (M := []) (n := 8) [pv (91 : Nat) (V.i (0 : Int)), pv (92 : Nat) (V.i (0 : Int)), pv (93 : Nat) (V.b true), pv (94 : Nat) (V.b true), pc (95 : Nat) ((True ∧ True) ∧ ((true == true) = true → True)) (V.gd (true == true) (V.ref (1600011 : Nat) (0 : Nat))), pc (96 : Nat) ((((true == true) = true → (true == true) = true) ∧ True) ∧ ((true == true) = true → (0 : Nat) ≤ (3 : Nat))) (V.gd (true == true) (V.own (1600088 : Nat))), pc (97 : Nat) ((True ∧ True) ∧ ((true == true) = true → True)) (V.gd (true == true) (V.ref (400007 : Nat) (0 : Nat))), pc (98 : Nat) ((((true == true) = true → (true == true) = true) ∧ True) ∧ ((true == true) = true → (0 : Nat) ≤ (3 : Nat))) (V.gd (true == true) (V.sl (1 : Nat) (1 : Nat) fun (k : Nat) => [V.i (gi (Cv.feed (Cv.mk [(64 : Int)] [(128 : Int)] (256 : Int))) k)]))] (by kernel_rfl) (by kernel_rfl) ⟨⟨⟨True.intro, True.intro⟩, (fun _ => True.intro)⟩, ⟨⟨(by (exact fun h => h)), True.intro⟩, (by (intro _; simp; done))⟩, ⟨⟨True.intro, True.intro⟩, (fun _ => True.intro)⟩, ⟨⟨(by (exact fun h => h)), True.intro⟩, (by (intro _; simp; done))⟩, True.intro⟩ ?_
  refine aops_callRG 2 [1600088] (g := true == true) (first := []) (caps := []) (ins' := [Ob.row (2 : Nat) (1 : Nat) (1 : Nat) fun (i : Nat) => V.renL (callG (16 : Nat) (some (88 : Tmp))) [V.i (gi [(64 : Int)] i)]]) (v' := V.b true) (kp := [1600088]) (by kernel_rfl) (fun h => sameK [64] [64] (by decide) (by decide)) rfl (by kernel_rfl) (by kernel_rfl) (by kernel_rfl) (by kernel_rfl) (by kernel_rfl) rfl (by kernel_rfl) (by kernel_rfl) ⟨(fun _ _ => rfl), True.intro⟩ (by kernel_rfl) (by kernel_rfl) (by kernel_rfl) ?_
  refine aops_n hTT (M := []) (n := 6) [pc (100 : Nat) ((true = true → (true == true) = true) ∧ True) (V.b true), pv (101 : Nat) (V.b true), pc (102 : Nat) ((True ∧ True) ∧ ((true == true) = true → True)) (V.gd (true == true) (V.ref (1600011 : Nat) (1 : Nat))), pc (103 : Nat) ((((true == true) = true → (true == true) = true) ∧ True) ∧ ((true == true) = true → (1 : Nat) ≤ (3 : Nat))) (V.gd (true == true) (V.own (1601088 : Nat))), pc (104 : Nat) ((True ∧ True) ∧ ((true == true) = true → True)) (V.gd (true == true) (V.ref (400007 : Nat) (1 : Nat))), pc (105 : Nat) ((((true == true) = true → (true == true) = true) ∧ True) ∧ ((true == true) = true → (1 : Nat) ≤ (3 : Nat))) (V.gd (true == true) (V.sl (1 : Nat) (1 : Nat) fun (k : Nat) => [V.i (gi (Cv.back (Cv.mk [(64 : Int)] [(128 : Int)] (256 : Int))) k)]))] (by kernel_rfl) (by kernel_rfl) ⟨⟨(by (exact fun h => h)), True.intro⟩, ⟨⟨True.intro, True.intro⟩, (fun _ => True.intro)⟩, ⟨⟨(by (exact fun h => h)), True.intro⟩, (by (intro _; simp; done))⟩, ⟨⟨True.intro, True.intro⟩, (fun _ => True.intro)⟩, ⟨⟨(by (exact fun h => h)), True.intro⟩, (by (intro _; simp; done))⟩, True.intro⟩ ?_
  refine aops_callRG 2 [1601088] (g := true == true) (first := []) (caps := []) (ins' := [Ob.row (2 : Nat) (1 : Nat) (1 : Nat) fun (i : Nat) => V.renL (callG (16 : Nat) (some (88 : Tmp))) [V.i (gi [(128 : Int)] i)]]) (v' := V.b true) (kp := [1601088]) (by kernel_rfl) (fun h => sameK [128] [128] (by decide) (by decide)) rfl (by kernel_rfl) (by kernel_rfl) (by kernel_rfl) (by kernel_rfl) (by kernel_rfl) rfl (by kernel_rfl) (by kernel_rfl) ⟨(fun _ _ => rfl), True.intro⟩ (by kernel_rfl) (by kernel_rfl) (by kernel_rfl) ?_
  refine aops_n hTT (M := []) (n := 2) [pc (107 : Nat) ((true = true → (true == true) = true) ∧ True) (V.b true), pv (108 : Nat) (V.b true)] (by kernel_rfl) (by kernel_rfl) ⟨⟨(by (exact fun h => h)), True.intro⟩, True.intro⟩ ?_
  refine e_callG 0 (g := true == true) (first := []) (caps := []) (by kernel_rfl) (fun h => fWorks_ac) (by kernel_rfl) (by kernel_rfl) (by kernel_rfl) (by kernel_rfl) (by kernel_rfl) (by kernel_rfl) ?_
  refine aops_n hTT (M := []) (n := 2) [pc (110 : Nat) ((true = true → (true == true) = true) ∧ True) (V.b true), pv (4 : Nat) (V.b true)] (by kernel_rfl) (by kernel_rfl) ⟨⟨(by (exact fun h => h)), True.intro⟩, True.intro⟩ ?_
  refine aops_nil ?_
  refine xt_n ?_
  refine hK _ ?_
  clear hK K
  refine aw_ret ?_
  refine ret_pure (v' := V.b true) (.inr rfl) (by kernel_rfl) (by kernel_rfl) (by kernel_rfl)
set_option maxRecDepth 100000 in
theorem curvesB_law (c : Cv) (hc : cvL c) : AC Try.prog 10 [V.cv c, .c (.string nBright)] (.b true) [] := by
  refine ac_intro hTT hMX (fn := Try.f10) (N := _) ⟨Try.func10, rfl, Try.ntmps10, by kernel_rfl⟩ (by simp) fun C hC hF => ?_
  refine aw_seq_k fun K hK => ?_
  refine w_region (n' := 2) (by kernel_rfl) (by kernel_rfl) ?_
  refine aops_n hTT (M := []) (n := 2) [pv (2 : Nat) (V.ptr [V.sl (1 : Nat) (List.length (Cv.feed c)) fun (k : Nat) => [V.i (gi (Cv.feed c) k)], V.sl (1 : Nat) (List.length (Cv.back c)) fun (k : Nat) => [V.i (gi (Cv.back c) k)], V.i (Cv.share c)]), pv (4 : Nat) (V.b false)] (by kernel_rfl) (by kernel_rfl) True.intro ?_
  refine aops_nil ?_
  refine xt_n ?_
  refine hK _ ?_
  clear hK K
  refine aw_seq_k fun K hK => ?_
  refine aw_seq_k fun K hK => ?_
  refine w_region (n' := 3) (by kernel_rfl) (by kernel_rfl) ?_
  refine aops_n hTT (M := []) (n := 2) [pv (12 : Nat) (V.agg [V.sl (1 : Nat) (List.length (Cv.feed c)) fun (k : Nat) => [V.i (gi (Cv.feed c) k)], V.sl (1 : Nat) (List.length (Cv.back c)) fun (k : Nat) => [V.i (gi (Cv.back c) k)], V.i (Cv.share c)]), pv (13 : Nat) (V.sl (3 : Nat) (1 : Nat) fun (i : Nat) => List.take (3 : Nat) (List.drop (i * (3 : Nat)) [V.sl (1 : Nat) (List.length (Cv.feed c)) fun (k : Nat) => [V.i (gi (Cv.feed c) k)], V.sl (1 : Nat) (List.length (Cv.back c)) fun (k : Nat) => [V.i (gi (Cv.back c) k)], V.i (Cv.share c)]))] (by kernel_rfl) (by kernel_rfl) True.intro ?_
  refine e_call (first := []) (caps := []) (AC.conv (chains_ac [c] (by unfold bigL; simp)) (args' := [V.sl (3 : Nat) (1 : Nat) fun (i : Nat) => List.take (3 : Nat) (List.drop (i * (3 : Nat)) [V.sl (1 : Nat) (List.length (Cv.feed c)) fun (k : Nat) => [V.i (gi (Cv.feed c) k)], V.sl (1 : Nat) (List.length (Cv.back c)) fun (k : Nat) => [V.i (gi (Cv.back c) k)], V.i (Cv.share c)])]) ⟨?_, trivial⟩) (by kernel_rfl) (by kernel_rfl) (by kernel_rfl) (by kernel_rfl) (by kernel_rfl) ?_
  · refine RImp.rows rfl fun i hi => ?_
    obtain rfl : i = 0 := by omega
    rfl
  refine aops_n hTT (M := []) (n := 5) [pv (15 : Nat) (V.b (longC [c])), pc (16 : Nat) ((True ∧ True) ∧ ((longC [c] == false) = true → True)) (V.gd (longC [c] == false) (V.c (Value.string nBright))), pc (17 : Nat) ((((longC [c] == false) = true → (longC [c] == false) = true) ∧ True) ∧ ((longC [c] == false) = true → True)) (V.gd (longC [c] == false) (V.i (6 : Int))), pc (18 : Nat) ((((longC [c] == false) = true → (longC [c] == false) = true) ∧ True ∧ True) ∧ ((longC [c] == false) = true → True)) (V.gd (longC [c] == false) (V.b false)), pc (19 : Nat) (True ∧ (longC [c] = false → (longC [c] == false) = true)) (V.b (longC [c] && true))] (by kernel_rfl) (by kernel_rfl) ⟨⟨⟨True.intro, True.intro⟩, (fun _ => True.intro)⟩, ⟨⟨(by (exact fun h => h)), True.intro⟩, (fun _ => True.intro)⟩, ⟨⟨(by (exact fun h => h)), ⟨True.intro, True.intro⟩⟩, (fun _ => True.intro)⟩, ⟨True.intro, (by (intro h; rw [h]; rfl))⟩, True.intro⟩ ?_
  refine aops_nil ?_
  refine xt_n ?_
  refine hK _ ?_
  clear hK K
  refine w_cond (t := longC [c] && true) (by kernel_rfl) (fun c1 => ?_) (fun c1 => ?_)
  · refine aw_seq_k fun K hK => ?_
    refine w_region (n' := 4) (by kernel_rfl) (by kernel_rfl) ?_
    refine e_call (first := []) (caps := []) (fWorks_ac) (by kernel_rfl) (by kernel_rfl) (by kernel_rfl) (by kernel_rfl) (by kernel_rfl) ?_
    refine aops_n hTT (M := []) (n := 1) [pv (4 : Nat) (V.b true)] (by kernel_rfl) (by kernel_rfl) True.intro ?_
    refine aops_nil ?_
    refine xt_n ?_
    refine hK _ ?_
    clear hK K
    refine aw_ret ?_
    refine xt_r ?_
    refine ret_pure (v' := V.b true) (.inr rfl) (by kernel_rfl) (by kernel_rfl) (by kernel_rfl)
  refine aw_skip ?_
  refine xt_n ?_
  refine hK _ ?_
  clear hK K
  refine aw_seq_k fun K hK => ?_
  refine w_region (n' := 4) (by kernel_rfl) (by kernel_rfl) ?_
  refine aops_n hTT (M := []) (n := 1) [pv (22 : Nat) (V.c (Value.string nBright))] (by kernel_rfl) (by kernel_rfl) True.intro ?_
  refine e_callO (first := []) (caps := []) (k := 300023) (v' := V.tup [V.agg [V.own (300023 : Nat), V.nil, V.i (256 : Int)], V.i (0 : Int)]) (ob' := Ob.row (2 : Nat) (1 : Nat) (1 : Nat) fun (i : Nat) => V.renL (callG (3 : Nat) (some 23)) [V.i (gi [(-192 : Int)] i)]) (NamedB_ac) (by kernel_rfl) (by kernel_rfl) (by kernel_rfl) (by kernel_rfl) (by kernel_rfl) (by kernel_rfl) (by kernel_rfl) ?_
  refine aops_n hTT (M := []) (n := 6) [pv (21 : Nat) (V.tup [V.agg [V.own (300023 : Nat), V.nil, V.i (256 : Int)], V.i (0 : Int)]), pv (24 : Nat) (V.agg [V.own (300023 : Nat), V.nil, V.i (256 : Int)]), pv (25 : Nat) (V.i (0 : Int)), pn (5 : Nat) (V.ref (300005 : Nat) (0 : Nat)) (300005 : Nat) (Ob.box (24 : Nat) [V.nil, V.nil, V.i (0 : Int)]), pw ((0 : Nat) + (3 : Nat) ≤ (3 : Nat)) (300005 : Nat) (Ob.box (24 : Nat) [V.own (300023 : Nat), V.nil, V.i (256 : Int)]), pv (6 : Nat) (V.i (0 : Int))] (by kernel_rfl) (by kernel_rfl) ⟨(by omega), True.intro⟩ ?_
  refine aops_nil ?_
  refine xt_n ?_
  refine hK _ ?_
  clear hK K
  refine aw_seq_k fun K hK => ?_
  refine w_region (n' := 5) (by kernel_rfl) (by kernel_rfl) ?_
  refine aops_n hTT (M := []) (n := 1) [pv (27 : Nat) (V.c (Value.string nBright))] (by kernel_rfl) (by kernel_rfl) True.intro ?_
  refine e_call (first := []) (caps := []) (rNamedB_ac) (by kernel_rfl) (by kernel_rfl) (by kernel_rfl) (by kernel_rfl) (by kernel_rfl) ?_
  refine aops_n hTT (M := []) (n := 6) [pv (26 : Nat) (V.tup [V.agg [V.sl (1 : Nat) (1 : Nat) fun (k : Nat) => [V.i (gi (Cv.feed (Cv.mk [(-192 : Int)] [] (256 : Int))) k)], V.sl (1 : Nat) (0 : Nat) fun (k : Nat) => [V.i (gi (Cv.back (Cv.mk [(-192 : Int)] [] (256 : Int))) k)], V.i (Cv.share (Cv.mk [(-192 : Int)] [] (256 : Int)))], V.i (0 : Int)]), pv (29 : Nat) (V.agg [V.sl (1 : Nat) (1 : Nat) fun (k : Nat) => [V.i (gi (Cv.feed (Cv.mk [(-192 : Int)] [] (256 : Int))) k)], V.sl (1 : Nat) (0 : Nat) fun (k : Nat) => [V.i (gi (Cv.back (Cv.mk [(-192 : Int)] [] (256 : Int))) k)], V.i (Cv.share (Cv.mk [(-192 : Int)] [] (256 : Int)))]), pv (30 : Nat) (V.i (0 : Int)), pn (7 : Nat) (V.ref (400007 : Nat) (0 : Nat)) (400007 : Nat) (Ob.box (24 : Nat) [V.nil, V.nil, V.i (0 : Int)]), pw ((0 : Nat) + (3 : Nat) ≤ (3 : Nat)) (400007 : Nat) (Ob.box (24 : Nat) [V.sl (1 : Nat) (1 : Nat) fun (k : Nat) => [V.i (gi (Cv.feed (Cv.mk [(-192 : Int)] [] (256 : Int))) k)], V.sl (1 : Nat) (0 : Nat) fun (k : Nat) => [V.i (gi (Cv.back (Cv.mk [(-192 : Int)] [] (256 : Int))) k)], V.i (Cv.share (Cv.mk [(-192 : Int)] [] (256 : Int)))]), pv (8 : Nat) (V.i (0 : Int))] (by kernel_rfl) (by kernel_rfl) ⟨(by omega), True.intro⟩ ?_
  refine aops_nil ?_
  refine xt_n ?_
  refine hK _ ?_
  clear hK K
  refine aw_seq_k fun K hK => ?_
  refine aw_seq_k fun K hK => ?_
  refine w_regionD (n' := 6) (by kernel_rfl) (by kernel_rfl) ?_
  refine aops_n hTT (M := []) (n := 1) [pv (31 : Nat) (V.agg [V.sl (1 : Nat) (List.length (Cv.feed c)) fun (k : Nat) => [V.i (gi (Cv.feed c) k)], V.sl (1 : Nat) (List.length (Cv.back c)) fun (k : Nat) => [V.i (gi (Cv.back c) k)], V.i (Cv.share c)])] (by kernel_rfl) (by kernel_rfl) True.intro ?_
  refine e_call (first := []) (caps := []) (CheckCurve_ac c hc) (by kernel_rfl) (by kernel_rfl) (by kernel_rfl) (by kernel_rfl) (by kernel_rfl) ?_
  refine aops_n hTT (M := []) (n := 1) [pv (33 : Nat) (V.agg [V.sl (1 : Nat) (List.length (Cv.feed c)) fun (k : Nat) => [V.i (gi (Cv.feed c) k)], V.sl (1 : Nat) (List.length (Cv.back c)) fun (k : Nat) => [V.i (gi (Cv.back c) k)], V.i (Cv.share c)])] (by kernel_rfl) (by kernel_rfl) True.intro ?_
  refine e_call (first := []) (caps := []) (refCheckCurve_ac c hc) (by kernel_rfl) (by kernel_rfl) (by kernel_rfl) (by kernel_rfl) (by kernel_rfl) ?_
  refine aops_n hTT (M := []) (n := 11) [pv (35 : Nat) (V.b !decide (cvE c = cvE c)), pv (36 : Nat) (V.b !decide (cvE c = cvE c)), pc (37 : Nat) ((True ∧ True) ∧ (((!decide (cvE c = cvE c)) == false) = true → True)) (V.gd ((!decide (cvE c = cvE c)) == false) (V.i (0 : Int))), pc (38 : Nat) ((True ∧ True) ∧ (((!decide (cvE c = cvE c)) == false) = true → True)) (V.gd ((!decide (cvE c = cvE c)) == false) (V.i (0 : Int))), pc (39 : Nat) (((((!decide (cvE c = cvE c)) == false) = true → ((!decide (cvE c = cvE c)) == false) = true) ∧ (((!decide (cvE c = cvE c)) == false) = true → ((!decide (cvE c = cvE c)) == false) = true) ∧ True) ∧ (((!decide (cvE c = cvE c)) == false) = true → True)) (V.gd ((!decide (cvE c = cvE c)) == false) (V.b false)), pc (40 : Nat) (True ∧ ((!decide (cvE c = cvE c)) = false → ((!decide (cvE c = cvE c)) == false) = true)) (V.b (!decide (cvE c = cvE c) && true)), pv (41 : Nat) (V.b (!decide (cvE c = cvE c) && true)), pc (42 : Nat) ((True ∧ True) ∧ (((!decide (cvE c = cvE c) && true) == false) = true → True)) (V.gd ((!decide (cvE c = cvE c) && true) == false) (V.ref (300005 : Nat) (0 : Nat))), pc (43 : Nat) (((((!decide (cvE c = cvE c) && true) == false) = true → ((!decide (cvE c = cvE c) && true) == false) = true) ∧ True) ∧ (((!decide (cvE c = cvE c) && true) == false) = true → (0 : Nat) ≤ (3 : Nat))) (V.gd ((!decide (cvE c = cvE c) && true) == false) (V.own (300023 : Nat))), pc (44 : Nat) ((True ∧ True) ∧ (((!decide (cvE c = cvE c) && true) == false) = true → True)) (V.gd ((!decide (cvE c = cvE c) && true) == false) (V.ref (400007 : Nat) (0 : Nat))), pc (45 : Nat) (((((!decide (cvE c = cvE c) && true) == false) = true → ((!decide (cvE c = cvE c) && true) == false) = true) ∧ True) ∧ (((!decide (cvE c = cvE c) && true) == false) = true → (0 : Nat) ≤ (3 : Nat))) (V.gd ((!decide (cvE c = cvE c) && true) == false) (V.sl (1 : Nat) (1 : Nat) fun (k : Nat) => [V.i (gi (Cv.feed (Cv.mk [(-192 : Int)] [] (256 : Int))) k)]))] (by kernel_rfl) (by kernel_rfl) ⟨⟨⟨True.intro, True.intro⟩, (fun _ => True.intro)⟩, ⟨⟨True.intro, True.intro⟩, (fun _ => True.intro)⟩, ⟨⟨(by (exact fun h => h)), ⟨(by (exact fun h => h)), True.intro⟩⟩, (fun _ => True.intro)⟩, ⟨True.intro, (by (intro h; rw [h]; rfl))⟩, ⟨⟨True.intro, True.intro⟩, (fun _ => True.intro)⟩, ⟨⟨(by (exact fun h => h)), True.intro⟩, (by (simp only [inR]; omega))⟩, ⟨⟨True.intro, True.intro⟩, (fun _ => True.intro)⟩, ⟨⟨(by (exact fun h => h)), True.intro⟩, (by (simp only [inR]; omega))⟩, True.intro⟩ ?_
  refine aops_callRG 2 [300023] (g := (!decide (cvE c = cvE c) && true) == false) (first := []) (caps := []) (ins' := [Ob.row (2 : Nat) (1 : Nat) (1 : Nat) fun (i : Nat) => V.renL (callG (3 : Nat) (some (23 : Tmp))) [V.i (gi [(-192 : Int)] i)]]) (v' := V.b true) (kp := [300023]) (by kernel_rfl) (fun h => sameK [-192] [-192] (by decide) (by decide)) rfl (by kernel_rfl) (by kernel_rfl) (by kernel_rfl) (by kernel_rfl) (by kernel_rfl) rfl (by kernel_rfl) (by kernel_rfl) ⟨(fun _ _ => rfl), True.intro⟩ (by kernel_rfl) (by kernel_rfl) (by kernel_rfl) ?_
  refine aops_n hTT (M := []) (n := 7) [pc (47 : Nat) (((((!decide (cvE c = cvE c) && true) == false) = true → ((!decide (cvE c = cvE c) && true) == false) = true) ∧ True) ∧ (((!decide (cvE c = cvE c) && true) == false) = true → True)) (V.gd ((!decide (cvE c = cvE c) && true) == false) (V.b false)), pc (48 : Nat) (True ∧ ((!decide (cvE c = cvE c) && true) = false → ((!decide (cvE c = cvE c) && true) == false) = true)) (V.b (!decide (cvE c = cvE c) && true && true)), pv (49 : Nat) (V.b (!decide (cvE c = cvE c) && true && true)), pc (50 : Nat) ((True ∧ True) ∧ (((!decide (cvE c = cvE c) && true && true) == false) = true → True)) (V.gd ((!decide (cvE c = cvE c) && true && true) == false) (V.ref (300005 : Nat) (1 : Nat))), pc (51 : Nat) (((((!decide (cvE c = cvE c) && true && true) == false) = true → ((!decide (cvE c = cvE c) && true && true) == false) = true) ∧ True) ∧ (((!decide (cvE c = cvE c) && true && true) == false) = true → (1 : Nat) ≤ (3 : Nat))) (V.gd ((!decide (cvE c = cvE c) && true && true) == false) V.nil), pc (52 : Nat) ((True ∧ True) ∧ (((!decide (cvE c = cvE c) && true && true) == false) = true → True)) (V.gd ((!decide (cvE c = cvE c) && true && true) == false) (V.ref (400007 : Nat) (1 : Nat))), pc (53 : Nat) (((((!decide (cvE c = cvE c) && true && true) == false) = true → ((!decide (cvE c = cvE c) && true && true) == false) = true) ∧ True) ∧ (((!decide (cvE c = cvE c) && true && true) == false) = true → (1 : Nat) ≤ (3 : Nat))) (V.gd ((!decide (cvE c = cvE c) && true && true) == false) (V.sl (1 : Nat) (0 : Nat) fun (k : Nat) => [V.i (gi (Cv.back (Cv.mk [(-192 : Int)] [] (256 : Int))) k)]))] (by kernel_rfl) (by kernel_rfl) ⟨⟨⟨(by (exact fun h => h)), True.intro⟩, (fun _ => True.intro)⟩, ⟨True.intro, (by (intro h; rw [h]; rfl))⟩, ⟨⟨True.intro, True.intro⟩, (fun _ => True.intro)⟩, ⟨⟨(by (exact fun h => h)), True.intro⟩, (by (simp only [inR]; omega))⟩, ⟨⟨True.intro, True.intro⟩, (fun _ => True.intro)⟩, ⟨⟨(by (exact fun h => h)), True.intro⟩, (by (simp only [inR]; omega))⟩, True.intro⟩ ?_
  refine e_callG 2 (g := (!decide (cvE c = cvE c) && true && true) == false) (first := []) (caps := []) (by kernel_rfl) (fun h => sameN) (by kernel_rfl) (by kernel_rfl) (by kernel_rfl) (by kernel_rfl) (by kernel_rfl) (by kernel_rfl) ?_
  refine aops_n hTT (M := []) (n := 9) [pc (55 : Nat) (((((!decide (cvE c = cvE c) && true && true) == false) = true → ((!decide (cvE c = cvE c) && true && true) == false) = true) ∧ True) ∧ (((!decide (cvE c = cvE c) && true && true) == false) = true → True)) (V.gd ((!decide (cvE c = cvE c) && true && true) == false) (V.b false)), pc (56 : Nat) (True ∧ ((!decide (cvE c = cvE c) && true && true) = false → ((!decide (cvE c = cvE c) && true && true) == false) = true)) (V.b (!decide (cvE c = cvE c) && true && true && true)), pv (57 : Nat) (V.b (!decide (cvE c = cvE c) && true && true && true)), pc (58 : Nat) ((True ∧ True) ∧ (((!decide (cvE c = cvE c) && true && true && true) == false) = true → True)) (V.gd ((!decide (cvE c = cvE c) && true && true && true) == false) (V.ref (300005 : Nat) (2 : Nat))), pc (59 : Nat) (((((!decide (cvE c = cvE c) && true && true && true) == false) = true → ((!decide (cvE c = cvE c) && true && true && true) == false) = true) ∧ True) ∧ (((!decide (cvE c = cvE c) && true && true && true) == false) = true → (2 : Nat) ≤ (3 : Nat))) (V.gd ((!decide (cvE c = cvE c) && true && true && true) == false) (V.i (256 : Int))), pc (60 : Nat) ((True ∧ True) ∧ (((!decide (cvE c = cvE c) && true && true && true) == false) = true → True)) (V.gd ((!decide (cvE c = cvE c) && true && true && true) == false) (V.ref (400007 : Nat) (2 : Nat))), pc (61 : Nat) (((((!decide (cvE c = cvE c) && true && true && true) == false) = true → ((!decide (cvE c = cvE c) && true && true && true) == false) = true) ∧ True) ∧ (((!decide (cvE c = cvE c) && true && true && true) == false) = true → (2 : Nat) ≤ (3 : Nat))) (V.gd ((!decide (cvE c = cvE c) && true && true && true) == false) (V.i (Cv.share (Cv.mk [(-192 : Int)] [] (256 : Int))))), pc (62 : Nat) (((((!decide (cvE c = cvE c) && true && true && true) == false) = true → ((!decide (cvE c = cvE c) && true && true && true) == false) = true) ∧ (((!decide (cvE c = cvE c) && true && true && true) == false) = true → ((!decide (cvE c = cvE c) && true && true && true) == false) = true) ∧ True) ∧ (((!decide (cvE c = cvE c) && true && true && true) == false) = true → True)) (V.gd ((!decide (cvE c = cvE c) && true && true && true) == false) (V.b false)), pc (63 : Nat) (True ∧ ((!decide (cvE c = cvE c) && true && true && true) = false → ((!decide (cvE c = cvE c) && true && true && true) == false) = true)) (V.b (!decide (cvE c = cvE c) && true && true && true && true))] (by kernel_rfl) (by kernel_rfl) ⟨⟨⟨(by (exact fun h => h)), True.intro⟩, (fun _ => True.intro)⟩, ⟨True.intro, (by (intro h; rw [h]; rfl))⟩, ⟨⟨True.intro, True.intro⟩, (fun _ => True.intro)⟩, ⟨⟨(by (exact fun h => h)), True.intro⟩, (by (simp only [inR]; omega))⟩, ⟨⟨True.intro, True.intro⟩, (fun _ => True.intro)⟩, ⟨⟨(by (exact fun h => h)), True.intro⟩, (by (simp only [inR]; omega))⟩, ⟨⟨(by (exact fun h => h)), ⟨(by (exact fun h => h)), True.intro⟩⟩, (fun _ => True.intro)⟩, ⟨True.intro, (by (intro h; rw [h]; rfl))⟩, True.intro⟩ ?_
  refine aops_nil ⟨by kernel_rfl, ?_⟩
  refine xt_n ?_
  refine hK _ ?_
  clear hK K
  refine w_cond (t := !decide (cvE c = cvE c) && true && true && true && true) (by kernel_rfl) (fun c2 => ?_) (fun c2 => ?_)
  · exfalso; simp at c2
  refine aw_skip ?_
  refine xt_n ?_
  refine hK _ ?_
  clear hK K
  refine aw_seq_k fun K hK => ?_
  refine aw_seq_k fun K hK => ?_
  refine w_region (n' := 7) (by kernel_rfl) (by kernel_rfl) ?_
  refine aops_n hTT (M := []) (n := 1) [pv (9 : Nat) (V.i (0 : Int))] (by kernel_rfl) (by kernel_rfl) True.intro ?_
  refine aops_nil ?_
  refine xt_n ?_
  refine hK _ ?_
  clear hK K
  refine aw_block ?_
  refine aw_rounds 4 ?_
  refine awr_succ (m := 3) fun K hK => ?_
  refine aw_seq_k fun K hK => ?_
  refine aw_seq_k fun K hK => ?_
  refine w_region (n' := 8) (by kernel_rfl) (by kernel_rfl) ?_
  refine aops_n hTT (M := []) (n := 5) [pv (64 : Nat) (V.i (0 : Int)), pv (65 : Nat) (V.ref (300005 : Nat) (0 : Nat)), pc (66 : Nat) ((0 : Nat) ≤ (3 : Nat)) (V.own (300023 : Nat)), pv (67 : Nat) (V.i (1 : Int)), pv (68 : Nat) (V.b true)] (by kernel_rfl) (by kernel_rfl) ⟨(by omega), True.intro⟩ ?_
  refine aops_nil ?_
  refine xt_n ?_
  refine hK _ ?_
  clear hK K
  refine w_true (t := true) (by kernel_rfl) rfl ?_
  refine aw_skip ?_
  refine xt_n ?_
  refine hK _ ?_
  clear hK K
  refine aw_seq_k fun K hK => ?_
  refine aw_block ?_
  refine w_region (n' := 9) (by kernel_rfl) (by kernel_rfl) ?_
  refine aops_n hTT (M := []) (n := 5) [pv (71 : Nat) (V.ref (300005 : Nat) (0 : Nat)), pc (72 : Nat) ((0 : Nat) ≤ (3 : Nat)) (V.own (300023 : Nat)), pv (73 : Nat) (V.i (0 : Int)), pc (74 : Nat) ((0 : Int) ≤ (0 : Int) ∧ (0 : Int) < (↑(1 : Nat) : Int)) (V.oel (300023 : Nat) (1 : Nat) (0 : Nat) (0 : Nat)), pw ((0 : Nat) < (1 : Nat) ∧ (0 : Nat) + (1 : Nat) ≤ (1 : Nat)) (300023 : Nat) (Ob.row (2 : Nat) (1 : Nat) (1 : Nat) fun (j : Nat) => if j = (0 : Nat) then [V.i (5 : Int)] else V.renL (callG (3 : Nat) (some (23 : Tmp))) [V.i (gi [(-192 : Int)] j)])] (by kernel_rfl) (by kernel_rfl) ⟨(by omega), (by omega), (by omega), True.intro⟩ ?_
  refine aops_nil ?_
  refine xb_n ?_
  refine xt_n ?_
  refine hK _ ?_
  clear hK K
  refine w_region (n' := 10) (by kernel_rfl) (by kernel_rfl) ?_
  refine aops_n hTT (M := []) (n := 3) [pv (69 : Nat) (V.i (0 : Int)), pc (70 : Nat) ((-9223372036854775808 : Int) ≤ (0 : Int) + (1 : Int) ∧ (0 : Int) + (1 : Int) ≤ (9223372036854775807 : Int)) (V.i (1 : Int)), pv (9 : Nat) (V.i (1 : Int))] (by kernel_rfl) (by kernel_rfl) ⟨(by omega), True.intro⟩ ?_
  refine aops_nil ?_
  refine xt_n ?_
  refine hK _ ?_
  clear hK K
  refine awr_succ (m := 2) fun K hK => ?_
  refine aw_seq_k fun K hK => ?_
  refine aw_seq_k fun K hK => ?_
  refine w_region (n' := 11) (by kernel_rfl) (by kernel_rfl) ?_
  refine aops_n hTT (M := []) (n := 5) [pv (64 : Nat) (V.i (1 : Int)), pv (65 : Nat) (V.ref (300005 : Nat) (0 : Nat)), pc (66 : Nat) ((0 : Nat) ≤ (3 : Nat)) (V.own (300023 : Nat)), pv (67 : Nat) (V.i (1 : Int)), pv (68 : Nat) (V.b false)] (by kernel_rfl) (by kernel_rfl) ⟨(by omega), True.intro⟩ ?_
  refine aops_nil ?_
  refine xt_n ?_
  refine hK _ ?_
  clear hK K
  refine w_false (t := false) (by kernel_rfl) rfl ?_
  refine aw_exit ?_
  refine xt_x ?_
  refine xt_x ?_
  refine xb_same ?_
  refine xt_n ?_
  clear hK K
  clear hK K
  refine hK _ ?_
  clear hK K
  refine aw_seq_k fun K hK => ?_
  refine aw_seq_k fun K hK => ?_
  refine w_region (n' := 12) (by kernel_rfl) (by kernel_rfl) ?_
  refine aops_n hTT (M := []) (n := 1) [pv (10 : Nat) (V.i (0 : Int))] (by kernel_rfl) (by kernel_rfl) True.intro ?_
  refine aops_nil ?_
  refine xt_n ?_
  refine hK _ ?_
  clear hK K
  refine aw_block ?_
  refine aw_rounds 4 ?_
  refine awr_succ (m := 3) fun K hK => ?_
  refine aw_seq_k fun K hK => ?_
  refine aw_seq_k fun K hK => ?_
  refine w_region (n' := 13) (by kernel_rfl) (by kernel_rfl) ?_
  refine aops_n hTT (M := []) (n := 5) [pv (75 : Nat) (V.i (0 : Int)), pv (76 : Nat) (V.ref (300005 : Nat) (1 : Nat)), pc (77 : Nat) ((1 : Nat) ≤ (3 : Nat)) V.nil, pv (78 : Nat) (V.i (0 : Int)), pv (79 : Nat) (V.b false)] (by kernel_rfl) (by kernel_rfl) ⟨(by omega), True.intro⟩ ?_
  refine aops_nil ?_
  refine xt_n ?_
  refine hK _ ?_
  clear hK K
  refine w_false (t := false) (by kernel_rfl) rfl ?_
  refine aw_exit ?_
  refine xt_x ?_
  refine xt_x ?_
  refine xb_same ?_
  refine xt_n ?_
  clear hK K
  clear hK K
  refine hK _ ?_
  clear hK K
  refine aw_seq_k fun K hK => ?_
  refine w_region (n' := 14) (by kernel_rfl) (by kernel_rfl) ?_
  refine aops_n hTT (M := []) (n := 1) [pv (87 : Nat) (V.c (Value.string nBright))] (by kernel_rfl) (by kernel_rfl) True.intro ?_
  refine e_callO (first := []) (caps := []) (k := 1300088) (v' := V.tup [V.agg [V.own (1300088 : Nat), V.nil, V.i (256 : Int)], V.i (0 : Int)]) (ob' := Ob.row (2 : Nat) (1 : Nat) (1 : Nat) fun (i : Nat) => V.renL (callG (13 : Nat) (some 88)) [V.i (gi [(-192 : Int)] i)]) (NamedB_ac) (by kernel_rfl) (by kernel_rfl) (by kernel_rfl) (by kernel_rfl) (by kernel_rfl) (by kernel_rfl) (by kernel_rfl) ?_
  refine aops_n hTT (M := []) (n := 6) [pv (86 : Nat) (V.tup [V.agg [V.own (1300088 : Nat), V.nil, V.i (256 : Int)], V.i (0 : Int)]), pv (89 : Nat) (V.agg [V.own (1300088 : Nat), V.nil, V.i (256 : Int)]), pv (90 : Nat) (V.i (0 : Int)), pn (11 : Nat) (V.ref (1300011 : Nat) (0 : Nat)) (1300011 : Nat) (Ob.box (24 : Nat) [V.nil, V.nil, V.i (0 : Int)]), pw ((0 : Nat) + (3 : Nat) ≤ (3 : Nat)) (1300011 : Nat) (Ob.box (24 : Nat) [V.own (1300088 : Nat), V.nil, V.i (256 : Int)]), pv (6 : Nat) (V.i (0 : Int))] (by kernel_rfl) (by kernel_rfl) ⟨(by omega), True.intro⟩ ?_
  refine aops_nil ?_
  refine xt_n ?_
  refine hK _ ?_
  clear hK K
  refine aw_seq_k fun K hK => ?_
  refine w_region (n' := 15) (by kernel_rfl) (by kernel_rfl) ?_
  refine aops_n hTT (M := []) (n := 8) [pv (91 : Nat) (V.i (0 : Int)), pv (92 : Nat) (V.i (0 : Int)), pv (93 : Nat) (V.b true), pv (94 : Nat) (V.b true), pc (95 : Nat) ((True ∧ True) ∧ ((true == true) = true → True)) (V.gd (true == true) (V.ref (1300011 : Nat) (0 : Nat))), pc (96 : Nat) ((((true == true) = true → (true == true) = true) ∧ True) ∧ ((true == true) = true → (0 : Nat) ≤ (3 : Nat))) (V.gd (true == true) (V.own (1300088 : Nat))), pc (97 : Nat) ((True ∧ True) ∧ ((true == true) = true → True)) (V.gd (true == true) (V.ref (400007 : Nat) (0 : Nat))), pc (98 : Nat) ((((true == true) = true → (true == true) = true) ∧ True) ∧ ((true == true) = true → (0 : Nat) ≤ (3 : Nat))) (V.gd (true == true) (V.sl (1 : Nat) (1 : Nat) fun (k : Nat) => [V.i (gi (Cv.feed (Cv.mk [(-192 : Int)] [] (256 : Int))) k)]))] (by kernel_rfl) (by kernel_rfl) ⟨⟨⟨True.intro, True.intro⟩, (fun _ => True.intro)⟩, ⟨⟨(by (exact fun h => h)), True.intro⟩, (by (intro _; simp; done))⟩, ⟨⟨True.intro, True.intro⟩, (fun _ => True.intro)⟩, ⟨⟨(by (exact fun h => h)), True.intro⟩, (by (intro _; simp; done))⟩, True.intro⟩ ?_
  refine aops_callRG 2 [1300088] (g := true == true) (first := []) (caps := []) (ins' := [Ob.row (2 : Nat) (1 : Nat) (1 : Nat) fun (i : Nat) => V.renL (callG (13 : Nat) (some (88 : Tmp))) [V.i (gi [(-192 : Int)] i)]]) (v' := V.b true) (kp := [1300088]) (by kernel_rfl) (fun h => sameK [-192] [-192] (by decide) (by decide)) rfl (by kernel_rfl) (by kernel_rfl) (by kernel_rfl) (by kernel_rfl) (by kernel_rfl) rfl (by kernel_rfl) (by kernel_rfl) ⟨(fun _ _ => rfl), True.intro⟩ (by kernel_rfl) (by kernel_rfl) (by kernel_rfl) ?_
  refine aops_n hTT (M := []) (n := 6) [pc (100 : Nat) ((true = true → (true == true) = true) ∧ True) (V.b true), pv (101 : Nat) (V.b true), pc (102 : Nat) ((True ∧ True) ∧ ((true == true) = true → True)) (V.gd (true == true) (V.ref (1300011 : Nat) (1 : Nat))), pc (103 : Nat) ((((true == true) = true → (true == true) = true) ∧ True) ∧ ((true == true) = true → (1 : Nat) ≤ (3 : Nat))) (V.gd (true == true) V.nil), pc (104 : Nat) ((True ∧ True) ∧ ((true == true) = true → True)) (V.gd (true == true) (V.ref (400007 : Nat) (1 : Nat))), pc (105 : Nat) ((((true == true) = true → (true == true) = true) ∧ True) ∧ ((true == true) = true → (1 : Nat) ≤ (3 : Nat))) (V.gd (true == true) (V.sl (1 : Nat) (0 : Nat) fun (k : Nat) => [V.i (gi (Cv.back (Cv.mk [(-192 : Int)] [] (256 : Int))) k)]))] (by kernel_rfl) (by kernel_rfl) ⟨⟨(by (exact fun h => h)), True.intro⟩, ⟨⟨True.intro, True.intro⟩, (fun _ => True.intro)⟩, ⟨⟨(by (exact fun h => h)), True.intro⟩, (by (intro _; simp; done))⟩, ⟨⟨True.intro, True.intro⟩, (fun _ => True.intro)⟩, ⟨⟨(by (exact fun h => h)), True.intro⟩, (by (intro _; simp; done))⟩, True.intro⟩ ?_
  refine e_callG 2 (g := true == true) (first := []) (caps := []) (by kernel_rfl) (fun h => sameN) (by kernel_rfl) (by kernel_rfl) (by kernel_rfl) (by kernel_rfl) (by kernel_rfl) (by kernel_rfl) ?_
  refine aops_n hTT (M := []) (n := 2) [pc (107 : Nat) ((true = true → (true == true) = true) ∧ True) (V.b true), pv (108 : Nat) (V.b true)] (by kernel_rfl) (by kernel_rfl) ⟨⟨(by (exact fun h => h)), True.intro⟩, True.intro⟩ ?_
  refine e_callG 0 (g := true == true) (first := []) (caps := []) (by kernel_rfl) (fun h => fWorks_ac) (by kernel_rfl) (by kernel_rfl) (by kernel_rfl) (by kernel_rfl) (by kernel_rfl) (by kernel_rfl) ?_
  refine aops_n hTT (M := []) (n := 2) [pc (110 : Nat) ((true = true → (true == true) = true) ∧ True) (V.b true), pv (4 : Nat) (V.b true)] (by kernel_rfl) (by kernel_rfl) ⟨⟨(by (exact fun h => h)), True.intro⟩, True.intro⟩ ?_
  refine aops_nil ?_
  refine xt_n ?_
  refine hK _ ?_
  clear hK K
  refine aw_ret ?_
  refine ret_pure (v' := V.b true) (.inr rfl) (by kernel_rfl) (by kernel_rfl) (by kernel_rfl)
set_option maxRecDepth 100000 in
theorem curvesS_law (c : Cv) (hc : cvL c) : AC Try.prog 10 [V.cv c, .c (.string nShel)] (.b true) [] := by
  refine ac_intro hTT hMX (fn := Try.f10) (N := _) ⟨Try.func10, rfl, Try.ntmps10, by kernel_rfl⟩ (by simp) fun C hC hF => ?_
  refine aw_seq_k fun K hK => ?_
  refine w_region (n' := 2) (by kernel_rfl) (by kernel_rfl) ?_
  refine aops_n hTT (M := []) (n := 2) [pv (2 : Nat) (V.ptr [V.sl (1 : Nat) (List.length (Cv.feed c)) fun (k : Nat) => [V.i (gi (Cv.feed c) k)], V.sl (1 : Nat) (List.length (Cv.back c)) fun (k : Nat) => [V.i (gi (Cv.back c) k)], V.i (Cv.share c)]), pv (4 : Nat) (V.b false)] (by kernel_rfl) (by kernel_rfl) True.intro ?_
  refine aops_nil ?_
  refine xt_n ?_
  refine hK _ ?_
  clear hK K
  refine aw_seq_k fun K hK => ?_
  refine aw_seq_k fun K hK => ?_
  refine w_region (n' := 3) (by kernel_rfl) (by kernel_rfl) ?_
  refine aops_n hTT (M := []) (n := 2) [pv (12 : Nat) (V.agg [V.sl (1 : Nat) (List.length (Cv.feed c)) fun (k : Nat) => [V.i (gi (Cv.feed c) k)], V.sl (1 : Nat) (List.length (Cv.back c)) fun (k : Nat) => [V.i (gi (Cv.back c) k)], V.i (Cv.share c)]), pv (13 : Nat) (V.sl (3 : Nat) (1 : Nat) fun (i : Nat) => List.take (3 : Nat) (List.drop (i * (3 : Nat)) [V.sl (1 : Nat) (List.length (Cv.feed c)) fun (k : Nat) => [V.i (gi (Cv.feed c) k)], V.sl (1 : Nat) (List.length (Cv.back c)) fun (k : Nat) => [V.i (gi (Cv.back c) k)], V.i (Cv.share c)]))] (by kernel_rfl) (by kernel_rfl) True.intro ?_
  refine e_call (first := []) (caps := []) (AC.conv (chains_ac [c] (by unfold bigL; simp)) (args' := [V.sl (3 : Nat) (1 : Nat) fun (i : Nat) => List.take (3 : Nat) (List.drop (i * (3 : Nat)) [V.sl (1 : Nat) (List.length (Cv.feed c)) fun (k : Nat) => [V.i (gi (Cv.feed c) k)], V.sl (1 : Nat) (List.length (Cv.back c)) fun (k : Nat) => [V.i (gi (Cv.back c) k)], V.i (Cv.share c)])]) ⟨?_, trivial⟩) (by kernel_rfl) (by kernel_rfl) (by kernel_rfl) (by kernel_rfl) (by kernel_rfl) ?_
  · refine RImp.rows rfl fun i hi => ?_
    obtain rfl : i = 0 := by omega
    rfl
  refine aops_n hTT (M := []) (n := 5) [pv (15 : Nat) (V.b (longC [c])), pc (16 : Nat) ((True ∧ True) ∧ ((longC [c] == false) = true → True)) (V.gd (longC [c] == false) (V.c (Value.string nShel))), pc (17 : Nat) ((((longC [c] == false) = true → (longC [c] == false) = true) ∧ True) ∧ ((longC [c] == false) = true → True)) (V.gd (longC [c] == false) (V.i (7 : Int))), pc (18 : Nat) ((((longC [c] == false) = true → (longC [c] == false) = true) ∧ True ∧ True) ∧ ((longC [c] == false) = true → True)) (V.gd (longC [c] == false) (V.b false)), pc (19 : Nat) (True ∧ (longC [c] = false → (longC [c] == false) = true)) (V.b (longC [c] && true))] (by kernel_rfl) (by kernel_rfl) ⟨⟨⟨True.intro, True.intro⟩, (fun _ => True.intro)⟩, ⟨⟨(by (exact fun h => h)), True.intro⟩, (fun _ => True.intro)⟩, ⟨⟨(by (exact fun h => h)), ⟨True.intro, True.intro⟩⟩, (fun _ => True.intro)⟩, ⟨True.intro, (by (intro h; rw [h]; rfl))⟩, True.intro⟩ ?_
  refine aops_nil ?_
  refine xt_n ?_
  refine hK _ ?_
  clear hK K
  refine w_cond (t := longC [c] && true) (by kernel_rfl) (fun c1 => ?_) (fun c1 => ?_)
  · refine aw_seq_k fun K hK => ?_
    refine w_region (n' := 4) (by kernel_rfl) (by kernel_rfl) ?_
    refine e_call (first := []) (caps := []) (fWorks_ac) (by kernel_rfl) (by kernel_rfl) (by kernel_rfl) (by kernel_rfl) (by kernel_rfl) ?_
    refine aops_n hTT (M := []) (n := 1) [pv (4 : Nat) (V.b true)] (by kernel_rfl) (by kernel_rfl) True.intro ?_
    refine aops_nil ?_
    refine xt_n ?_
    refine hK _ ?_
    clear hK K
    refine aw_ret ?_
    refine xt_r ?_
    refine ret_pure (v' := V.b true) (.inr rfl) (by kernel_rfl) (by kernel_rfl) (by kernel_rfl)
  refine aw_skip ?_
  refine xt_n ?_
  refine hK _ ?_
  clear hK K
  refine aw_seq_k fun K hK => ?_
  refine w_region (n' := 4) (by kernel_rfl) (by kernel_rfl) ?_
  refine aops_n hTT (M := []) (n := 1) [pv (22 : Nat) (V.c (Value.string nShel))] (by kernel_rfl) (by kernel_rfl) True.intro ?_
  refine aops_callN (first := []) (caps := []) (v' := V.tup [V.agg [V.own (300023 : Nat), V.own (301023 : Nat), V.i (256 : Int)], V.i (0 : Int)]) (δ := [(300023, Option.some (Ob.row (2 : Nat) (1 : Nat) (2 : Nat) fun (i : Nat) => V.renL (callG (3 : Nat) (some 23)) [V.i (gi [(32 : Int), (16 : Int)] i)])), (301023, Option.some (Ob.row (2 : Nat) (1 : Nat) (2 : Nat) fun (i : Nat) => V.renL (callG (3 : Nat) (some 23)) [V.i (gi [(96 : Int), (32 : Int)] i)]))]) (NamedS_ac) (by kernel_rfl) (by kernel_rfl) (by kernel_rfl) (by kernel_rfl) (by kernel_rfl) (by kernel_rfl) (by kernel_rfl) ?_
  refine aops_n hTT (M := []) (n := 6) [pv (21 : Nat) (V.tup [V.agg [V.own (300023 : Nat), V.own (301023 : Nat), V.i (256 : Int)], V.i (0 : Int)]), pv (24 : Nat) (V.agg [V.own (300023 : Nat), V.own (301023 : Nat), V.i (256 : Int)]), pv (25 : Nat) (V.i (0 : Int)), pn (5 : Nat) (V.ref (300005 : Nat) (0 : Nat)) (300005 : Nat) (Ob.box (24 : Nat) [V.nil, V.nil, V.i (0 : Int)]), pw ((0 : Nat) + (3 : Nat) ≤ (3 : Nat)) (300005 : Nat) (Ob.box (24 : Nat) [V.own (300023 : Nat), V.own (301023 : Nat), V.i (256 : Int)]), pv (6 : Nat) (V.i (0 : Int))] (by kernel_rfl) (by kernel_rfl) ⟨(by omega), True.intro⟩ ?_
  refine aops_nil ?_
  refine xt_n ?_
  refine hK _ ?_
  clear hK K
  refine aw_seq_k fun K hK => ?_
  refine w_region (n' := 5) (by kernel_rfl) (by kernel_rfl) ?_
  refine aops_n hTT (M := []) (n := 1) [pv (27 : Nat) (V.c (Value.string nShel))] (by kernel_rfl) (by kernel_rfl) True.intro ?_
  refine e_call (first := []) (caps := []) (rNamedS_ac) (by kernel_rfl) (by kernel_rfl) (by kernel_rfl) (by kernel_rfl) (by kernel_rfl) ?_
  refine aops_n hTT (M := []) (n := 6) [pv (26 : Nat) (V.tup [V.agg [V.sl (1 : Nat) (2 : Nat) fun (k : Nat) => [V.i (gi (Cv.feed (Cv.mk [(32 : Int), (16 : Int)] [(96 : Int), (32 : Int)] (256 : Int))) k)], V.sl (1 : Nat) (2 : Nat) fun (k : Nat) => [V.i (gi (Cv.back (Cv.mk [(32 : Int), (16 : Int)] [(96 : Int), (32 : Int)] (256 : Int))) k)], V.i (Cv.share (Cv.mk [(32 : Int), (16 : Int)] [(96 : Int), (32 : Int)] (256 : Int)))], V.i (0 : Int)]), pv (29 : Nat) (V.agg [V.sl (1 : Nat) (2 : Nat) fun (k : Nat) => [V.i (gi (Cv.feed (Cv.mk [(32 : Int), (16 : Int)] [(96 : Int), (32 : Int)] (256 : Int))) k)], V.sl (1 : Nat) (2 : Nat) fun (k : Nat) => [V.i (gi (Cv.back (Cv.mk [(32 : Int), (16 : Int)] [(96 : Int), (32 : Int)] (256 : Int))) k)], V.i (Cv.share (Cv.mk [(32 : Int), (16 : Int)] [(96 : Int), (32 : Int)] (256 : Int)))]), pv (30 : Nat) (V.i (0 : Int)), pn (7 : Nat) (V.ref (400007 : Nat) (0 : Nat)) (400007 : Nat) (Ob.box (24 : Nat) [V.nil, V.nil, V.i (0 : Int)]), pw ((0 : Nat) + (3 : Nat) ≤ (3 : Nat)) (400007 : Nat) (Ob.box (24 : Nat) [V.sl (1 : Nat) (2 : Nat) fun (k : Nat) => [V.i (gi (Cv.feed (Cv.mk [(32 : Int), (16 : Int)] [(96 : Int), (32 : Int)] (256 : Int))) k)], V.sl (1 : Nat) (2 : Nat) fun (k : Nat) => [V.i (gi (Cv.back (Cv.mk [(32 : Int), (16 : Int)] [(96 : Int), (32 : Int)] (256 : Int))) k)], V.i (Cv.share (Cv.mk [(32 : Int), (16 : Int)] [(96 : Int), (32 : Int)] (256 : Int)))]), pv (8 : Nat) (V.i (0 : Int))] (by kernel_rfl) (by kernel_rfl) ⟨(by omega), True.intro⟩ ?_
  refine aops_nil ?_
  refine xt_n ?_
  refine hK _ ?_
  clear hK K
  refine aw_seq_k fun K hK => ?_
  refine aw_seq_k fun K hK => ?_
  refine w_regionD (n' := 6) (by kernel_rfl) (by kernel_rfl) ?_
  refine aops_n hTT (M := []) (n := 1) [pv (31 : Nat) (V.agg [V.sl (1 : Nat) (List.length (Cv.feed c)) fun (k : Nat) => [V.i (gi (Cv.feed c) k)], V.sl (1 : Nat) (List.length (Cv.back c)) fun (k : Nat) => [V.i (gi (Cv.back c) k)], V.i (Cv.share c)])] (by kernel_rfl) (by kernel_rfl) True.intro ?_
  refine e_call (first := []) (caps := []) (CheckCurve_ac c hc) (by kernel_rfl) (by kernel_rfl) (by kernel_rfl) (by kernel_rfl) (by kernel_rfl) ?_
  refine aops_n hTT (M := []) (n := 1) [pv (33 : Nat) (V.agg [V.sl (1 : Nat) (List.length (Cv.feed c)) fun (k : Nat) => [V.i (gi (Cv.feed c) k)], V.sl (1 : Nat) (List.length (Cv.back c)) fun (k : Nat) => [V.i (gi (Cv.back c) k)], V.i (Cv.share c)])] (by kernel_rfl) (by kernel_rfl) True.intro ?_
  refine e_call (first := []) (caps := []) (refCheckCurve_ac c hc) (by kernel_rfl) (by kernel_rfl) (by kernel_rfl) (by kernel_rfl) (by kernel_rfl) ?_
  refine aops_n hTT (M := []) (n := 11) [pv (35 : Nat) (V.b !decide (cvE c = cvE c)), pv (36 : Nat) (V.b !decide (cvE c = cvE c)), pc (37 : Nat) ((True ∧ True) ∧ (((!decide (cvE c = cvE c)) == false) = true → True)) (V.gd ((!decide (cvE c = cvE c)) == false) (V.i (0 : Int))), pc (38 : Nat) ((True ∧ True) ∧ (((!decide (cvE c = cvE c)) == false) = true → True)) (V.gd ((!decide (cvE c = cvE c)) == false) (V.i (0 : Int))), pc (39 : Nat) (((((!decide (cvE c = cvE c)) == false) = true → ((!decide (cvE c = cvE c)) == false) = true) ∧ (((!decide (cvE c = cvE c)) == false) = true → ((!decide (cvE c = cvE c)) == false) = true) ∧ True) ∧ (((!decide (cvE c = cvE c)) == false) = true → True)) (V.gd ((!decide (cvE c = cvE c)) == false) (V.b false)), pc (40 : Nat) (True ∧ ((!decide (cvE c = cvE c)) = false → ((!decide (cvE c = cvE c)) == false) = true)) (V.b (!decide (cvE c = cvE c) && true)), pv (41 : Nat) (V.b (!decide (cvE c = cvE c) && true)), pc (42 : Nat) ((True ∧ True) ∧ (((!decide (cvE c = cvE c) && true) == false) = true → True)) (V.gd ((!decide (cvE c = cvE c) && true) == false) (V.ref (300005 : Nat) (0 : Nat))), pc (43 : Nat) (((((!decide (cvE c = cvE c) && true) == false) = true → ((!decide (cvE c = cvE c) && true) == false) = true) ∧ True) ∧ (((!decide (cvE c = cvE c) && true) == false) = true → (0 : Nat) ≤ (3 : Nat))) (V.gd ((!decide (cvE c = cvE c) && true) == false) (V.own (300023 : Nat))), pc (44 : Nat) ((True ∧ True) ∧ (((!decide (cvE c = cvE c) && true) == false) = true → True)) (V.gd ((!decide (cvE c = cvE c) && true) == false) (V.ref (400007 : Nat) (0 : Nat))), pc (45 : Nat) (((((!decide (cvE c = cvE c) && true) == false) = true → ((!decide (cvE c = cvE c) && true) == false) = true) ∧ True) ∧ (((!decide (cvE c = cvE c) && true) == false) = true → (0 : Nat) ≤ (3 : Nat))) (V.gd ((!decide (cvE c = cvE c) && true) == false) (V.sl (1 : Nat) (2 : Nat) fun (k : Nat) => [V.i (gi (Cv.feed (Cv.mk [(32 : Int), (16 : Int)] [(96 : Int), (32 : Int)] (256 : Int))) k)]))] (by kernel_rfl) (by kernel_rfl) ⟨⟨⟨True.intro, True.intro⟩, (fun _ => True.intro)⟩, ⟨⟨True.intro, True.intro⟩, (fun _ => True.intro)⟩, ⟨⟨(by (exact fun h => h)), ⟨(by (exact fun h => h)), True.intro⟩⟩, (fun _ => True.intro)⟩, ⟨True.intro, (by (intro h; rw [h]; rfl))⟩, ⟨⟨True.intro, True.intro⟩, (fun _ => True.intro)⟩, ⟨⟨(by (exact fun h => h)), True.intro⟩, (by (simp only [inR]; omega))⟩, ⟨⟨True.intro, True.intro⟩, (fun _ => True.intro)⟩, ⟨⟨(by (exact fun h => h)), True.intro⟩, (by (simp only [inR]; omega))⟩, True.intro⟩ ?_
  refine aops_callRG 2 [300023] (g := (!decide (cvE c = cvE c) && true) == false) (first := []) (caps := []) (ins' := [Ob.row (2 : Nat) (1 : Nat) (2 : Nat) fun (i : Nat) => V.renL (callG (3 : Nat) (some (23 : Tmp))) [V.i (gi [(32 : Int), (16 : Int)] i)]]) (v' := V.b true) (kp := [300023]) (by kernel_rfl) (fun h => sameK [32, 16] [32, 16] (by decide) (by decide)) rfl (by kernel_rfl) (by kernel_rfl) (by kernel_rfl) (by kernel_rfl) (by kernel_rfl) rfl (by kernel_rfl) (by kernel_rfl) ⟨(fun _ _ => rfl), True.intro⟩ (by kernel_rfl) (by kernel_rfl) (by kernel_rfl) ?_
  refine aops_n hTT (M := []) (n := 7) [pc (47 : Nat) (((((!decide (cvE c = cvE c) && true) == false) = true → ((!decide (cvE c = cvE c) && true) == false) = true) ∧ True) ∧ (((!decide (cvE c = cvE c) && true) == false) = true → True)) (V.gd ((!decide (cvE c = cvE c) && true) == false) (V.b false)), pc (48 : Nat) (True ∧ ((!decide (cvE c = cvE c) && true) = false → ((!decide (cvE c = cvE c) && true) == false) = true)) (V.b (!decide (cvE c = cvE c) && true && true)), pv (49 : Nat) (V.b (!decide (cvE c = cvE c) && true && true)), pc (50 : Nat) ((True ∧ True) ∧ (((!decide (cvE c = cvE c) && true && true) == false) = true → True)) (V.gd ((!decide (cvE c = cvE c) && true && true) == false) (V.ref (300005 : Nat) (1 : Nat))), pc (51 : Nat) (((((!decide (cvE c = cvE c) && true && true) == false) = true → ((!decide (cvE c = cvE c) && true && true) == false) = true) ∧ True) ∧ (((!decide (cvE c = cvE c) && true && true) == false) = true → (1 : Nat) ≤ (3 : Nat))) (V.gd ((!decide (cvE c = cvE c) && true && true) == false) (V.own (301023 : Nat))), pc (52 : Nat) ((True ∧ True) ∧ (((!decide (cvE c = cvE c) && true && true) == false) = true → True)) (V.gd ((!decide (cvE c = cvE c) && true && true) == false) (V.ref (400007 : Nat) (1 : Nat))), pc (53 : Nat) (((((!decide (cvE c = cvE c) && true && true) == false) = true → ((!decide (cvE c = cvE c) && true && true) == false) = true) ∧ True) ∧ (((!decide (cvE c = cvE c) && true && true) == false) = true → (1 : Nat) ≤ (3 : Nat))) (V.gd ((!decide (cvE c = cvE c) && true && true) == false) (V.sl (1 : Nat) (2 : Nat) fun (k : Nat) => [V.i (gi (Cv.back (Cv.mk [(32 : Int), (16 : Int)] [(96 : Int), (32 : Int)] (256 : Int))) k)]))] (by kernel_rfl) (by kernel_rfl) ⟨⟨⟨(by (exact fun h => h)), True.intro⟩, (fun _ => True.intro)⟩, ⟨True.intro, (by (intro h; rw [h]; rfl))⟩, ⟨⟨True.intro, True.intro⟩, (fun _ => True.intro)⟩, ⟨⟨(by (exact fun h => h)), True.intro⟩, (by (simp only [inR]; omega))⟩, ⟨⟨True.intro, True.intro⟩, (fun _ => True.intro)⟩, ⟨⟨(by (exact fun h => h)), True.intro⟩, (by (simp only [inR]; omega))⟩, True.intro⟩ ?_
  refine aops_callRG 2 [301023] (g := (!decide (cvE c = cvE c) && true && true) == false) (first := []) (caps := []) (ins' := [Ob.row (2 : Nat) (1 : Nat) (2 : Nat) fun (i : Nat) => V.renL (callG (3 : Nat) (some (23 : Tmp))) [V.i (gi [(96 : Int), (32 : Int)] i)]]) (v' := V.b true) (kp := [301023]) (by kernel_rfl) (fun h => sameK [96, 32] [96, 32] (by decide) (by decide)) rfl (by kernel_rfl) (by kernel_rfl) (by kernel_rfl) (by kernel_rfl) (by kernel_rfl) rfl (by kernel_rfl) (by kernel_rfl) ⟨(fun _ _ => rfl), True.intro⟩ (by kernel_rfl) (by kernel_rfl) (by kernel_rfl) ?_
  refine aops_n hTT (M := []) (n := 9) [pc (55 : Nat) (((((!decide (cvE c = cvE c) && true && true) == false) = true → ((!decide (cvE c = cvE c) && true && true) == false) = true) ∧ True) ∧ (((!decide (cvE c = cvE c) && true && true) == false) = true → True)) (V.gd ((!decide (cvE c = cvE c) && true && true) == false) (V.b false)), pc (56 : Nat) (True ∧ ((!decide (cvE c = cvE c) && true && true) = false → ((!decide (cvE c = cvE c) && true && true) == false) = true)) (V.b (!decide (cvE c = cvE c) && true && true && true)), pv (57 : Nat) (V.b (!decide (cvE c = cvE c) && true && true && true)), pc (58 : Nat) ((True ∧ True) ∧ (((!decide (cvE c = cvE c) && true && true && true) == false) = true → True)) (V.gd ((!decide (cvE c = cvE c) && true && true && true) == false) (V.ref (300005 : Nat) (2 : Nat))), pc (59 : Nat) (((((!decide (cvE c = cvE c) && true && true && true) == false) = true → ((!decide (cvE c = cvE c) && true && true && true) == false) = true) ∧ True) ∧ (((!decide (cvE c = cvE c) && true && true && true) == false) = true → (2 : Nat) ≤ (3 : Nat))) (V.gd ((!decide (cvE c = cvE c) && true && true && true) == false) (V.i (256 : Int))), pc (60 : Nat) ((True ∧ True) ∧ (((!decide (cvE c = cvE c) && true && true && true) == false) = true → True)) (V.gd ((!decide (cvE c = cvE c) && true && true && true) == false) (V.ref (400007 : Nat) (2 : Nat))), pc (61 : Nat) (((((!decide (cvE c = cvE c) && true && true && true) == false) = true → ((!decide (cvE c = cvE c) && true && true && true) == false) = true) ∧ True) ∧ (((!decide (cvE c = cvE c) && true && true && true) == false) = true → (2 : Nat) ≤ (3 : Nat))) (V.gd ((!decide (cvE c = cvE c) && true && true && true) == false) (V.i (Cv.share (Cv.mk [(32 : Int), (16 : Int)] [(96 : Int), (32 : Int)] (256 : Int))))), pc (62 : Nat) (((((!decide (cvE c = cvE c) && true && true && true) == false) = true → ((!decide (cvE c = cvE c) && true && true && true) == false) = true) ∧ (((!decide (cvE c = cvE c) && true && true && true) == false) = true → ((!decide (cvE c = cvE c) && true && true && true) == false) = true) ∧ True) ∧ (((!decide (cvE c = cvE c) && true && true && true) == false) = true → True)) (V.gd ((!decide (cvE c = cvE c) && true && true && true) == false) (V.b false)), pc (63 : Nat) (True ∧ ((!decide (cvE c = cvE c) && true && true && true) = false → ((!decide (cvE c = cvE c) && true && true && true) == false) = true)) (V.b (!decide (cvE c = cvE c) && true && true && true && true))] (by kernel_rfl) (by kernel_rfl) ⟨⟨⟨(by (exact fun h => h)), True.intro⟩, (fun _ => True.intro)⟩, ⟨True.intro, (by (intro h; rw [h]; rfl))⟩, ⟨⟨True.intro, True.intro⟩, (fun _ => True.intro)⟩, ⟨⟨(by (exact fun h => h)), True.intro⟩, (by (simp only [inR]; omega))⟩, ⟨⟨True.intro, True.intro⟩, (fun _ => True.intro)⟩, ⟨⟨(by (exact fun h => h)), True.intro⟩, (by (simp only [inR]; omega))⟩, ⟨⟨(by (exact fun h => h)), ⟨(by (exact fun h => h)), True.intro⟩⟩, (fun _ => True.intro)⟩, ⟨True.intro, (by (intro h; rw [h]; rfl))⟩, True.intro⟩ ?_
  refine aops_nil ⟨by kernel_rfl, ?_⟩
  refine xt_n ?_
  refine hK _ ?_
  clear hK K
  refine w_cond (t := !decide (cvE c = cvE c) && true && true && true && true) (by kernel_rfl) (fun c2 => ?_) (fun c2 => ?_)
  · exfalso; simp at c2
  refine aw_skip ?_
  refine xt_n ?_
  refine hK _ ?_
  clear hK K
  refine aw_seq_k fun K hK => ?_
  refine aw_seq_k fun K hK => ?_
  refine w_region (n' := 7) (by kernel_rfl) (by kernel_rfl) ?_
  refine aops_n hTT (M := []) (n := 1) [pv (9 : Nat) (V.i (0 : Int))] (by kernel_rfl) (by kernel_rfl) True.intro ?_
  refine aops_nil ?_
  refine xt_n ?_
  refine hK _ ?_
  clear hK K
  refine aw_block ?_
  refine aw_rounds 4 ?_
  refine awr_succ (m := 3) fun K hK => ?_
  refine aw_seq_k fun K hK => ?_
  refine aw_seq_k fun K hK => ?_
  refine w_region (n' := 8) (by kernel_rfl) (by kernel_rfl) ?_
  refine aops_n hTT (M := []) (n := 5) [pv (64 : Nat) (V.i (0 : Int)), pv (65 : Nat) (V.ref (300005 : Nat) (0 : Nat)), pc (66 : Nat) ((0 : Nat) ≤ (3 : Nat)) (V.own (300023 : Nat)), pv (67 : Nat) (V.i (2 : Int)), pv (68 : Nat) (V.b true)] (by kernel_rfl) (by kernel_rfl) ⟨(by omega), True.intro⟩ ?_
  refine aops_nil ?_
  refine xt_n ?_
  refine hK _ ?_
  clear hK K
  refine w_true (t := true) (by kernel_rfl) rfl ?_
  refine aw_skip ?_
  refine xt_n ?_
  refine hK _ ?_
  clear hK K
  refine aw_seq_k fun K hK => ?_
  refine aw_block ?_
  refine w_region (n' := 9) (by kernel_rfl) (by kernel_rfl) ?_
  refine aops_n hTT (M := []) (n := 5) [pv (71 : Nat) (V.ref (300005 : Nat) (0 : Nat)), pc (72 : Nat) ((0 : Nat) ≤ (3 : Nat)) (V.own (300023 : Nat)), pv (73 : Nat) (V.i (0 : Int)), pc (74 : Nat) ((0 : Int) ≤ (0 : Int) ∧ (0 : Int) < (↑(2 : Nat) : Int)) (V.oel (300023 : Nat) (1 : Nat) (0 : Nat) (0 : Nat)), pw ((0 : Nat) < (2 : Nat) ∧ (0 : Nat) + (1 : Nat) ≤ (1 : Nat)) (300023 : Nat) (Ob.row (2 : Nat) (1 : Nat) (2 : Nat) fun (j : Nat) => if j = (0 : Nat) then [V.i (5 : Int)] else V.renL (callG (3 : Nat) (some (23 : Tmp))) [V.i (gi [(32 : Int), (16 : Int)] j)])] (by kernel_rfl) (by kernel_rfl) ⟨(by omega), (by omega), (by omega), True.intro⟩ ?_
  refine aops_nil ?_
  refine xb_n ?_
  refine xt_n ?_
  refine hK _ ?_
  clear hK K
  refine w_region (n' := 10) (by kernel_rfl) (by kernel_rfl) ?_
  refine aops_n hTT (M := []) (n := 3) [pv (69 : Nat) (V.i (0 : Int)), pc (70 : Nat) ((-9223372036854775808 : Int) ≤ (0 : Int) + (1 : Int) ∧ (0 : Int) + (1 : Int) ≤ (9223372036854775807 : Int)) (V.i (1 : Int)), pv (9 : Nat) (V.i (1 : Int))] (by kernel_rfl) (by kernel_rfl) ⟨(by omega), True.intro⟩ ?_
  refine aops_nil ?_
  refine xt_n ?_
  refine hK _ ?_
  clear hK K
  refine awr_succ (m := 2) fun K hK => ?_
  refine aw_seq_k fun K hK => ?_
  refine aw_seq_k fun K hK => ?_
  refine w_region (n' := 11) (by kernel_rfl) (by kernel_rfl) ?_
  refine aops_n hTT (M := []) (n := 5) [pv (64 : Nat) (V.i (1 : Int)), pv (65 : Nat) (V.ref (300005 : Nat) (0 : Nat)), pc (66 : Nat) ((0 : Nat) ≤ (3 : Nat)) (V.own (300023 : Nat)), pv (67 : Nat) (V.i (2 : Int)), pv (68 : Nat) (V.b true)] (by kernel_rfl) (by kernel_rfl) ⟨(by omega), True.intro⟩ ?_
  refine aops_nil ?_
  refine xt_n ?_
  refine hK _ ?_
  clear hK K
  refine w_true (t := true) (by kernel_rfl) rfl ?_
  refine aw_skip ?_
  refine xt_n ?_
  refine hK _ ?_
  clear hK K
  refine aw_seq_k fun K hK => ?_
  refine aw_block ?_
  refine w_region (n' := 12) (by kernel_rfl) (by kernel_rfl) ?_
  refine aops_n hTT (M := []) (n := 5) [pv (71 : Nat) (V.ref (300005 : Nat) (0 : Nat)), pc (72 : Nat) ((0 : Nat) ≤ (3 : Nat)) (V.own (300023 : Nat)), pv (73 : Nat) (V.i (1 : Int)), pc (74 : Nat) ((0 : Int) ≤ (1 : Int) ∧ (1 : Int) < (↑(2 : Nat) : Int)) (V.oel (300023 : Nat) (1 : Nat) (1 : Nat) (0 : Nat)), pw ((1 : Nat) < (2 : Nat) ∧ (0 : Nat) + (1 : Nat) ≤ (1 : Nat)) (300023 : Nat) (Ob.row (2 : Nat) (1 : Nat) (2 : Nat) fun (j : Nat) => if j = (1 : Nat) then [V.i (5 : Int)] else if j = (0 : Nat) then [V.i (5 : Int)] else V.renL (callG (3 : Nat) (some (23 : Tmp))) [V.i (gi [(32 : Int), (16 : Int)] j)])] (by kernel_rfl) (by kernel_rfl) ⟨(by omega), (by omega), (by omega), True.intro⟩ ?_
  refine aops_nil ?_
  refine xb_n ?_
  refine xt_n ?_
  refine hK _ ?_
  clear hK K
  refine w_region (n' := 13) (by kernel_rfl) (by kernel_rfl) ?_
  refine aops_n hTT (M := []) (n := 3) [pv (69 : Nat) (V.i (1 : Int)), pc (70 : Nat) ((-9223372036854775808 : Int) ≤ (1 : Int) + (1 : Int) ∧ (1 : Int) + (1 : Int) ≤ (9223372036854775807 : Int)) (V.i (2 : Int)), pv (9 : Nat) (V.i (2 : Int))] (by kernel_rfl) (by kernel_rfl) ⟨(by omega), True.intro⟩ ?_
  refine aops_nil ?_
  refine xt_n ?_
  refine hK _ ?_
  clear hK K
  refine awr_succ (m := 1) fun K hK => ?_
  refine aw_seq_k fun K hK => ?_
  refine aw_seq_k fun K hK => ?_
  refine w_region (n' := 14) (by kernel_rfl) (by kernel_rfl) ?_
  refine aops_n hTT (M := []) (n := 5) [pv (64 : Nat) (V.i (2 : Int)), pv (65 : Nat) (V.ref (300005 : Nat) (0 : Nat)), pc (66 : Nat) ((0 : Nat) ≤ (3 : Nat)) (V.own (300023 : Nat)), pv (67 : Nat) (V.i (2 : Int)), pv (68 : Nat) (V.b false)] (by kernel_rfl) (by kernel_rfl) ⟨(by omega), True.intro⟩ ?_
  refine aops_nil ?_
  refine xt_n ?_
  refine hK _ ?_
  clear hK K
  refine w_false (t := false) (by kernel_rfl) rfl ?_
  refine aw_exit ?_
  refine xt_x ?_
  refine xt_x ?_
  refine xb_same ?_
  refine xt_n ?_
  clear hK K
  clear hK K
  refine hK _ ?_
  clear hK K
  refine aw_seq_k fun K hK => ?_
  refine aw_seq_k fun K hK => ?_
  refine w_region (n' := 15) (by kernel_rfl) (by kernel_rfl) ?_
  refine aops_n hTT (M := []) (n := 1) [pv (10 : Nat) (V.i (0 : Int))] (by kernel_rfl) (by kernel_rfl) True.intro ?_
  refine aops_nil ?_
  refine xt_n ?_
  refine hK _ ?_
  clear hK K
  refine aw_block ?_
  refine aw_rounds 4 ?_
  refine awr_succ (m := 3) fun K hK => ?_
  refine aw_seq_k fun K hK => ?_
  refine aw_seq_k fun K hK => ?_
  refine w_region (n' := 16) (by kernel_rfl) (by kernel_rfl) ?_
  refine aops_n hTT (M := []) (n := 5) [pv (75 : Nat) (V.i (0 : Int)), pv (76 : Nat) (V.ref (300005 : Nat) (1 : Nat)), pc (77 : Nat) ((1 : Nat) ≤ (3 : Nat)) (V.own (301023 : Nat)), pv (78 : Nat) (V.i (2 : Int)), pv (79 : Nat) (V.b true)] (by kernel_rfl) (by kernel_rfl) ⟨(by omega), True.intro⟩ ?_
  refine aops_nil ?_
  refine xt_n ?_
  refine hK _ ?_
  clear hK K
  refine w_true (t := true) (by kernel_rfl) rfl ?_
  refine aw_skip ?_
  refine xt_n ?_
  refine hK _ ?_
  clear hK K
  refine aw_seq_k fun K hK => ?_
  refine aw_block ?_
  refine w_region (n' := 17) (by kernel_rfl) (by kernel_rfl) ?_
  refine aops_n hTT (M := []) (n := 5) [pv (82 : Nat) (V.ref (300005 : Nat) (1 : Nat)), pc (83 : Nat) ((1 : Nat) ≤ (3 : Nat)) (V.own (301023 : Nat)), pv (84 : Nat) (V.i (0 : Int)), pc (85 : Nat) ((0 : Int) ≤ (0 : Int) ∧ (0 : Int) < (↑(2 : Nat) : Int)) (V.oel (301023 : Nat) (1 : Nat) (0 : Nat) (0 : Nat)), pw ((0 : Nat) < (2 : Nat) ∧ (0 : Nat) + (1 : Nat) ≤ (1 : Nat)) (301023 : Nat) (Ob.row (2 : Nat) (1 : Nat) (2 : Nat) fun (j : Nat) => if j = (0 : Nat) then [V.i (6 : Int)] else V.renL (callG (3 : Nat) (some (23 : Tmp))) [V.i (gi [(96 : Int), (32 : Int)] j)])] (by kernel_rfl) (by kernel_rfl) ⟨(by omega), (by omega), (by omega), True.intro⟩ ?_
  refine aops_nil ?_
  refine xb_n ?_
  refine xt_n ?_
  refine hK _ ?_
  clear hK K
  refine w_region (n' := 18) (by kernel_rfl) (by kernel_rfl) ?_
  refine aops_n hTT (M := []) (n := 3) [pv (80 : Nat) (V.i (0 : Int)), pc (81 : Nat) ((-9223372036854775808 : Int) ≤ (0 : Int) + (1 : Int) ∧ (0 : Int) + (1 : Int) ≤ (9223372036854775807 : Int)) (V.i (1 : Int)), pv (10 : Nat) (V.i (1 : Int))] (by kernel_rfl) (by kernel_rfl) ⟨(by omega), True.intro⟩ ?_
  refine aops_nil ?_
  refine xt_n ?_
  refine hK _ ?_
  clear hK K
  refine awr_succ (m := 2) fun K hK => ?_
  refine aw_seq_k fun K hK => ?_
  refine aw_seq_k fun K hK => ?_
  refine w_region (n' := 19) (by kernel_rfl) (by kernel_rfl) ?_
  refine aops_n hTT (M := []) (n := 5) [pv (75 : Nat) (V.i (1 : Int)), pv (76 : Nat) (V.ref (300005 : Nat) (1 : Nat)), pc (77 : Nat) ((1 : Nat) ≤ (3 : Nat)) (V.own (301023 : Nat)), pv (78 : Nat) (V.i (2 : Int)), pv (79 : Nat) (V.b true)] (by kernel_rfl) (by kernel_rfl) ⟨(by omega), True.intro⟩ ?_
  refine aops_nil ?_
  refine xt_n ?_
  refine hK _ ?_
  clear hK K
  refine w_true (t := true) (by kernel_rfl) rfl ?_
  refine aw_skip ?_
  refine xt_n ?_
  refine hK _ ?_
  clear hK K
  refine aw_seq_k fun K hK => ?_
  refine aw_block ?_
  refine w_region (n' := 20) (by kernel_rfl) (by kernel_rfl) ?_
  refine aops_n hTT (M := []) (n := 5) [pv (82 : Nat) (V.ref (300005 : Nat) (1 : Nat)), pc (83 : Nat) ((1 : Nat) ≤ (3 : Nat)) (V.own (301023 : Nat)), pv (84 : Nat) (V.i (1 : Int)), pc (85 : Nat) ((0 : Int) ≤ (1 : Int) ∧ (1 : Int) < (↑(2 : Nat) : Int)) (V.oel (301023 : Nat) (1 : Nat) (1 : Nat) (0 : Nat)), pw ((1 : Nat) < (2 : Nat) ∧ (0 : Nat) + (1 : Nat) ≤ (1 : Nat)) (301023 : Nat) (Ob.row (2 : Nat) (1 : Nat) (2 : Nat) fun (j : Nat) => if j = (1 : Nat) then [V.i (6 : Int)] else if j = (0 : Nat) then [V.i (6 : Int)] else V.renL (callG (3 : Nat) (some (23 : Tmp))) [V.i (gi [(96 : Int), (32 : Int)] j)])] (by kernel_rfl) (by kernel_rfl) ⟨(by omega), (by omega), (by omega), True.intro⟩ ?_
  refine aops_nil ?_
  refine xb_n ?_
  refine xt_n ?_
  refine hK _ ?_
  clear hK K
  refine w_region (n' := 21) (by kernel_rfl) (by kernel_rfl) ?_
  refine aops_n hTT (M := []) (n := 3) [pv (80 : Nat) (V.i (1 : Int)), pc (81 : Nat) ((-9223372036854775808 : Int) ≤ (1 : Int) + (1 : Int) ∧ (1 : Int) + (1 : Int) ≤ (9223372036854775807 : Int)) (V.i (2 : Int)), pv (10 : Nat) (V.i (2 : Int))] (by kernel_rfl) (by kernel_rfl) ⟨(by omega), True.intro⟩ ?_
  refine aops_nil ?_
  refine xt_n ?_
  refine hK _ ?_
  clear hK K
  refine awr_succ (m := 1) fun K hK => ?_
  refine aw_seq_k fun K hK => ?_
  refine aw_seq_k fun K hK => ?_
  refine w_region (n' := 22) (by kernel_rfl) (by kernel_rfl) ?_
  refine aops_n hTT (M := []) (n := 5) [pv (75 : Nat) (V.i (2 : Int)), pv (76 : Nat) (V.ref (300005 : Nat) (1 : Nat)), pc (77 : Nat) ((1 : Nat) ≤ (3 : Nat)) (V.own (301023 : Nat)), pv (78 : Nat) (V.i (2 : Int)), pv (79 : Nat) (V.b false)] (by kernel_rfl) (by kernel_rfl) ⟨(by omega), True.intro⟩ ?_
  refine aops_nil ?_
  refine xt_n ?_
  refine hK _ ?_
  clear hK K
  refine w_false (t := false) (by kernel_rfl) rfl ?_
  refine aw_exit ?_
  refine xt_x ?_
  refine xt_x ?_
  refine xb_same ?_
  refine xt_n ?_
  clear hK K
  clear hK K
  refine hK _ ?_
  clear hK K
  refine aw_seq_k fun K hK => ?_
  refine w_region (n' := 23) (by kernel_rfl) (by kernel_rfl) ?_
  refine aops_n hTT (M := []) (n := 1) [pv (87 : Nat) (V.c (Value.string nShel))] (by kernel_rfl) (by kernel_rfl) True.intro ?_
  refine aops_callN (first := []) (caps := []) (v' := V.tup [V.agg [V.own (2200088 : Nat), V.own (2201088 : Nat), V.i (256 : Int)], V.i (0 : Int)]) (δ := [(2200088, Option.some (Ob.row (2 : Nat) (1 : Nat) (2 : Nat) fun (i : Nat) => V.renL (callG (22 : Nat) (some 88)) [V.i (gi [(32 : Int), (16 : Int)] i)])), (2201088, Option.some (Ob.row (2 : Nat) (1 : Nat) (2 : Nat) fun (i : Nat) => V.renL (callG (22 : Nat) (some 88)) [V.i (gi [(96 : Int), (32 : Int)] i)]))]) (NamedS_ac) (by kernel_rfl) (by kernel_rfl) (by kernel_rfl) (by kernel_rfl) (by kernel_rfl) (by kernel_rfl) (by kernel_rfl) ?_
  refine aops_n hTT (M := []) (n := 6) [pv (86 : Nat) (V.tup [V.agg [V.own (2200088 : Nat), V.own (2201088 : Nat), V.i (256 : Int)], V.i (0 : Int)]), pv (89 : Nat) (V.agg [V.own (2200088 : Nat), V.own (2201088 : Nat), V.i (256 : Int)]), pv (90 : Nat) (V.i (0 : Int)), pn (11 : Nat) (V.ref (2200011 : Nat) (0 : Nat)) (2200011 : Nat) (Ob.box (24 : Nat) [V.nil, V.nil, V.i (0 : Int)]), pw ((0 : Nat) + (3 : Nat) ≤ (3 : Nat)) (2200011 : Nat) (Ob.box (24 : Nat) [V.own (2200088 : Nat), V.own (2201088 : Nat), V.i (256 : Int)]), pv (6 : Nat) (V.i (0 : Int))] (by kernel_rfl) (by kernel_rfl) ⟨(by omega), True.intro⟩ ?_
  refine aops_nil ?_
  refine xt_n ?_
  refine hK _ ?_
  clear hK K
  refine aw_seq_k fun K hK => ?_
  refine w_region (n' := 24) (by kernel_rfl) (by kernel_rfl) ?_
  refine aops_n hTT (M := []) (n := 8) [pv (91 : Nat) (V.i (0 : Int)), pv (92 : Nat) (V.i (0 : Int)), pv (93 : Nat) (V.b true), pv (94 : Nat) (V.b true), pc (95 : Nat) ((True ∧ True) ∧ ((true == true) = true → True)) (V.gd (true == true) (V.ref (2200011 : Nat) (0 : Nat))), pc (96 : Nat) ((((true == true) = true → (true == true) = true) ∧ True) ∧ ((true == true) = true → (0 : Nat) ≤ (3 : Nat))) (V.gd (true == true) (V.own (2200088 : Nat))), pc (97 : Nat) ((True ∧ True) ∧ ((true == true) = true → True)) (V.gd (true == true) (V.ref (400007 : Nat) (0 : Nat))), pc (98 : Nat) ((((true == true) = true → (true == true) = true) ∧ True) ∧ ((true == true) = true → (0 : Nat) ≤ (3 : Nat))) (V.gd (true == true) (V.sl (1 : Nat) (2 : Nat) fun (k : Nat) => [V.i (gi (Cv.feed (Cv.mk [(32 : Int), (16 : Int)] [(96 : Int), (32 : Int)] (256 : Int))) k)]))] (by kernel_rfl) (by kernel_rfl) ⟨⟨⟨True.intro, True.intro⟩, (fun _ => True.intro)⟩, ⟨⟨(by (exact fun h => h)), True.intro⟩, (by (intro _; simp; done))⟩, ⟨⟨True.intro, True.intro⟩, (fun _ => True.intro)⟩, ⟨⟨(by (exact fun h => h)), True.intro⟩, (by (intro _; simp; done))⟩, True.intro⟩ ?_
  refine aops_callRG 2 [2200088] (g := true == true) (first := []) (caps := []) (ins' := [Ob.row (2 : Nat) (1 : Nat) (2 : Nat) fun (i : Nat) => V.renL (callG (22 : Nat) (some (88 : Tmp))) [V.i (gi [(32 : Int), (16 : Int)] i)]]) (v' := V.b true) (kp := [2200088]) (by kernel_rfl) (fun h => sameK [32, 16] [32, 16] (by decide) (by decide)) rfl (by kernel_rfl) (by kernel_rfl) (by kernel_rfl) (by kernel_rfl) (by kernel_rfl) rfl (by kernel_rfl) (by kernel_rfl) ⟨(fun _ _ => rfl), True.intro⟩ (by kernel_rfl) (by kernel_rfl) (by kernel_rfl) ?_
  refine aops_n hTT (M := []) (n := 6) [pc (100 : Nat) ((true = true → (true == true) = true) ∧ True) (V.b true), pv (101 : Nat) (V.b true), pc (102 : Nat) ((True ∧ True) ∧ ((true == true) = true → True)) (V.gd (true == true) (V.ref (2200011 : Nat) (1 : Nat))), pc (103 : Nat) ((((true == true) = true → (true == true) = true) ∧ True) ∧ ((true == true) = true → (1 : Nat) ≤ (3 : Nat))) (V.gd (true == true) (V.own (2201088 : Nat))), pc (104 : Nat) ((True ∧ True) ∧ ((true == true) = true → True)) (V.gd (true == true) (V.ref (400007 : Nat) (1 : Nat))), pc (105 : Nat) ((((true == true) = true → (true == true) = true) ∧ True) ∧ ((true == true) = true → (1 : Nat) ≤ (3 : Nat))) (V.gd (true == true) (V.sl (1 : Nat) (2 : Nat) fun (k : Nat) => [V.i (gi (Cv.back (Cv.mk [(32 : Int), (16 : Int)] [(96 : Int), (32 : Int)] (256 : Int))) k)]))] (by kernel_rfl) (by kernel_rfl) ⟨⟨(by (exact fun h => h)), True.intro⟩, ⟨⟨True.intro, True.intro⟩, (fun _ => True.intro)⟩, ⟨⟨(by (exact fun h => h)), True.intro⟩, (by (intro _; simp; done))⟩, ⟨⟨True.intro, True.intro⟩, (fun _ => True.intro)⟩, ⟨⟨(by (exact fun h => h)), True.intro⟩, (by (intro _; simp; done))⟩, True.intro⟩ ?_
  refine aops_callRG 2 [2201088] (g := true == true) (first := []) (caps := []) (ins' := [Ob.row (2 : Nat) (1 : Nat) (2 : Nat) fun (i : Nat) => V.renL (callG (22 : Nat) (some (88 : Tmp))) [V.i (gi [(96 : Int), (32 : Int)] i)]]) (v' := V.b true) (kp := [2201088]) (by kernel_rfl) (fun h => sameK [96, 32] [96, 32] (by decide) (by decide)) rfl (by kernel_rfl) (by kernel_rfl) (by kernel_rfl) (by kernel_rfl) (by kernel_rfl) rfl (by kernel_rfl) (by kernel_rfl) ⟨(fun _ _ => rfl), True.intro⟩ (by kernel_rfl) (by kernel_rfl) (by kernel_rfl) ?_
  refine aops_n hTT (M := []) (n := 2) [pc (107 : Nat) ((true = true → (true == true) = true) ∧ True) (V.b true), pv (108 : Nat) (V.b true)] (by kernel_rfl) (by kernel_rfl) ⟨⟨(by (exact fun h => h)), True.intro⟩, True.intro⟩ ?_
  refine e_callG 0 (g := true == true) (first := []) (caps := []) (by kernel_rfl) (fun h => fWorks_ac) (by kernel_rfl) (by kernel_rfl) (by kernel_rfl) (by kernel_rfl) (by kernel_rfl) (by kernel_rfl) ?_
  refine aops_n hTT (M := []) (n := 2) [pc (110 : Nat) ((true = true → (true == true) = true) ∧ True) (V.b true), pv (4 : Nat) (V.b true)] (by kernel_rfl) (by kernel_rfl) ⟨⟨(by (exact fun h => h)), True.intro⟩, True.intro⟩ ?_
  refine aops_nil ?_
  refine xt_n ?_
  refine hK _ ?_
  clear hK K
  refine aw_ret ?_
  refine ret_pure (v' := V.b true) (.inr rfl) (by kernel_rfl) (by kernel_rfl) (by kernel_rfl)
set_option maxRecDepth 100000 in
theorem curvesF_law (c : Cv) (hc : cvL c) : AC Try.prog 10 [V.cv c, .c (.string nFlat)] (.b true) [] := by
  refine ac_intro hTT hMX (fn := Try.f10) (N := _) ⟨Try.func10, rfl, Try.ntmps10, by kernel_rfl⟩ (by simp) fun C hC hF => ?_
  refine aw_seq_k fun K hK => ?_
  refine w_region (n' := 2) (by kernel_rfl) (by kernel_rfl) ?_
  refine aops_n hTT (M := []) (n := 2) [pv (2 : Nat) (V.ptr [V.sl (1 : Nat) (List.length (Cv.feed c)) fun (k : Nat) => [V.i (gi (Cv.feed c) k)], V.sl (1 : Nat) (List.length (Cv.back c)) fun (k : Nat) => [V.i (gi (Cv.back c) k)], V.i (Cv.share c)]), pv (4 : Nat) (V.b false)] (by kernel_rfl) (by kernel_rfl) True.intro ?_
  refine aops_nil ?_
  refine xt_n ?_
  refine hK _ ?_
  clear hK K
  refine aw_seq_k fun K hK => ?_
  refine aw_seq_k fun K hK => ?_
  refine w_region (n' := 3) (by kernel_rfl) (by kernel_rfl) ?_
  refine aops_n hTT (M := []) (n := 2) [pv (12 : Nat) (V.agg [V.sl (1 : Nat) (List.length (Cv.feed c)) fun (k : Nat) => [V.i (gi (Cv.feed c) k)], V.sl (1 : Nat) (List.length (Cv.back c)) fun (k : Nat) => [V.i (gi (Cv.back c) k)], V.i (Cv.share c)]), pv (13 : Nat) (V.sl (3 : Nat) (1 : Nat) fun (i : Nat) => List.take (3 : Nat) (List.drop (i * (3 : Nat)) [V.sl (1 : Nat) (List.length (Cv.feed c)) fun (k : Nat) => [V.i (gi (Cv.feed c) k)], V.sl (1 : Nat) (List.length (Cv.back c)) fun (k : Nat) => [V.i (gi (Cv.back c) k)], V.i (Cv.share c)]))] (by kernel_rfl) (by kernel_rfl) True.intro ?_
  refine e_call (first := []) (caps := []) (AC.conv (chains_ac [c] (by unfold bigL; simp)) (args' := [V.sl (3 : Nat) (1 : Nat) fun (i : Nat) => List.take (3 : Nat) (List.drop (i * (3 : Nat)) [V.sl (1 : Nat) (List.length (Cv.feed c)) fun (k : Nat) => [V.i (gi (Cv.feed c) k)], V.sl (1 : Nat) (List.length (Cv.back c)) fun (k : Nat) => [V.i (gi (Cv.back c) k)], V.i (Cv.share c)])]) ⟨?_, trivial⟩) (by kernel_rfl) (by kernel_rfl) (by kernel_rfl) (by kernel_rfl) (by kernel_rfl) ?_
  · refine RImp.rows rfl fun i hi => ?_
    obtain rfl : i = 0 := by omega
    rfl
  refine aops_n hTT (M := []) (n := 5) [pv (15 : Nat) (V.b (longC [c])), pc (16 : Nat) ((True ∧ True) ∧ ((longC [c] == false) = true → True)) (V.gd (longC [c] == false) (V.c (Value.string nFlat))), pc (17 : Nat) ((((longC [c] == false) = true → (longC [c] == false) = true) ∧ True) ∧ ((longC [c] == false) = true → True)) (V.gd (longC [c] == false) (V.i (4 : Int))), pc (18 : Nat) ((((longC [c] == false) = true → (longC [c] == false) = true) ∧ True ∧ True) ∧ ((longC [c] == false) = true → True)) (V.gd (longC [c] == false) (V.b false)), pc (19 : Nat) (True ∧ (longC [c] = false → (longC [c] == false) = true)) (V.b (longC [c] && true))] (by kernel_rfl) (by kernel_rfl) ⟨⟨⟨True.intro, True.intro⟩, (fun _ => True.intro)⟩, ⟨⟨(by (exact fun h => h)), True.intro⟩, (fun _ => True.intro)⟩, ⟨⟨(by (exact fun h => h)), ⟨True.intro, True.intro⟩⟩, (fun _ => True.intro)⟩, ⟨True.intro, (by (intro h; rw [h]; rfl))⟩, True.intro⟩ ?_
  refine aops_nil ?_
  refine xt_n ?_
  refine hK _ ?_
  clear hK K
  refine w_cond (t := longC [c] && true) (by kernel_rfl) (fun c1 => ?_) (fun c1 => ?_)
  · refine aw_seq_k fun K hK => ?_
    refine w_region (n' := 4) (by kernel_rfl) (by kernel_rfl) ?_
    refine e_call (first := []) (caps := []) (fWorks_ac) (by kernel_rfl) (by kernel_rfl) (by kernel_rfl) (by kernel_rfl) (by kernel_rfl) ?_
    refine aops_n hTT (M := []) (n := 1) [pv (4 : Nat) (V.b true)] (by kernel_rfl) (by kernel_rfl) True.intro ?_
    refine aops_nil ?_
    refine xt_n ?_
    refine hK _ ?_
    clear hK K
    refine aw_ret ?_
    refine xt_r ?_
    refine ret_pure (v' := V.b true) (.inr rfl) (by kernel_rfl) (by kernel_rfl) (by kernel_rfl)
  refine aw_skip ?_
  refine xt_n ?_
  refine hK _ ?_
  clear hK K
  refine aw_seq_k fun K hK => ?_
  refine w_region (n' := 4) (by kernel_rfl) (by kernel_rfl) ?_
  refine aops_n hTT (M := []) (n := 1) [pv (22 : Nat) (V.c (Value.string nFlat))] (by kernel_rfl) (by kernel_rfl) True.intro ?_
  refine e_call (first := []) (caps := []) (NamedF_ac) (by kernel_rfl) (by kernel_rfl) (by kernel_rfl) (by kernel_rfl) (by kernel_rfl) ?_
  refine aops_n hTT (M := []) (n := 6) [pv (21 : Nat) (V.tup [V.agg [V.nil, V.nil, V.i (1 : Int)], V.i (0 : Int)]), pv (24 : Nat) (V.agg [V.nil, V.nil, V.i (1 : Int)]), pv (25 : Nat) (V.i (0 : Int)), pn (5 : Nat) (V.ref (300005 : Nat) (0 : Nat)) (300005 : Nat) (Ob.box (24 : Nat) [V.nil, V.nil, V.i (0 : Int)]), pw ((0 : Nat) + (3 : Nat) ≤ (3 : Nat)) (300005 : Nat) (Ob.box (24 : Nat) [V.nil, V.nil, V.i (1 : Int)]), pv (6 : Nat) (V.i (0 : Int))] (by kernel_rfl) (by kernel_rfl) ⟨(by omega), True.intro⟩ ?_
  refine aops_nil ?_
  refine xt_n ?_
  refine hK _ ?_
  clear hK K
  refine aw_seq_k fun K hK => ?_
  refine w_region (n' := 5) (by kernel_rfl) (by kernel_rfl) ?_
  refine aops_n hTT (M := []) (n := 1) [pv (27 : Nat) (V.c (Value.string nFlat))] (by kernel_rfl) (by kernel_rfl) True.intro ?_
  refine e_call (first := []) (caps := []) (rNamedF_ac) (by kernel_rfl) (by kernel_rfl) (by kernel_rfl) (by kernel_rfl) (by kernel_rfl) ?_
  refine aops_n hTT (M := []) (n := 6) [pv (26 : Nat) (V.tup [V.agg [V.sl (1 : Nat) (0 : Nat) fun (k : Nat) => [V.i (gi (Cv.feed (Cv.mk [] [] (1 : Int))) k)], V.sl (1 : Nat) (0 : Nat) fun (k : Nat) => [V.i (gi (Cv.back (Cv.mk [] [] (1 : Int))) k)], V.i (Cv.share (Cv.mk [] [] (1 : Int)))], V.i (0 : Int)]), pv (29 : Nat) (V.agg [V.sl (1 : Nat) (0 : Nat) fun (k : Nat) => [V.i (gi (Cv.feed (Cv.mk [] [] (1 : Int))) k)], V.sl (1 : Nat) (0 : Nat) fun (k : Nat) => [V.i (gi (Cv.back (Cv.mk [] [] (1 : Int))) k)], V.i (Cv.share (Cv.mk [] [] (1 : Int)))]), pv (30 : Nat) (V.i (0 : Int)), pn (7 : Nat) (V.ref (400007 : Nat) (0 : Nat)) (400007 : Nat) (Ob.box (24 : Nat) [V.nil, V.nil, V.i (0 : Int)]), pw ((0 : Nat) + (3 : Nat) ≤ (3 : Nat)) (400007 : Nat) (Ob.box (24 : Nat) [V.sl (1 : Nat) (0 : Nat) fun (k : Nat) => [V.i (gi (Cv.feed (Cv.mk [] [] (1 : Int))) k)], V.sl (1 : Nat) (0 : Nat) fun (k : Nat) => [V.i (gi (Cv.back (Cv.mk [] [] (1 : Int))) k)], V.i (Cv.share (Cv.mk [] [] (1 : Int)))]), pv (8 : Nat) (V.i (0 : Int))] (by kernel_rfl) (by kernel_rfl) ⟨(by omega), True.intro⟩ ?_
  refine aops_nil ?_
  refine xt_n ?_
  refine hK _ ?_
  clear hK K
  refine aw_seq_k fun K hK => ?_
  refine aw_seq_k fun K hK => ?_
  refine w_regionD (n' := 6) (by kernel_rfl) (by kernel_rfl) ?_
  refine aops_n hTT (M := []) (n := 1) [pv (31 : Nat) (V.agg [V.sl (1 : Nat) (List.length (Cv.feed c)) fun (k : Nat) => [V.i (gi (Cv.feed c) k)], V.sl (1 : Nat) (List.length (Cv.back c)) fun (k : Nat) => [V.i (gi (Cv.back c) k)], V.i (Cv.share c)])] (by kernel_rfl) (by kernel_rfl) True.intro ?_
  refine e_call (first := []) (caps := []) (CheckCurve_ac c hc) (by kernel_rfl) (by kernel_rfl) (by kernel_rfl) (by kernel_rfl) (by kernel_rfl) ?_
  refine aops_n hTT (M := []) (n := 1) [pv (33 : Nat) (V.agg [V.sl (1 : Nat) (List.length (Cv.feed c)) fun (k : Nat) => [V.i (gi (Cv.feed c) k)], V.sl (1 : Nat) (List.length (Cv.back c)) fun (k : Nat) => [V.i (gi (Cv.back c) k)], V.i (Cv.share c)])] (by kernel_rfl) (by kernel_rfl) True.intro ?_
  refine e_call (first := []) (caps := []) (refCheckCurve_ac c hc) (by kernel_rfl) (by kernel_rfl) (by kernel_rfl) (by kernel_rfl) (by kernel_rfl) ?_
  refine aops_n hTT (M := []) (n := 11) [pv (35 : Nat) (V.b !decide (cvE c = cvE c)), pv (36 : Nat) (V.b !decide (cvE c = cvE c)), pc (37 : Nat) ((True ∧ True) ∧ (((!decide (cvE c = cvE c)) == false) = true → True)) (V.gd ((!decide (cvE c = cvE c)) == false) (V.i (0 : Int))), pc (38 : Nat) ((True ∧ True) ∧ (((!decide (cvE c = cvE c)) == false) = true → True)) (V.gd ((!decide (cvE c = cvE c)) == false) (V.i (0 : Int))), pc (39 : Nat) (((((!decide (cvE c = cvE c)) == false) = true → ((!decide (cvE c = cvE c)) == false) = true) ∧ (((!decide (cvE c = cvE c)) == false) = true → ((!decide (cvE c = cvE c)) == false) = true) ∧ True) ∧ (((!decide (cvE c = cvE c)) == false) = true → True)) (V.gd ((!decide (cvE c = cvE c)) == false) (V.b false)), pc (40 : Nat) (True ∧ ((!decide (cvE c = cvE c)) = false → ((!decide (cvE c = cvE c)) == false) = true)) (V.b (!decide (cvE c = cvE c) && true)), pv (41 : Nat) (V.b (!decide (cvE c = cvE c) && true)), pc (42 : Nat) ((True ∧ True) ∧ (((!decide (cvE c = cvE c) && true) == false) = true → True)) (V.gd ((!decide (cvE c = cvE c) && true) == false) (V.ref (300005 : Nat) (0 : Nat))), pc (43 : Nat) (((((!decide (cvE c = cvE c) && true) == false) = true → ((!decide (cvE c = cvE c) && true) == false) = true) ∧ True) ∧ (((!decide (cvE c = cvE c) && true) == false) = true → (0 : Nat) ≤ (3 : Nat))) (V.gd ((!decide (cvE c = cvE c) && true) == false) V.nil), pc (44 : Nat) ((True ∧ True) ∧ (((!decide (cvE c = cvE c) && true) == false) = true → True)) (V.gd ((!decide (cvE c = cvE c) && true) == false) (V.ref (400007 : Nat) (0 : Nat))), pc (45 : Nat) (((((!decide (cvE c = cvE c) && true) == false) = true → ((!decide (cvE c = cvE c) && true) == false) = true) ∧ True) ∧ (((!decide (cvE c = cvE c) && true) == false) = true → (0 : Nat) ≤ (3 : Nat))) (V.gd ((!decide (cvE c = cvE c) && true) == false) (V.sl (1 : Nat) (0 : Nat) fun (k : Nat) => [V.i (gi (Cv.feed (Cv.mk [] [] (1 : Int))) k)]))] (by kernel_rfl) (by kernel_rfl) ⟨⟨⟨True.intro, True.intro⟩, (fun _ => True.intro)⟩, ⟨⟨True.intro, True.intro⟩, (fun _ => True.intro)⟩, ⟨⟨(by (exact fun h => h)), ⟨(by (exact fun h => h)), True.intro⟩⟩, (fun _ => True.intro)⟩, ⟨True.intro, (by (intro h; rw [h]; rfl))⟩, ⟨⟨True.intro, True.intro⟩, (fun _ => True.intro)⟩, ⟨⟨(by (exact fun h => h)), True.intro⟩, (by (simp only [inR]; omega))⟩, ⟨⟨True.intro, True.intro⟩, (fun _ => True.intro)⟩, ⟨⟨(by (exact fun h => h)), True.intro⟩, (by (simp only [inR]; omega))⟩, True.intro⟩ ?_
  refine e_callG 2 (g := (!decide (cvE c = cvE c) && true) == false) (first := []) (caps := []) (by kernel_rfl) (fun h => sameN) (by kernel_rfl) (by kernel_rfl) (by kernel_rfl) (by kernel_rfl) (by kernel_rfl) (by kernel_rfl) ?_
  refine aops_n hTT (M := []) (n := 7) [pc (47 : Nat) (((((!decide (cvE c = cvE c) && true) == false) = true → ((!decide (cvE c = cvE c) && true) == false) = true) ∧ True) ∧ (((!decide (cvE c = cvE c) && true) == false) = true → True)) (V.gd ((!decide (cvE c = cvE c) && true) == false) (V.b false)), pc (48 : Nat) (True ∧ ((!decide (cvE c = cvE c) && true) = false → ((!decide (cvE c = cvE c) && true) == false) = true)) (V.b (!decide (cvE c = cvE c) && true && true)), pv (49 : Nat) (V.b (!decide (cvE c = cvE c) && true && true)), pc (50 : Nat) ((True ∧ True) ∧ (((!decide (cvE c = cvE c) && true && true) == false) = true → True)) (V.gd ((!decide (cvE c = cvE c) && true && true) == false) (V.ref (300005 : Nat) (1 : Nat))), pc (51 : Nat) (((((!decide (cvE c = cvE c) && true && true) == false) = true → ((!decide (cvE c = cvE c) && true && true) == false) = true) ∧ True) ∧ (((!decide (cvE c = cvE c) && true && true) == false) = true → (1 : Nat) ≤ (3 : Nat))) (V.gd ((!decide (cvE c = cvE c) && true && true) == false) V.nil), pc (52 : Nat) ((True ∧ True) ∧ (((!decide (cvE c = cvE c) && true && true) == false) = true → True)) (V.gd ((!decide (cvE c = cvE c) && true && true) == false) (V.ref (400007 : Nat) (1 : Nat))), pc (53 : Nat) (((((!decide (cvE c = cvE c) && true && true) == false) = true → ((!decide (cvE c = cvE c) && true && true) == false) = true) ∧ True) ∧ (((!decide (cvE c = cvE c) && true && true) == false) = true → (1 : Nat) ≤ (3 : Nat))) (V.gd ((!decide (cvE c = cvE c) && true && true) == false) (V.sl (1 : Nat) (0 : Nat) fun (k : Nat) => [V.i (gi (Cv.back (Cv.mk [] [] (1 : Int))) k)]))] (by kernel_rfl) (by kernel_rfl) ⟨⟨⟨(by (exact fun h => h)), True.intro⟩, (fun _ => True.intro)⟩, ⟨True.intro, (by (intro h; rw [h]; rfl))⟩, ⟨⟨True.intro, True.intro⟩, (fun _ => True.intro)⟩, ⟨⟨(by (exact fun h => h)), True.intro⟩, (by (simp only [inR]; omega))⟩, ⟨⟨True.intro, True.intro⟩, (fun _ => True.intro)⟩, ⟨⟨(by (exact fun h => h)), True.intro⟩, (by (simp only [inR]; omega))⟩, True.intro⟩ ?_
  refine e_callG 2 (g := (!decide (cvE c = cvE c) && true && true) == false) (first := []) (caps := []) (by kernel_rfl) (fun h => sameN) (by kernel_rfl) (by kernel_rfl) (by kernel_rfl) (by kernel_rfl) (by kernel_rfl) (by kernel_rfl) ?_
  refine aops_n hTT (M := []) (n := 9) [pc (55 : Nat) (((((!decide (cvE c = cvE c) && true && true) == false) = true → ((!decide (cvE c = cvE c) && true && true) == false) = true) ∧ True) ∧ (((!decide (cvE c = cvE c) && true && true) == false) = true → True)) (V.gd ((!decide (cvE c = cvE c) && true && true) == false) (V.b false)), pc (56 : Nat) (True ∧ ((!decide (cvE c = cvE c) && true && true) = false → ((!decide (cvE c = cvE c) && true && true) == false) = true)) (V.b (!decide (cvE c = cvE c) && true && true && true)), pv (57 : Nat) (V.b (!decide (cvE c = cvE c) && true && true && true)), pc (58 : Nat) ((True ∧ True) ∧ (((!decide (cvE c = cvE c) && true && true && true) == false) = true → True)) (V.gd ((!decide (cvE c = cvE c) && true && true && true) == false) (V.ref (300005 : Nat) (2 : Nat))), pc (59 : Nat) (((((!decide (cvE c = cvE c) && true && true && true) == false) = true → ((!decide (cvE c = cvE c) && true && true && true) == false) = true) ∧ True) ∧ (((!decide (cvE c = cvE c) && true && true && true) == false) = true → (2 : Nat) ≤ (3 : Nat))) (V.gd ((!decide (cvE c = cvE c) && true && true && true) == false) (V.i (1 : Int))), pc (60 : Nat) ((True ∧ True) ∧ (((!decide (cvE c = cvE c) && true && true && true) == false) = true → True)) (V.gd ((!decide (cvE c = cvE c) && true && true && true) == false) (V.ref (400007 : Nat) (2 : Nat))), pc (61 : Nat) (((((!decide (cvE c = cvE c) && true && true && true) == false) = true → ((!decide (cvE c = cvE c) && true && true && true) == false) = true) ∧ True) ∧ (((!decide (cvE c = cvE c) && true && true && true) == false) = true → (2 : Nat) ≤ (3 : Nat))) (V.gd ((!decide (cvE c = cvE c) && true && true && true) == false) (V.i (Cv.share (Cv.mk [] [] (1 : Int))))), pc (62 : Nat) (((((!decide (cvE c = cvE c) && true && true && true) == false) = true → ((!decide (cvE c = cvE c) && true && true && true) == false) = true) ∧ (((!decide (cvE c = cvE c) && true && true && true) == false) = true → ((!decide (cvE c = cvE c) && true && true && true) == false) = true) ∧ True) ∧ (((!decide (cvE c = cvE c) && true && true && true) == false) = true → True)) (V.gd ((!decide (cvE c = cvE c) && true && true && true) == false) (V.b false)), pc (63 : Nat) (True ∧ ((!decide (cvE c = cvE c) && true && true && true) = false → ((!decide (cvE c = cvE c) && true && true && true) == false) = true)) (V.b (!decide (cvE c = cvE c) && true && true && true && true))] (by kernel_rfl) (by kernel_rfl) ⟨⟨⟨(by (exact fun h => h)), True.intro⟩, (fun _ => True.intro)⟩, ⟨True.intro, (by (intro h; rw [h]; rfl))⟩, ⟨⟨True.intro, True.intro⟩, (fun _ => True.intro)⟩, ⟨⟨(by (exact fun h => h)), True.intro⟩, (by (simp only [inR]; omega))⟩, ⟨⟨True.intro, True.intro⟩, (fun _ => True.intro)⟩, ⟨⟨(by (exact fun h => h)), True.intro⟩, (by (simp only [inR]; omega))⟩, ⟨⟨(by (exact fun h => h)), ⟨(by (exact fun h => h)), True.intro⟩⟩, (fun _ => True.intro)⟩, ⟨True.intro, (by (intro h; rw [h]; rfl))⟩, True.intro⟩ ?_
  refine aops_nil ⟨by kernel_rfl, ?_⟩
  refine xt_n ?_
  refine hK _ ?_
  clear hK K
  refine w_cond (t := !decide (cvE c = cvE c) && true && true && true && true) (by kernel_rfl) (fun c2 => ?_) (fun c2 => ?_)
  · exfalso; simp at c2
  refine aw_skip ?_
  refine xt_n ?_
  refine hK _ ?_
  clear hK K
  refine aw_seq_k fun K hK => ?_
  refine aw_seq_k fun K hK => ?_
  refine w_region (n' := 7) (by kernel_rfl) (by kernel_rfl) ?_
  refine aops_n hTT (M := []) (n := 1) [pv (9 : Nat) (V.i (0 : Int))] (by kernel_rfl) (by kernel_rfl) True.intro ?_
  refine aops_nil ?_
  refine xt_n ?_
  refine hK _ ?_
  clear hK K
  refine aw_block ?_
  refine aw_rounds 4 ?_
  refine awr_succ (m := 3) fun K hK => ?_
  refine aw_seq_k fun K hK => ?_
  refine aw_seq_k fun K hK => ?_
  refine w_region (n' := 8) (by kernel_rfl) (by kernel_rfl) ?_
  refine aops_n hTT (M := []) (n := 5) [pv (64 : Nat) (V.i (0 : Int)), pv (65 : Nat) (V.ref (300005 : Nat) (0 : Nat)), pc (66 : Nat) ((0 : Nat) ≤ (3 : Nat)) V.nil, pv (67 : Nat) (V.i (0 : Int)), pv (68 : Nat) (V.b false)] (by kernel_rfl) (by kernel_rfl) ⟨(by omega), True.intro⟩ ?_
  refine aops_nil ?_
  refine xt_n ?_
  refine hK _ ?_
  clear hK K
  refine w_false (t := false) (by kernel_rfl) rfl ?_
  refine aw_exit ?_
  refine xt_x ?_
  refine xt_x ?_
  refine xb_same ?_
  refine xt_n ?_
  clear hK K
  clear hK K
  refine hK _ ?_
  clear hK K
  refine aw_seq_k fun K hK => ?_
  refine aw_seq_k fun K hK => ?_
  refine w_region (n' := 9) (by kernel_rfl) (by kernel_rfl) ?_
  refine aops_n hTT (M := []) (n := 1) [pv (10 : Nat) (V.i (0 : Int))] (by kernel_rfl) (by kernel_rfl) True.intro ?_
  refine aops_nil ?_
  refine xt_n ?_
  refine hK _ ?_
  clear hK K
  refine aw_block ?_
  refine aw_rounds 4 ?_
  refine awr_succ (m := 3) fun K hK => ?_
  refine aw_seq_k fun K hK => ?_
  refine aw_seq_k fun K hK => ?_
  refine w_region (n' := 10) (by kernel_rfl) (by kernel_rfl) ?_
  refine aops_n hTT (M := []) (n := 5) [pv (75 : Nat) (V.i (0 : Int)), pv (76 : Nat) (V.ref (300005 : Nat) (1 : Nat)), pc (77 : Nat) ((1 : Nat) ≤ (3 : Nat)) V.nil, pv (78 : Nat) (V.i (0 : Int)), pv (79 : Nat) (V.b false)] (by kernel_rfl) (by kernel_rfl) ⟨(by omega), True.intro⟩ ?_
  refine aops_nil ?_
  refine xt_n ?_
  refine hK _ ?_
  clear hK K
  refine w_false (t := false) (by kernel_rfl) rfl ?_
  refine aw_exit ?_
  refine xt_x ?_
  refine xt_x ?_
  refine xb_same ?_
  refine xt_n ?_
  clear hK K
  clear hK K
  refine hK _ ?_
  clear hK K
  refine aw_seq_k fun K hK => ?_
  refine w_region (n' := 11) (by kernel_rfl) (by kernel_rfl) ?_
  refine aops_n hTT (M := []) (n := 1) [pv (87 : Nat) (V.c (Value.string nFlat))] (by kernel_rfl) (by kernel_rfl) True.intro ?_
  refine e_call (first := []) (caps := []) (NamedF_ac) (by kernel_rfl) (by kernel_rfl) (by kernel_rfl) (by kernel_rfl) (by kernel_rfl) ?_
  refine aops_n hTT (M := []) (n := 6) [pv (86 : Nat) (V.tup [V.agg [V.nil, V.nil, V.i (1 : Int)], V.i (0 : Int)]), pv (89 : Nat) (V.agg [V.nil, V.nil, V.i (1 : Int)]), pv (90 : Nat) (V.i (0 : Int)), pn (11 : Nat) (V.ref (1000011 : Nat) (0 : Nat)) (1000011 : Nat) (Ob.box (24 : Nat) [V.nil, V.nil, V.i (0 : Int)]), pw ((0 : Nat) + (3 : Nat) ≤ (3 : Nat)) (1000011 : Nat) (Ob.box (24 : Nat) [V.nil, V.nil, V.i (1 : Int)]), pv (6 : Nat) (V.i (0 : Int))] (by kernel_rfl) (by kernel_rfl) ⟨(by omega), True.intro⟩ ?_
  refine aops_nil ?_
  refine xt_n ?_
  refine hK _ ?_
  clear hK K
  refine aw_seq_k fun K hK => ?_
  refine w_region (n' := 12) (by kernel_rfl) (by kernel_rfl) ?_
  refine aops_n hTT (M := []) (n := 8) [pv (91 : Nat) (V.i (0 : Int)), pv (92 : Nat) (V.i (0 : Int)), pv (93 : Nat) (V.b true), pv (94 : Nat) (V.b true), pc (95 : Nat) ((True ∧ True) ∧ ((true == true) = true → True)) (V.gd (true == true) (V.ref (1000011 : Nat) (0 : Nat))), pc (96 : Nat) ((((true == true) = true → (true == true) = true) ∧ True) ∧ ((true == true) = true → (0 : Nat) ≤ (3 : Nat))) (V.gd (true == true) V.nil), pc (97 : Nat) ((True ∧ True) ∧ ((true == true) = true → True)) (V.gd (true == true) (V.ref (400007 : Nat) (0 : Nat))), pc (98 : Nat) ((((true == true) = true → (true == true) = true) ∧ True) ∧ ((true == true) = true → (0 : Nat) ≤ (3 : Nat))) (V.gd (true == true) (V.sl (1 : Nat) (0 : Nat) fun (k : Nat) => [V.i (gi (Cv.feed (Cv.mk [] [] (1 : Int))) k)]))] (by kernel_rfl) (by kernel_rfl) ⟨⟨⟨True.intro, True.intro⟩, (fun _ => True.intro)⟩, ⟨⟨(by (exact fun h => h)), True.intro⟩, (by (intro _; simp; done))⟩, ⟨⟨True.intro, True.intro⟩, (fun _ => True.intro)⟩, ⟨⟨(by (exact fun h => h)), True.intro⟩, (by (intro _; simp; done))⟩, True.intro⟩ ?_
  refine e_callG 2 (g := true == true) (first := []) (caps := []) (by kernel_rfl) (fun h => sameN) (by kernel_rfl) (by kernel_rfl) (by kernel_rfl) (by kernel_rfl) (by kernel_rfl) (by kernel_rfl) ?_
  refine aops_n hTT (M := []) (n := 6) [pc (100 : Nat) ((true = true → (true == true) = true) ∧ True) (V.b true), pv (101 : Nat) (V.b true), pc (102 : Nat) ((True ∧ True) ∧ ((true == true) = true → True)) (V.gd (true == true) (V.ref (1000011 : Nat) (1 : Nat))), pc (103 : Nat) ((((true == true) = true → (true == true) = true) ∧ True) ∧ ((true == true) = true → (1 : Nat) ≤ (3 : Nat))) (V.gd (true == true) V.nil), pc (104 : Nat) ((True ∧ True) ∧ ((true == true) = true → True)) (V.gd (true == true) (V.ref (400007 : Nat) (1 : Nat))), pc (105 : Nat) ((((true == true) = true → (true == true) = true) ∧ True) ∧ ((true == true) = true → (1 : Nat) ≤ (3 : Nat))) (V.gd (true == true) (V.sl (1 : Nat) (0 : Nat) fun (k : Nat) => [V.i (gi (Cv.back (Cv.mk [] [] (1 : Int))) k)]))] (by kernel_rfl) (by kernel_rfl) ⟨⟨(by (exact fun h => h)), True.intro⟩, ⟨⟨True.intro, True.intro⟩, (fun _ => True.intro)⟩, ⟨⟨(by (exact fun h => h)), True.intro⟩, (by (intro _; simp; done))⟩, ⟨⟨True.intro, True.intro⟩, (fun _ => True.intro)⟩, ⟨⟨(by (exact fun h => h)), True.intro⟩, (by (intro _; simp; done))⟩, True.intro⟩ ?_
  refine e_callG 2 (g := true == true) (first := []) (caps := []) (by kernel_rfl) (fun h => sameN) (by kernel_rfl) (by kernel_rfl) (by kernel_rfl) (by kernel_rfl) (by kernel_rfl) (by kernel_rfl) ?_
  refine aops_n hTT (M := []) (n := 2) [pc (107 : Nat) ((true = true → (true == true) = true) ∧ True) (V.b true), pv (108 : Nat) (V.b true)] (by kernel_rfl) (by kernel_rfl) ⟨⟨(by (exact fun h => h)), True.intro⟩, True.intro⟩ ?_
  refine e_callG 0 (g := true == true) (first := []) (caps := []) (by kernel_rfl) (fun h => fWorks_ac) (by kernel_rfl) (by kernel_rfl) (by kernel_rfl) (by kernel_rfl) (by kernel_rfl) (by kernel_rfl) ?_
  refine aops_n hTT (M := []) (n := 2) [pc (110 : Nat) ((true = true → (true == true) = true) ∧ True) (V.b true), pv (4 : Nat) (V.b true)] (by kernel_rfl) (by kernel_rfl) ⟨⟨(by (exact fun h => h)), True.intro⟩, True.intro⟩ ?_
  refine aops_nil ?_
  refine xt_n ?_
  refine hK _ ?_
  clear hK K
  refine aw_ret ?_
  refine ret_pure (v' := V.b true) (.inr rfl) (by kernel_rfl) (by kernel_rfl) (by kernel_rfl)
set_option maxRecDepth 100000 in
theorem curvesN_law {b : ByteArray} (h1 : b ≠ nFlat) (h2 : b ≠ nWarm) (h3 : b ≠ nBright) (h4 : b ≠ nShel) (c : Cv) (hc : cvL c) : AC Try.prog 10 [V.cv c, .c (.string b)] (.b true) [] := by
  refine ac_intro hTT hMX (fn := Try.f10) (N := _) ⟨Try.func10, rfl, Try.ntmps10, by kernel_rfl⟩ (by simp) fun C hC hF => ?_
  refine aw_seq_k fun K hK => ?_
  refine w_region (n' := 2) (by kernel_rfl) (by kernel_rfl) ?_
  refine aops_n hTT (M := []) (n := 2) [pv (2 : Nat) (V.ptr [V.sl (1 : Nat) (List.length (Cv.feed c)) fun (k : Nat) => [V.i (gi (Cv.feed c) k)], V.sl (1 : Nat) (List.length (Cv.back c)) fun (k : Nat) => [V.i (gi (Cv.back c) k)], V.i (Cv.share c)]), pv (4 : Nat) (V.b false)] (by kernel_rfl) (by kernel_rfl) True.intro ?_
  refine aops_nil ?_
  refine xt_n ?_
  refine hK _ ?_
  clear hK K
  refine aw_seq_k fun K hK => ?_
  refine aw_seq_k fun K hK => ?_
  refine w_region (n' := 3) (by kernel_rfl) (by kernel_rfl) ?_
  refine aops_n hTT (M := []) (n := 2) [pv (12 : Nat) (V.agg [V.sl (1 : Nat) (List.length (Cv.feed c)) fun (k : Nat) => [V.i (gi (Cv.feed c) k)], V.sl (1 : Nat) (List.length (Cv.back c)) fun (k : Nat) => [V.i (gi (Cv.back c) k)], V.i (Cv.share c)]), pv (13 : Nat) (V.sl (3 : Nat) (1 : Nat) fun (i : Nat) => List.take (3 : Nat) (List.drop (i * (3 : Nat)) [V.sl (1 : Nat) (List.length (Cv.feed c)) fun (k : Nat) => [V.i (gi (Cv.feed c) k)], V.sl (1 : Nat) (List.length (Cv.back c)) fun (k : Nat) => [V.i (gi (Cv.back c) k)], V.i (Cv.share c)]))] (by kernel_rfl) (by kernel_rfl) True.intro ?_
  refine e_call (first := []) (caps := []) (AC.conv (chains_ac [c] (by unfold bigL; simp)) (args' := [V.sl (3 : Nat) (1 : Nat) fun (i : Nat) => List.take (3 : Nat) (List.drop (i * (3 : Nat)) [V.sl (1 : Nat) (List.length (Cv.feed c)) fun (k : Nat) => [V.i (gi (Cv.feed c) k)], V.sl (1 : Nat) (List.length (Cv.back c)) fun (k : Nat) => [V.i (gi (Cv.back c) k)], V.i (Cv.share c)])]) ⟨?_, trivial⟩) (by kernel_rfl) (by kernel_rfl) (by kernel_rfl) (by kernel_rfl) (by kernel_rfl) ?_
  · refine RImp.rows rfl fun i hi => ?_
    obtain rfl : i = 0 := by omega
    rfl
  refine aops_n hTT (M := []) (n := 5) [pv (15 : Nat) (V.b (longC [c])), pc (16 : Nat) ((True ∧ True) ∧ ((longC [c] == false) = true → True)) (V.gd (longC [c] == false) (V.c (Value.string b))), pc (17 : Nat) ((((longC [c] == false) = true → (longC [c] == false) = true) ∧ True) ∧ ((longC [c] == false) = true → True)) (V.gd (longC [c] == false) (V.i (↑(ByteArray.size b) : Int))), pc (18 : Nat) ((((longC [c] == false) = true → (longC [c] == false) = true) ∧ True ∧ True) ∧ ((longC [c] == false) = true → True)) (V.gd (longC [c] == false) (V.b (decide ((40 : Int) < (↑(ByteArray.size b) : Int))))), pc (19 : Nat) (True ∧ (longC [c] = false → (longC [c] == false) = true)) (V.b (longC [c] || decide ((40 : Int) < (↑(ByteArray.size b) : Int))))] (by kernel_rfl) (by kernel_rfl) ⟨⟨⟨True.intro, True.intro⟩, (fun _ => True.intro)⟩, ⟨⟨(by (exact fun h => h)), True.intro⟩, (fun _ => True.intro)⟩, ⟨⟨(by (exact fun h => h)), ⟨True.intro, True.intro⟩⟩, (fun _ => True.intro)⟩, ⟨True.intro, (by (intro h; rw [h]; rfl))⟩, True.intro⟩ ?_
  refine aops_nil ?_
  refine xt_n ?_
  refine hK _ ?_
  clear hK K
  refine w_cond (t := longC [c] || decide ((40 : Int) < (↑(ByteArray.size b) : Int))) (by kernel_rfl) (fun c1 => ?_) (fun c1 => ?_)
  · refine aw_seq_k fun K hK => ?_
    refine w_region (n' := 4) (by kernel_rfl) (by kernel_rfl) ?_
    refine e_call (first := []) (caps := []) (fWorks_ac) (by kernel_rfl) (by kernel_rfl) (by kernel_rfl) (by kernel_rfl) (by kernel_rfl) ?_
    refine aops_n hTT (M := []) (n := 1) [pv (4 : Nat) (V.b true)] (by kernel_rfl) (by kernel_rfl) True.intro ?_
    refine aops_nil ?_
    refine xt_n ?_
    refine hK _ ?_
    clear hK K
    refine aw_ret ?_
    refine xt_r ?_
    refine ret_pure (v' := V.b true) (.inr rfl) (by kernel_rfl) (by kernel_rfl) (by kernel_rfl)
  refine aw_skip ?_
  refine xt_n ?_
  refine hK _ ?_
  clear hK K
  refine aw_seq_k fun K hK => ?_
  refine w_region (n' := 4) (by kernel_rfl) (by kernel_rfl) ?_
  refine aops_n hTT (M := []) (n := 1) [pv (22 : Nat) (V.c (Value.string b))] (by kernel_rfl) (by kernel_rfl) True.intro ?_
  refine e_call (first := []) (caps := []) (NamedN_ac h1 h2 h3 h4) (by kernel_rfl) (by kernel_rfl) (by kernel_rfl) (by kernel_rfl) (by kernel_rfl) ?_
  refine aops_n hTT (M := []) (n := 6) [pv (21 : Nat) (V.tup [V.agg [V.nil, V.nil, V.i (0 : Int)], V.i (5 : Int)]), pv (24 : Nat) (V.agg [V.nil, V.nil, V.i (0 : Int)]), pv (25 : Nat) (V.i (5 : Int)), pn (5 : Nat) (V.ref (300005 : Nat) (0 : Nat)) (300005 : Nat) (Ob.box (24 : Nat) [V.nil, V.nil, V.i (0 : Int)]), pw ((0 : Nat) + (3 : Nat) ≤ (3 : Nat)) (300005 : Nat) (Ob.box (24 : Nat) [V.nil, V.nil, V.i (0 : Int)]), pv (6 : Nat) (V.i (5 : Int))] (by kernel_rfl) (by kernel_rfl) ⟨(by omega), True.intro⟩ ?_
  refine aops_nil ?_
  refine xt_n ?_
  refine hK _ ?_
  clear hK K
  refine aw_seq_k fun K hK => ?_
  refine w_region (n' := 5) (by kernel_rfl) (by kernel_rfl) ?_
  refine aops_n hTT (M := []) (n := 1) [pv (27 : Nat) (V.c (Value.string b))] (by kernel_rfl) (by kernel_rfl) True.intro ?_
  refine e_call (first := []) (caps := []) (rNamedN_ac h1 h2 h3 h4) (by kernel_rfl) (by kernel_rfl) (by kernel_rfl) (by kernel_rfl) (by kernel_rfl) ?_
  refine aops_n hTT (M := []) (n := 6) [pv (26 : Nat) (V.tup [V.agg [V.sl (1 : Nat) (0 : Nat) fun (k : Nat) => [V.i (gi (Cv.feed (Cv.mk [] [] (0 : Int))) k)], V.sl (1 : Nat) (0 : Nat) fun (k : Nat) => [V.i (gi (Cv.back (Cv.mk [] [] (0 : Int))) k)], V.i (Cv.share (Cv.mk [] [] (0 : Int)))], V.i (5 : Int)]), pv (29 : Nat) (V.agg [V.sl (1 : Nat) (0 : Nat) fun (k : Nat) => [V.i (gi (Cv.feed (Cv.mk [] [] (0 : Int))) k)], V.sl (1 : Nat) (0 : Nat) fun (k : Nat) => [V.i (gi (Cv.back (Cv.mk [] [] (0 : Int))) k)], V.i (Cv.share (Cv.mk [] [] (0 : Int)))]), pv (30 : Nat) (V.i (5 : Int)), pn (7 : Nat) (V.ref (400007 : Nat) (0 : Nat)) (400007 : Nat) (Ob.box (24 : Nat) [V.nil, V.nil, V.i (0 : Int)]), pw ((0 : Nat) + (3 : Nat) ≤ (3 : Nat)) (400007 : Nat) (Ob.box (24 : Nat) [V.sl (1 : Nat) (0 : Nat) fun (k : Nat) => [V.i (gi (Cv.feed (Cv.mk [] [] (0 : Int))) k)], V.sl (1 : Nat) (0 : Nat) fun (k : Nat) => [V.i (gi (Cv.back (Cv.mk [] [] (0 : Int))) k)], V.i (Cv.share (Cv.mk [] [] (0 : Int)))]), pv (8 : Nat) (V.i (5 : Int))] (by kernel_rfl) (by kernel_rfl) ⟨(by omega), True.intro⟩ ?_
  refine aops_nil ?_
  refine xt_n ?_
  refine hK _ ?_
  clear hK K
  refine aw_seq_k fun K hK => ?_
  refine aw_seq_k fun K hK => ?_
  refine w_regionD (n' := 6) (by kernel_rfl) (by kernel_rfl) ?_
  refine aops_n hTT (M := []) (n := 1) [pv (31 : Nat) (V.agg [V.sl (1 : Nat) (List.length (Cv.feed c)) fun (k : Nat) => [V.i (gi (Cv.feed c) k)], V.sl (1 : Nat) (List.length (Cv.back c)) fun (k : Nat) => [V.i (gi (Cv.back c) k)], V.i (Cv.share c)])] (by kernel_rfl) (by kernel_rfl) True.intro ?_
  refine e_call (first := []) (caps := []) (CheckCurve_ac c hc) (by kernel_rfl) (by kernel_rfl) (by kernel_rfl) (by kernel_rfl) (by kernel_rfl) ?_
  refine aops_n hTT (M := []) (n := 1) [pv (33 : Nat) (V.agg [V.sl (1 : Nat) (List.length (Cv.feed c)) fun (k : Nat) => [V.i (gi (Cv.feed c) k)], V.sl (1 : Nat) (List.length (Cv.back c)) fun (k : Nat) => [V.i (gi (Cv.back c) k)], V.i (Cv.share c)])] (by kernel_rfl) (by kernel_rfl) True.intro ?_
  refine e_call (first := []) (caps := []) (refCheckCurve_ac c hc) (by kernel_rfl) (by kernel_rfl) (by kernel_rfl) (by kernel_rfl) (by kernel_rfl) ?_
  refine aops_n hTT (M := []) (n := 11) [pv (35 : Nat) (V.b !decide (cvE c = cvE c)), pv (36 : Nat) (V.b !decide (cvE c = cvE c)), pc (37 : Nat) ((True ∧ True) ∧ (((!decide (cvE c = cvE c)) == false) = true → True)) (V.gd ((!decide (cvE c = cvE c)) == false) (V.i (5 : Int))), pc (38 : Nat) ((True ∧ True) ∧ (((!decide (cvE c = cvE c)) == false) = true → True)) (V.gd ((!decide (cvE c = cvE c)) == false) (V.i (5 : Int))), pc (39 : Nat) (((((!decide (cvE c = cvE c)) == false) = true → ((!decide (cvE c = cvE c)) == false) = true) ∧ (((!decide (cvE c = cvE c)) == false) = true → ((!decide (cvE c = cvE c)) == false) = true) ∧ True) ∧ (((!decide (cvE c = cvE c)) == false) = true → True)) (V.gd ((!decide (cvE c = cvE c)) == false) (V.b false)), pc (40 : Nat) (True ∧ ((!decide (cvE c = cvE c)) = false → ((!decide (cvE c = cvE c)) == false) = true)) (V.b (!decide (cvE c = cvE c) && true)), pv (41 : Nat) (V.b (!decide (cvE c = cvE c) && true)), pc (42 : Nat) ((True ∧ True) ∧ (((!decide (cvE c = cvE c) && true) == false) = true → True)) (V.gd ((!decide (cvE c = cvE c) && true) == false) (V.ref (300005 : Nat) (0 : Nat))), pc (43 : Nat) (((((!decide (cvE c = cvE c) && true) == false) = true → ((!decide (cvE c = cvE c) && true) == false) = true) ∧ True) ∧ (((!decide (cvE c = cvE c) && true) == false) = true → (0 : Nat) ≤ (3 : Nat))) (V.gd ((!decide (cvE c = cvE c) && true) == false) V.nil), pc (44 : Nat) ((True ∧ True) ∧ (((!decide (cvE c = cvE c) && true) == false) = true → True)) (V.gd ((!decide (cvE c = cvE c) && true) == false) (V.ref (400007 : Nat) (0 : Nat))), pc (45 : Nat) (((((!decide (cvE c = cvE c) && true) == false) = true → ((!decide (cvE c = cvE c) && true) == false) = true) ∧ True) ∧ (((!decide (cvE c = cvE c) && true) == false) = true → (0 : Nat) ≤ (3 : Nat))) (V.gd ((!decide (cvE c = cvE c) && true) == false) (V.sl (1 : Nat) (0 : Nat) fun (k : Nat) => [V.i (gi (Cv.feed (Cv.mk [] [] (0 : Int))) k)]))] (by kernel_rfl) (by kernel_rfl) ⟨⟨⟨True.intro, True.intro⟩, (fun _ => True.intro)⟩, ⟨⟨True.intro, True.intro⟩, (fun _ => True.intro)⟩, ⟨⟨(by (exact fun h => h)), ⟨(by (exact fun h => h)), True.intro⟩⟩, (fun _ => True.intro)⟩, ⟨True.intro, (by (intro h; rw [h]; rfl))⟩, ⟨⟨True.intro, True.intro⟩, (fun _ => True.intro)⟩, ⟨⟨(by (exact fun h => h)), True.intro⟩, (by (simp only [inR]; omega))⟩, ⟨⟨True.intro, True.intro⟩, (fun _ => True.intro)⟩, ⟨⟨(by (exact fun h => h)), True.intro⟩, (by (simp only [inR]; omega))⟩, True.intro⟩ ?_
  refine e_callG 2 (g := (!decide (cvE c = cvE c) && true) == false) (first := []) (caps := []) (by kernel_rfl) (fun h => sameN) (by kernel_rfl) (by kernel_rfl) (by kernel_rfl) (by kernel_rfl) (by kernel_rfl) (by kernel_rfl) ?_
  refine aops_n hTT (M := []) (n := 7) [pc (47 : Nat) (((((!decide (cvE c = cvE c) && true) == false) = true → ((!decide (cvE c = cvE c) && true) == false) = true) ∧ True) ∧ (((!decide (cvE c = cvE c) && true) == false) = true → True)) (V.gd ((!decide (cvE c = cvE c) && true) == false) (V.b false)), pc (48 : Nat) (True ∧ ((!decide (cvE c = cvE c) && true) = false → ((!decide (cvE c = cvE c) && true) == false) = true)) (V.b (!decide (cvE c = cvE c) && true && true)), pv (49 : Nat) (V.b (!decide (cvE c = cvE c) && true && true)), pc (50 : Nat) ((True ∧ True) ∧ (((!decide (cvE c = cvE c) && true && true) == false) = true → True)) (V.gd ((!decide (cvE c = cvE c) && true && true) == false) (V.ref (300005 : Nat) (1 : Nat))), pc (51 : Nat) (((((!decide (cvE c = cvE c) && true && true) == false) = true → ((!decide (cvE c = cvE c) && true && true) == false) = true) ∧ True) ∧ (((!decide (cvE c = cvE c) && true && true) == false) = true → (1 : Nat) ≤ (3 : Nat))) (V.gd ((!decide (cvE c = cvE c) && true && true) == false) V.nil), pc (52 : Nat) ((True ∧ True) ∧ (((!decide (cvE c = cvE c) && true && true) == false) = true → True)) (V.gd ((!decide (cvE c = cvE c) && true && true) == false) (V.ref (400007 : Nat) (1 : Nat))), pc (53 : Nat) (((((!decide (cvE c = cvE c) && true && true) == false) = true → ((!decide (cvE c = cvE c) && true && true) == false) = true) ∧ True) ∧ (((!decide (cvE c = cvE c) && true && true) == false) = true → (1 : Nat) ≤ (3 : Nat))) (V.gd ((!decide (cvE c = cvE c) && true && true) == false) (V.sl (1 : Nat) (0 : Nat) fun (k : Nat) => [V.i (gi (Cv.back (Cv.mk [] [] (0 : Int))) k)]))] (by kernel_rfl) (by kernel_rfl) ⟨⟨⟨(by (exact fun h => h)), True.intro⟩, (fun _ => True.intro)⟩, ⟨True.intro, (by (intro h; rw [h]; rfl))⟩, ⟨⟨True.intro, True.intro⟩, (fun _ => True.intro)⟩, ⟨⟨(by (exact fun h => h)), True.intro⟩, (by (simp only [inR]; omega))⟩, ⟨⟨True.intro, True.intro⟩, (fun _ => True.intro)⟩, ⟨⟨(by (exact fun h => h)), True.intro⟩, (by (simp only [inR]; omega))⟩, True.intro⟩ ?_
  refine e_callG 2 (g := (!decide (cvE c = cvE c) && true && true) == false) (first := []) (caps := []) (by kernel_rfl) (fun h => sameN) (by kernel_rfl) (by kernel_rfl) (by kernel_rfl) (by kernel_rfl) (by kernel_rfl) (by kernel_rfl) ?_
  refine aops_n hTT (M := []) (n := 9) [pc (55 : Nat) (((((!decide (cvE c = cvE c) && true && true) == false) = true → ((!decide (cvE c = cvE c) && true && true) == false) = true) ∧ True) ∧ (((!decide (cvE c = cvE c) && true && true) == false) = true → True)) (V.gd ((!decide (cvE c = cvE c) && true && true) == false) (V.b false)), pc (56 : Nat) (True ∧ ((!decide (cvE c = cvE c) && true && true) = false → ((!decide (cvE c = cvE c) && true && true) == false) = true)) (V.b (!decide (cvE c = cvE c) && true && true && true)), pv (57 : Nat) (V.b (!decide (cvE c = cvE c) && true && true && true)), pc (58 : Nat) ((True ∧ True) ∧ (((!decide (cvE c = cvE c) && true && true && true) == false) = true → True)) (V.gd ((!decide (cvE c = cvE c) && true && true && true) == false) (V.ref (300005 : Nat) (2 : Nat))), pc (59 : Nat) (((((!decide (cvE c = cvE c) && true && true && true) == false) = true → ((!decide (cvE c = cvE c) && true && true && true) == false) = true) ∧ True) ∧ (((!decide (cvE c = cvE c) && true && true && true) == false) = true → (2 : Nat) ≤ (3 : Nat))) (V.gd ((!decide (cvE c = cvE c) && true && true && true) == false) (V.i (0 : Int))), pc (60 : Nat) ((True ∧ True) ∧ (((!decide (cvE c = cvE c) && true && true && true) == false) = true → True)) (V.gd ((!decide (cvE c = cvE c) && true && true && true) == false) (V.ref (400007 : Nat) (2 : Nat))), pc (61 : Nat) (((((!decide (cvE c = cvE c) && true && true && true) == false) = true → ((!decide (cvE c = cvE c) && true && true && true) == false) = true) ∧ True) ∧ (((!decide (cvE c = cvE c) && true && true && true) == false) = true → (2 : Nat) ≤ (3 : Nat))) (V.gd ((!decide (cvE c = cvE c) && true && true && true) == false) (V.i (Cv.share (Cv.mk [] [] (0 : Int))))), pc (62 : Nat) (((((!decide (cvE c = cvE c) && true && true && true) == false) = true → ((!decide (cvE c = cvE c) && true && true && true) == false) = true) ∧ (((!decide (cvE c = cvE c) && true && true && true) == false) = true → ((!decide (cvE c = cvE c) && true && true && true) == false) = true) ∧ True) ∧ (((!decide (cvE c = cvE c) && true && true && true) == false) = true → True)) (V.gd ((!decide (cvE c = cvE c) && true && true && true) == false) (V.b false)), pc (63 : Nat) (True ∧ ((!decide (cvE c = cvE c) && true && true && true) = false → ((!decide (cvE c = cvE c) && true && true && true) == false) = true)) (V.b (!decide (cvE c = cvE c) && true && true && true && true))] (by kernel_rfl) (by kernel_rfl) ⟨⟨⟨(by (exact fun h => h)), True.intro⟩, (fun _ => True.intro)⟩, ⟨True.intro, (by (intro h; rw [h]; rfl))⟩, ⟨⟨True.intro, True.intro⟩, (fun _ => True.intro)⟩, ⟨⟨(by (exact fun h => h)), True.intro⟩, (by (simp only [inR]; omega))⟩, ⟨⟨True.intro, True.intro⟩, (fun _ => True.intro)⟩, ⟨⟨(by (exact fun h => h)), True.intro⟩, (by (simp only [inR]; omega))⟩, ⟨⟨(by (exact fun h => h)), ⟨(by (exact fun h => h)), True.intro⟩⟩, (fun _ => True.intro)⟩, ⟨True.intro, (by (intro h; rw [h]; rfl))⟩, True.intro⟩ ?_
  refine aops_nil ⟨by kernel_rfl, ?_⟩
  refine xt_n ?_
  refine hK _ ?_
  clear hK K
  refine w_cond (t := !decide (cvE c = cvE c) && true && true && true && true) (by kernel_rfl) (fun c2 => ?_) (fun c2 => ?_)
  · exfalso; simp at c2
  refine aw_skip ?_
  refine xt_n ?_
  refine hK _ ?_
  clear hK K
  refine aw_seq_k fun K hK => ?_
  refine aw_seq_k fun K hK => ?_
  refine w_region (n' := 7) (by kernel_rfl) (by kernel_rfl) ?_
  refine aops_n hTT (M := []) (n := 1) [pv (9 : Nat) (V.i (0 : Int))] (by kernel_rfl) (by kernel_rfl) True.intro ?_
  refine aops_nil ?_
  refine xt_n ?_
  refine hK _ ?_
  clear hK K
  refine aw_block ?_
  refine aw_rounds 4 ?_
  refine awr_succ (m := 3) fun K hK => ?_
  refine aw_seq_k fun K hK => ?_
  refine aw_seq_k fun K hK => ?_
  refine w_region (n' := 8) (by kernel_rfl) (by kernel_rfl) ?_
  refine aops_n hTT (M := []) (n := 5) [pv (64 : Nat) (V.i (0 : Int)), pv (65 : Nat) (V.ref (300005 : Nat) (0 : Nat)), pc (66 : Nat) ((0 : Nat) ≤ (3 : Nat)) V.nil, pv (67 : Nat) (V.i (0 : Int)), pv (68 : Nat) (V.b false)] (by kernel_rfl) (by kernel_rfl) ⟨(by omega), True.intro⟩ ?_
  refine aops_nil ?_
  refine xt_n ?_
  refine hK _ ?_
  clear hK K
  refine w_false (t := false) (by kernel_rfl) rfl ?_
  refine aw_exit ?_
  refine xt_x ?_
  refine xt_x ?_
  refine xb_same ?_
  refine xt_n ?_
  clear hK K
  clear hK K
  refine hK _ ?_
  clear hK K
  refine aw_seq_k fun K hK => ?_
  refine aw_seq_k fun K hK => ?_
  refine w_region (n' := 9) (by kernel_rfl) (by kernel_rfl) ?_
  refine aops_n hTT (M := []) (n := 1) [pv (10 : Nat) (V.i (0 : Int))] (by kernel_rfl) (by kernel_rfl) True.intro ?_
  refine aops_nil ?_
  refine xt_n ?_
  refine hK _ ?_
  clear hK K
  refine aw_block ?_
  refine aw_rounds 4 ?_
  refine awr_succ (m := 3) fun K hK => ?_
  refine aw_seq_k fun K hK => ?_
  refine aw_seq_k fun K hK => ?_
  refine w_region (n' := 10) (by kernel_rfl) (by kernel_rfl) ?_
  refine aops_n hTT (M := []) (n := 5) [pv (75 : Nat) (V.i (0 : Int)), pv (76 : Nat) (V.ref (300005 : Nat) (1 : Nat)), pc (77 : Nat) ((1 : Nat) ≤ (3 : Nat)) V.nil, pv (78 : Nat) (V.i (0 : Int)), pv (79 : Nat) (V.b false)] (by kernel_rfl) (by kernel_rfl) ⟨(by omega), True.intro⟩ ?_
  refine aops_nil ?_
  refine xt_n ?_
  refine hK _ ?_
  clear hK K
  refine w_false (t := false) (by kernel_rfl) rfl ?_
  refine aw_exit ?_
  refine xt_x ?_
  refine xt_x ?_
  refine xb_same ?_
  refine xt_n ?_
  clear hK K
  clear hK K
  refine hK _ ?_
  clear hK K
  refine aw_seq_k fun K hK => ?_
  refine w_region (n' := 11) (by kernel_rfl) (by kernel_rfl) ?_
  refine aops_n hTT (M := []) (n := 1) [pv (87 : Nat) (V.c (Value.string b))] (by kernel_rfl) (by kernel_rfl) True.intro ?_
  refine e_call (first := []) (caps := []) (NamedN_ac h1 h2 h3 h4) (by kernel_rfl) (by kernel_rfl) (by kernel_rfl) (by kernel_rfl) (by kernel_rfl) ?_
  refine aops_n hTT (M := []) (n := 6) [pv (86 : Nat) (V.tup [V.agg [V.nil, V.nil, V.i (0 : Int)], V.i (5 : Int)]), pv (89 : Nat) (V.agg [V.nil, V.nil, V.i (0 : Int)]), pv (90 : Nat) (V.i (5 : Int)), pn (11 : Nat) (V.ref (1000011 : Nat) (0 : Nat)) (1000011 : Nat) (Ob.box (24 : Nat) [V.nil, V.nil, V.i (0 : Int)]), pw ((0 : Nat) + (3 : Nat) ≤ (3 : Nat)) (1000011 : Nat) (Ob.box (24 : Nat) [V.nil, V.nil, V.i (0 : Int)]), pv (6 : Nat) (V.i (5 : Int))] (by kernel_rfl) (by kernel_rfl) ⟨(by omega), True.intro⟩ ?_
  refine aops_nil ?_
  refine xt_n ?_
  refine hK _ ?_
  clear hK K
  refine aw_seq_k fun K hK => ?_
  refine w_region (n' := 12) (by kernel_rfl) (by kernel_rfl) ?_
  refine aops_n hTT (M := []) (n := 8) [pv (91 : Nat) (V.i (5 : Int)), pv (92 : Nat) (V.i (5 : Int)), pv (93 : Nat) (V.b true), pv (94 : Nat) (V.b true), pc (95 : Nat) ((True ∧ True) ∧ ((true == true) = true → True)) (V.gd (true == true) (V.ref (1000011 : Nat) (0 : Nat))), pc (96 : Nat) ((((true == true) = true → (true == true) = true) ∧ True) ∧ ((true == true) = true → (0 : Nat) ≤ (3 : Nat))) (V.gd (true == true) V.nil), pc (97 : Nat) ((True ∧ True) ∧ ((true == true) = true → True)) (V.gd (true == true) (V.ref (400007 : Nat) (0 : Nat))), pc (98 : Nat) ((((true == true) = true → (true == true) = true) ∧ True) ∧ ((true == true) = true → (0 : Nat) ≤ (3 : Nat))) (V.gd (true == true) (V.sl (1 : Nat) (0 : Nat) fun (k : Nat) => [V.i (gi (Cv.feed (Cv.mk [] [] (0 : Int))) k)]))] (by kernel_rfl) (by kernel_rfl) ⟨⟨⟨True.intro, True.intro⟩, (fun _ => True.intro)⟩, ⟨⟨(by (exact fun h => h)), True.intro⟩, (by (intro _; simp; done))⟩, ⟨⟨True.intro, True.intro⟩, (fun _ => True.intro)⟩, ⟨⟨(by (exact fun h => h)), True.intro⟩, (by (intro _; simp; done))⟩, True.intro⟩ ?_
  refine e_callG 2 (g := true == true) (first := []) (caps := []) (by kernel_rfl) (fun h => sameN) (by kernel_rfl) (by kernel_rfl) (by kernel_rfl) (by kernel_rfl) (by kernel_rfl) (by kernel_rfl) ?_
  refine aops_n hTT (M := []) (n := 6) [pc (100 : Nat) ((true = true → (true == true) = true) ∧ True) (V.b true), pv (101 : Nat) (V.b true), pc (102 : Nat) ((True ∧ True) ∧ ((true == true) = true → True)) (V.gd (true == true) (V.ref (1000011 : Nat) (1 : Nat))), pc (103 : Nat) ((((true == true) = true → (true == true) = true) ∧ True) ∧ ((true == true) = true → (1 : Nat) ≤ (3 : Nat))) (V.gd (true == true) V.nil), pc (104 : Nat) ((True ∧ True) ∧ ((true == true) = true → True)) (V.gd (true == true) (V.ref (400007 : Nat) (1 : Nat))), pc (105 : Nat) ((((true == true) = true → (true == true) = true) ∧ True) ∧ ((true == true) = true → (1 : Nat) ≤ (3 : Nat))) (V.gd (true == true) (V.sl (1 : Nat) (0 : Nat) fun (k : Nat) => [V.i (gi (Cv.back (Cv.mk [] [] (0 : Int))) k)]))] (by kernel_rfl) (by kernel_rfl) ⟨⟨(by (exact fun h => h)), True.intro⟩, ⟨⟨True.intro, True.intro⟩, (fun _ => True.intro)⟩, ⟨⟨(by (exact fun h => h)), True.intro⟩, (by (intro _; simp; done))⟩, ⟨⟨True.intro, True.intro⟩, (fun _ => True.intro)⟩, ⟨⟨(by (exact fun h => h)), True.intro⟩, (by (intro _; simp; done))⟩, True.intro⟩ ?_
  refine e_callG 2 (g := true == true) (first := []) (caps := []) (by kernel_rfl) (fun h => sameN) (by kernel_rfl) (by kernel_rfl) (by kernel_rfl) (by kernel_rfl) (by kernel_rfl) (by kernel_rfl) ?_
  refine aops_n hTT (M := []) (n := 2) [pc (107 : Nat) ((true = true → (true == true) = true) ∧ True) (V.b true), pv (108 : Nat) (V.b true)] (by kernel_rfl) (by kernel_rfl) ⟨⟨(by (exact fun h => h)), True.intro⟩, True.intro⟩ ?_
  refine e_callG 0 (g := true == true) (first := []) (caps := []) (by kernel_rfl) (fun h => fWorks_ac) (by kernel_rfl) (by kernel_rfl) (by kernel_rfl) (by kernel_rfl) (by kernel_rfl) (by kernel_rfl) ?_
  refine aops_n hTT (M := []) (n := 2) [pc (110 : Nat) ((true = true → (true == true) = true) ∧ True) (V.b true), pv (4 : Nat) (V.b true)] (by kernel_rfl) (by kernel_rfl) ⟨⟨(by (exact fun h => h)), True.intro⟩, True.intro⟩ ?_
  refine aops_nil ?_
  refine xt_n ?_
  refine hK _ ?_
  clear hK K
  refine aw_ret ?_
  refine ret_pure (v' := V.b true) (.inr rfl) (by kernel_rfl) (by kernel_rfl) (by kernel_rfl)
theorem curves_law (c : Cv) (hc : cvL c) (b : ByteArray) : AC Try.prog 10 [V.cv c, .c (.string b)] (.b true) [] := by
  by_cases h1 : b = nFlat
  · subst h1; exact curvesF_law c hc
  by_cases h2 : b = nWarm
  · subst h2; exact curvesW_law c hc
  by_cases h3 : b = nBright
  · subst h3; exact curvesB_law c hc
  by_cases h4 : b = nShel
  · subst h4; exact curvesS_law c hc
  exact curvesN_law h1 h2 h3 h4 c hc
def curvesSh : List Sh := [(.fld (.sl (.int .i64)) (.fld (.sl (.int .i64)) (.lst (.int .i64)))), .str]
theorem curves_all (x : TL curvesSh) (hx : wfL curvesSh x) : AC Try.prog 10 (valL curvesSh x) (V.b true) [] := by
  obtain ⟨⟨f, b, s⟩, n, _⟩ := x
  obtain ⟨⟨⟨h1, _⟩, ⟨h2, _⟩, h3⟩, _⟩ := hx
  exact curves_law ⟨f, b, s⟩ ⟨h1, h2⟩ ⟨⟨n⟩⟩
end Go.Proofs.Ytblipieipldanaa
