/-
  FilterKnown: the walk of the law. No condition.
-/
import Derived.Test.YtblipieipldanaaFA20
import Derived.Test.YtblipieipldanaaFA14
import Derived.Test.YtblipieipldanaaFA15
import Derived.Test.YtblipieipldanaaFA18
import Derived.Test.YtblipieipldanaaWGains
import Derived.Test.YtblipieipldanaaAbs41
import Derived.Test.YtblipieipldanaaMC
namespace Go.Proofs.Ytblipieipldanaa
open Go.Ab Go.RowKit Go.Dw Go.Shelf

def cuF : MF := ⟨[(.s nShel, .agg [.sl 1 2 fun i => List.take 1 (List.drop (i * 1) [.i 32, .i 16]), .sl 1 2 fun i => List.take 1 (List.drop (i * 1) [.i 96, .i 32]), .i 256]), (.s nBright, .agg [.sl 1 1 fun i => List.take 1 (List.drop (i * 1) [.i (-192)]), .nil, .i 256]), (.s nWarm, .agg [.sl 1 1 fun i => List.take 1 (List.drop (i * 1) [.i 64]), .sl 1 1 fun i => List.take 1 (List.drop (i * 1) [.i 128]), .i 256]), (.s nFlat, .agg [.nil, .nil, .i 1])], fun _ => none⟩
set_option maxRecDepth 100000 in
theorem curvesF_ac : AC Try.prog 72 [] (.own 0) [.mp (true, 4) cuF] := by
  refine ac_intro hTT hMX (fn := Try.f72) (N := _) ⟨Try.func72, rfl, Try.ntmps72, by kernel_rfl⟩ (by simp) fun C hC hF => ?_
  refine aw_seq_k fun K hK => ?_
  refine w_region (n' := 2) (by kernel_rfl) (by kernel_rfl) ?_
  refine aops_n hTT (M := []) (n := 1) [pv (0 : Nat) (V.c (Value.map none))] (by kernel_rfl) (by kernel_rfl) True.intro ?_
  refine aops_nil ?_
  refine xt_n ?_
  refine hK _ ?_
  clear hK K
  refine aw_seq_k fun K hK => ?_
  refine w_region (n' := 3) (by kernel_rfl) (by kernel_rfl) ?_
  refine aops_n hTT (M := []) (n := 16) [pn (1 : Nat) (V.own (200001 : Nat)) (200001 : Nat) (Ob.mp (true, (0 : Nat)) (MF.mk [] fun (x : MK) => none)), pv (2 : Nat) (V.agg [V.nil, V.nil, V.i (1 : Int)]), PR.mk none none V.any [((200001 : Nat), some (Ob.mp (true, (1 : Nat)) (MF.mk [(MK.s (ByteArray.mk #[(102 : UInt8), (108 : UInt8), (97 : UInt8), (116 : UInt8)]), V.agg [V.nil, V.nil, V.i (1 : Int)])] (MF.rest (MF.mk [] fun (x : MK) => none)))))] false, pv (3 : Nat) (V.sl (1 : Nat) (1 : Nat) fun (i : Nat) => List.take (1 : Nat) (List.drop (i * (1 : Nat)) [V.i (64 : Int)])), pv (4 : Nat) (V.sl (1 : Nat) (1 : Nat) fun (i : Nat) => List.take (1 : Nat) (List.drop (i * (1 : Nat)) [V.i (128 : Int)])), pv (5 : Nat) (V.agg [V.sl (1 : Nat) (1 : Nat) fun (i : Nat) => List.take (1 : Nat) (List.drop (i * (1 : Nat)) [V.i (64 : Int)]), V.sl (1 : Nat) (1 : Nat) fun (i : Nat) => List.take (1 : Nat) (List.drop (i * (1 : Nat)) [V.i (128 : Int)]), V.i (256 : Int)]), PR.mk none none V.any [((200001 : Nat), some (Ob.mp (true, (2 : Nat)) (MF.mk [(MK.s (ByteArray.mk #[(119 : UInt8), (97 : UInt8), (114 : UInt8), (109 : UInt8)]), V.agg [V.sl (1 : Nat) (1 : Nat) fun (i : Nat) => List.take (1 : Nat) (List.drop (i * (1 : Nat)) [V.i (64 : Int)]), V.sl (1 : Nat) (1 : Nat) fun (i : Nat) => List.take (1 : Nat) (List.drop (i * (1 : Nat)) [V.i (128 : Int)]), V.i (256 : Int)]), (MK.s (ByteArray.mk #[(102 : UInt8), (108 : UInt8), (97 : UInt8), (116 : UInt8)]), V.agg [V.nil, V.nil, V.i (1 : Int)])] (MF.rest (MF.mk [(MK.s (ByteArray.mk #[(102 : UInt8), (108 : UInt8), (97 : UInt8), (116 : UInt8)]), V.agg [V.nil, V.nil, V.i (1 : Int)])] (MF.rest (MF.mk [] fun (x : MK) => none)))))))] false, pv (6 : Nat) (V.sl (1 : Nat) (1 : Nat) fun (i : Nat) => List.take (1 : Nat) (List.drop (i * (1 : Nat)) [V.i (-192 : Int)])), pv (7 : Nat) (V.agg [V.sl (1 : Nat) (1 : Nat) fun (i : Nat) => List.take (1 : Nat) (List.drop (i * (1 : Nat)) [V.i (-192 : Int)]), V.nil, V.i (256 : Int)]), PR.mk none none V.any [((200001 : Nat), some (Ob.mp (true, (3 : Nat)) (MF.mk [(MK.s (ByteArray.mk #[(98 : UInt8), (114 : UInt8), (105 : UInt8), (103 : UInt8), (104 : UInt8), (116 : UInt8)]), V.agg [V.sl (1 : Nat) (1 : Nat) fun (i : Nat) => List.take (1 : Nat) (List.drop (i * (1 : Nat)) [V.i (-192 : Int)]), V.nil, V.i (256 : Int)]), (MK.s (ByteArray.mk #[(119 : UInt8), (97 : UInt8), (114 : UInt8), (109 : UInt8)]), V.agg [V.sl (1 : Nat) (1 : Nat) fun (i : Nat) => List.take (1 : Nat) (List.drop (i * (1 : Nat)) [V.i (64 : Int)]), V.sl (1 : Nat) (1 : Nat) fun (i : Nat) => List.take (1 : Nat) (List.drop (i * (1 : Nat)) [V.i (128 : Int)]), V.i (256 : Int)]), (MK.s (ByteArray.mk #[(102 : UInt8), (108 : UInt8), (97 : UInt8), (116 : UInt8)]), V.agg [V.nil, V.nil, V.i (1 : Int)])] (MF.rest (MF.mk [(MK.s (ByteArray.mk #[(119 : UInt8), (97 : UInt8), (114 : UInt8), (109 : UInt8)]), V.agg [V.sl (1 : Nat) (1 : Nat) fun (i : Nat) => List.take (1 : Nat) (List.drop (i * (1 : Nat)) [V.i (64 : Int)]), V.sl (1 : Nat) (1 : Nat) fun (i : Nat) => List.take (1 : Nat) (List.drop (i * (1 : Nat)) [V.i (128 : Int)]), V.i (256 : Int)]), (MK.s (ByteArray.mk #[(102 : UInt8), (108 : UInt8), (97 : UInt8), (116 : UInt8)]), V.agg [V.nil, V.nil, V.i (1 : Int)])] (MF.rest (MF.mk [(MK.s (ByteArray.mk #[(102 : UInt8), (108 : UInt8), (97 : UInt8), (116 : UInt8)]), V.agg [V.nil, V.nil, V.i (1 : Int)])] (MF.rest (MF.mk [] fun (x : MK) => none)))))))))] false, pv (8 : Nat) (V.sl (1 : Nat) (2 : Nat) fun (i : Nat) => List.take (1 : Nat) (List.drop (i * (1 : Nat)) [V.i (32 : Int), V.i (16 : Int)])), pv (9 : Nat) (V.sl (1 : Nat) (2 : Nat) fun (i : Nat) => List.take (1 : Nat) (List.drop (i * (1 : Nat)) [V.i (96 : Int), V.i (32 : Int)])), pv (10 : Nat) (V.agg [V.sl (1 : Nat) (2 : Nat) fun (i : Nat) => List.take (1 : Nat) (List.drop (i * (1 : Nat)) [V.i (32 : Int), V.i (16 : Int)]), V.sl (1 : Nat) (2 : Nat) fun (i : Nat) => List.take (1 : Nat) (List.drop (i * (1 : Nat)) [V.i (96 : Int), V.i (32 : Int)]), V.i (256 : Int)]), PR.mk none none V.any [((200001 : Nat), some (Ob.mp (true, (4 : Nat)) (MF.mk [(MK.s (ByteArray.mk #[(115 : UInt8), (104 : UInt8), (101 : UInt8), (108 : UInt8), (108 : UInt8), (97 : UInt8), (99 : UInt8)]), V.agg [V.sl (1 : Nat) (2 : Nat) fun (i : Nat) => List.take (1 : Nat) (List.drop (i * (1 : Nat)) [V.i (32 : Int), V.i (16 : Int)]), V.sl (1 : Nat) (2 : Nat) fun (i : Nat) => List.take (1 : Nat) (List.drop (i * (1 : Nat)) [V.i (96 : Int), V.i (32 : Int)]), V.i (256 : Int)]), (MK.s (ByteArray.mk #[(98 : UInt8), (114 : UInt8), (105 : UInt8), (103 : UInt8), (104 : UInt8), (116 : UInt8)]), V.agg [V.sl (1 : Nat) (1 : Nat) fun (i : Nat) => List.take (1 : Nat) (List.drop (i * (1 : Nat)) [V.i (-192 : Int)]), V.nil, V.i (256 : Int)]), (MK.s (ByteArray.mk #[(119 : UInt8), (97 : UInt8), (114 : UInt8), (109 : UInt8)]), V.agg [V.sl (1 : Nat) (1 : Nat) fun (i : Nat) => List.take (1 : Nat) (List.drop (i * (1 : Nat)) [V.i (64 : Int)]), V.sl (1 : Nat) (1 : Nat) fun (i : Nat) => List.take (1 : Nat) (List.drop (i * (1 : Nat)) [V.i (128 : Int)]), V.i (256 : Int)]), (MK.s (ByteArray.mk #[(102 : UInt8), (108 : UInt8), (97 : UInt8), (116 : UInt8)]), V.agg [V.nil, V.nil, V.i (1 : Int)])] (MF.rest (MF.mk [(MK.s (ByteArray.mk #[(98 : UInt8), (114 : UInt8), (105 : UInt8), (103 : UInt8), (104 : UInt8), (116 : UInt8)]), V.agg [V.sl (1 : Nat) (1 : Nat) fun (i : Nat) => List.take (1 : Nat) (List.drop (i * (1 : Nat)) [V.i (-192 : Int)]), V.nil, V.i (256 : Int)]), (MK.s (ByteArray.mk #[(119 : UInt8), (97 : UInt8), (114 : UInt8), (109 : UInt8)]), V.agg [V.sl (1 : Nat) (1 : Nat) fun (i : Nat) => List.take (1 : Nat) (List.drop (i * (1 : Nat)) [V.i (64 : Int)]), V.sl (1 : Nat) (1 : Nat) fun (i : Nat) => List.take (1 : Nat) (List.drop (i * (1 : Nat)) [V.i (128 : Int)]), V.i (256 : Int)]), (MK.s (ByteArray.mk #[(102 : UInt8), (108 : UInt8), (97 : UInt8), (116 : UInt8)]), V.agg [V.nil, V.nil, V.i (1 : Int)])] (MF.rest (MF.mk [(MK.s (ByteArray.mk #[(119 : UInt8), (97 : UInt8), (114 : UInt8), (109 : UInt8)]), V.agg [V.sl (1 : Nat) (1 : Nat) fun (i : Nat) => List.take (1 : Nat) (List.drop (i * (1 : Nat)) [V.i (64 : Int)]), V.sl (1 : Nat) (1 : Nat) fun (i : Nat) => List.take (1 : Nat) (List.drop (i * (1 : Nat)) [V.i (128 : Int)]), V.i (256 : Int)]), (MK.s (ByteArray.mk #[(102 : UInt8), (108 : UInt8), (97 : UInt8), (116 : UInt8)]), V.agg [V.nil, V.nil, V.i (1 : Int)])] (MF.rest (MF.mk [(MK.s (ByteArray.mk #[(102 : UInt8), (108 : UInt8), (97 : UInt8), (116 : UInt8)]), V.agg [V.nil, V.nil, V.i (1 : Int)])] (MF.rest (MF.mk [] fun (x : MK) => none)))))))))))] false, pv (11 : Nat) (V.own (200001 : Nat)), pv (0 : Nat) (V.own (200001 : Nat))] (by kernel_rfl) (by kernel_rfl) True.intro ?_
  refine aops_nil ?_
  refine xt_n ?_
  refine hK _ ?_
  clear hK K
  refine aw_ret ?_
  refine ret_own [(0, 200001)] [(0, V.own (0 : Nat))] (.inr rfl) (.cons (by kernel_rfl) .nil) (.cons ⟨Ob.mp (true, (4 : Nat)) (MF.mk [(MK.s (ByteArray.mk #[(115 : UInt8), (104 : UInt8), (101 : UInt8), (108 : UInt8), (108 : UInt8), (97 : UInt8), (99 : UInt8)]), V.agg [V.sl (1 : Nat) (2 : Nat) fun (i : Nat) => List.take (1 : Nat) (List.drop (i * (1 : Nat)) [V.i (32 : Int), V.i (16 : Int)]), V.sl (1 : Nat) (2 : Nat) fun (i : Nat) => List.take (1 : Nat) (List.drop (i * (1 : Nat)) [V.i (96 : Int), V.i (32 : Int)]), V.i (256 : Int)]), (MK.s (ByteArray.mk #[(98 : UInt8), (114 : UInt8), (105 : UInt8), (103 : UInt8), (104 : UInt8), (116 : UInt8)]), V.agg [V.sl (1 : Nat) (1 : Nat) fun (i : Nat) => List.take (1 : Nat) (List.drop (i * (1 : Nat)) [V.i (-192 : Int)]), V.nil, V.i (256 : Int)]), (MK.s (ByteArray.mk #[(119 : UInt8), (97 : UInt8), (114 : UInt8), (109 : UInt8)]), V.agg [V.sl (1 : Nat) (1 : Nat) fun (i : Nat) => List.take (1 : Nat) (List.drop (i * (1 : Nat)) [V.i (64 : Int)]), V.sl (1 : Nat) (1 : Nat) fun (i : Nat) => List.take (1 : Nat) (List.drop (i * (1 : Nat)) [V.i (128 : Int)]), V.i (256 : Int)]), (MK.s (ByteArray.mk #[(102 : UInt8), (108 : UInt8), (97 : UInt8), (116 : UInt8)]), V.agg [V.nil, V.nil, V.i (1 : Int)])] (MF.rest (MF.mk [(MK.s (ByteArray.mk #[(98 : UInt8), (114 : UInt8), (105 : UInt8), (103 : UInt8), (104 : UInt8), (116 : UInt8)]), V.agg [V.sl (1 : Nat) (1 : Nat) fun (i : Nat) => List.take (1 : Nat) (List.drop (i * (1 : Nat)) [V.i (-192 : Int)]), V.nil, V.i (256 : Int)]), (MK.s (ByteArray.mk #[(119 : UInt8), (97 : UInt8), (114 : UInt8), (109 : UInt8)]), V.agg [V.sl (1 : Nat) (1 : Nat) fun (i : Nat) => List.take (1 : Nat) (List.drop (i * (1 : Nat)) [V.i (64 : Int)]), V.sl (1 : Nat) (1 : Nat) fun (i : Nat) => List.take (1 : Nat) (List.drop (i * (1 : Nat)) [V.i (128 : Int)]), V.i (256 : Int)]), (MK.s (ByteArray.mk #[(102 : UInt8), (108 : UInt8), (97 : UInt8), (116 : UInt8)]), V.agg [V.nil, V.nil, V.i (1 : Int)])] (MF.rest (MF.mk [(MK.s (ByteArray.mk #[(119 : UInt8), (97 : UInt8), (114 : UInt8), (109 : UInt8)]), V.agg [V.sl (1 : Nat) (1 : Nat) fun (i : Nat) => List.take (1 : Nat) (List.drop (i * (1 : Nat)) [V.i (64 : Int)]), V.sl (1 : Nat) (1 : Nat) fun (i : Nat) => List.take (1 : Nat) (List.drop (i * (1 : Nat)) [V.i (128 : Int)]), V.i (256 : Int)]), (MK.s (ByteArray.mk #[(102 : UInt8), (108 : UInt8), (97 : UInt8), (116 : UInt8)]), V.agg [V.nil, V.nil, V.i (1 : Int)])] (MF.rest (MF.mk [(MK.s (ByteArray.mk #[(102 : UInt8), (108 : UInt8), (97 : UInt8), (116 : UInt8)]), V.agg [V.nil, V.nil, V.i (1 : Int)])] (MF.rest (MF.mk [] fun (x : MK) => none))))))))), (by kernel_rfl), .mp (fun _ => rfl)⟩ .nil) (by kernel_rfl) (by kernel_rfl) (by kernel_rfl) (by kernel_rfl)
set_option maxRecDepth 100000 in
theorem NfW0_ac : AC Try.prog 42 [.c (.string nWarm)] (.tup [.agg [.sl 1 1 fun i => List.take 1 (List.drop (i * 1) [.i 64]), .sl 1 1 fun i => List.take 1 (List.drop (i * 1) [.i 128]), .i 256], .i 0]) [] := by
  refine ac_intro hTT hMX (fn := Try.f42) (N := _) ⟨Try.func42, rfl, Try.ntmps42, by kernel_rfl⟩ (by simp) fun C hC hF => ?_
  refine aw_seq_k fun K hK => ?_
  refine w_region (n' := 2) (by kernel_rfl) (by kernel_rfl) ?_
  refine aops_n hTT (M := []) (n := 2) [pn (2 : Nat) (V.ref (100002 : Nat) (0 : Nat)) (100002 : Nat) (Ob.box (24 : Nat) [V.nil, V.nil, V.i (0 : Int)]), pv (3 : Nat) (V.i (0 : Int))] (by kernel_rfl) (by kernel_rfl) True.intro ?_
  refine aops_nil ?_
  refine xt_n ?_
  refine hK _ ?_
  clear hK K
  refine aw_seq_k fun K hK => ?_
  refine w_region (n' := 3) (by kernel_rfl) (by kernel_rfl) ?_
  refine e_callO (first := []) (caps := []) (k := 200007) (v' := V.own (200007 : Nat)) (ob' := Ob.mp (true, (4 : Nat)) (MF.mk [(MK.s nShel, V.agg [V.sl (1 : Nat) (2 : Nat) fun (i : Nat) => List.take (1 : Nat) (List.drop (i * (1 : Nat)) [V.i (32 : Int), V.i (16 : Int)]), V.sl (1 : Nat) (2 : Nat) fun (i : Nat) => List.take (1 : Nat) (List.drop (i * (1 : Nat)) [V.i (96 : Int), V.i (32 : Int)]), V.i (256 : Int)]), (MK.s nBright, V.agg [V.sl (1 : Nat) (1 : Nat) fun (i : Nat) => List.take (1 : Nat) (List.drop (i * (1 : Nat)) [V.i (-192 : Int)]), V.nil, V.i (256 : Int)]), (MK.s nWarm, V.agg [V.sl (1 : Nat) (1 : Nat) fun (i : Nat) => List.take (1 : Nat) (List.drop (i * (1 : Nat)) [V.i (64 : Int)]), V.sl (1 : Nat) (1 : Nat) fun (i : Nat) => List.take (1 : Nat) (List.drop (i * (1 : Nat)) [V.i (128 : Int)]), V.i (256 : Int)]), (MK.s nFlat, V.agg [V.nil, V.nil, V.i (1 : Int)])] (MF.rest cuF))) (curvesF_ac) (by kernel_rfl) (by kernel_rfl) (by kernel_rfl) (by kernel_rfl) (by kernel_rfl) (by kernel_rfl) (by kernel_rfl) ?_
  refine aops_n hTT (M := []) (n := 8) [pv (8 : Nat) (V.c (Value.string nWarm)), pv (9 : Nat) (V.tup [V.agg [V.sl (1 : Nat) (1 : Nat) fun (i : Nat) => List.take (1 : Nat) (List.drop (i * (1 : Nat)) [V.i (64 : Int)]), V.sl (1 : Nat) (1 : Nat) fun (i : Nat) => List.take (1 : Nat) (List.drop (i * (1 : Nat)) [V.i (128 : Int)]), V.i (256 : Int)], V.b true]), pv (6 : Nat) (V.tup [V.agg [V.sl (1 : Nat) (1 : Nat) fun (i : Nat) => List.take (1 : Nat) (List.drop (i * (1 : Nat)) [V.i (64 : Int)]), V.sl (1 : Nat) (1 : Nat) fun (i : Nat) => List.take (1 : Nat) (List.drop (i * (1 : Nat)) [V.i (128 : Int)]), V.i (256 : Int)], V.b true]), pv (10 : Nat) (V.agg [V.sl (1 : Nat) (1 : Nat) fun (i : Nat) => List.take (1 : Nat) (List.drop (i * (1 : Nat)) [V.i (64 : Int)]), V.sl (1 : Nat) (1 : Nat) fun (i : Nat) => List.take (1 : Nat) (List.drop (i * (1 : Nat)) [V.i (128 : Int)]), V.i (256 : Int)]), pv (11 : Nat) (V.b true), pn (4 : Nat) (V.ref (200004 : Nat) (0 : Nat)) (200004 : Nat) (Ob.box (24 : Nat) [V.nil, V.nil, V.i (0 : Int)]), pw ((0 : Nat) + (3 : Nat) ≤ (3 : Nat)) (200004 : Nat) (Ob.box (24 : Nat) [V.sl (1 : Nat) (1 : Nat) fun (i : Nat) => List.take (1 : Nat) (List.drop (i * (1 : Nat)) [V.i (64 : Int)]), V.sl (1 : Nat) (1 : Nat) fun (i : Nat) => List.take (1 : Nat) (List.drop (i * (1 : Nat)) [V.i (128 : Int)]), V.i (256 : Int)]), pv (5 : Nat) (V.b true)] (by kernel_rfl) (by kernel_rfl) ⟨(by omega), True.intro⟩ ?_
  refine aops_nil ?_
  refine xt_n ?_
  refine hK _ ?_
  clear hK K
  refine aw_seq_k fun K hK => ?_
  refine aw_seq_k fun K hK => ?_
  refine w_region (n' := 4) (by kernel_rfl) (by kernel_rfl) ?_
  refine aops_n hTT (M := []) (n := 2) [pv (12 : Nat) (V.b true), pv (13 : Nat) (V.b false)] (by kernel_rfl) (by kernel_rfl) True.intro ?_
  refine aops_nil ?_
  refine xt_n ?_
  refine hK _ ?_
  clear hK K
  refine w_false (t := false) (by kernel_rfl) rfl ?_
  refine aw_skip ?_
  refine xt_n ?_
  refine hK _ ?_
  clear hK K
  refine aw_seq_k fun K hK => ?_
  refine w_region (n' := 5) (by kernel_rfl) (by kernel_rfl) ?_
  refine aops_n hTT (M := []) (n := 3) [pc (15 : Nat) ((0 : Nat) ≤ (3 : Nat)) (V.agg [V.sl (1 : Nat) (1 : Nat) fun (i : Nat) => List.take (1 : Nat) (List.drop (i * (1 : Nat)) [V.i (64 : Int)]), V.sl (1 : Nat) (1 : Nat) fun (i : Nat) => List.take (1 : Nat) (List.drop (i * (1 : Nat)) [V.i (128 : Int)]), V.i (256 : Int)]), pw ((0 : Nat) + (3 : Nat) ≤ (3 : Nat)) (100002 : Nat) (Ob.box (24 : Nat) [V.sl (1 : Nat) (1 : Nat) fun (i : Nat) => List.take (1 : Nat) (List.drop (i * (1 : Nat)) [V.i (64 : Int)]), V.sl (1 : Nat) (1 : Nat) fun (i : Nat) => List.take (1 : Nat) (List.drop (i * (1 : Nat)) [V.i (128 : Int)]), V.i (256 : Int)]), pv (3 : Nat) (V.i (0 : Int))] (by kernel_rfl) (by kernel_rfl) ⟨(by omega), (by omega), True.intro⟩ ?_
  refine aops_nil ?_
  refine xt_n ?_
  refine hK _ ?_
  clear hK K
  refine aw_ret ?_
  refine ret_of_le (le_freezeBox (t := (24 : Nat)) (cs := [V.sl (1 : Nat) (1 : Nat) fun (i : Nat) => List.take (1 : Nat) (List.drop (i * (1 : Nat)) [V.i (64 : Int)]), V.sl (1 : Nat) (1 : Nat) fun (i : Nat) => List.take (1 : Nat) (List.drop (i * (1 : Nat)) [V.i (128 : Int)]), V.i (256 : Int)]) 100002 (by kernel_rfl) (by kernel_rfl)) ?_
  refine ret_pure (v' := V.tup [V.agg [V.sl (1 : Nat) (1 : Nat) fun (i : Nat) => List.take (1 : Nat) (List.drop (i * (1 : Nat)) [V.i (64 : Int)]), V.sl (1 : Nat) (1 : Nat) fun (i : Nat) => List.take (1 : Nat) (List.drop (i * (1 : Nat)) [V.i (128 : Int)]), V.i (256 : Int)], V.i (0 : Int)]) (.inr rfl) (by kernel_rfl) (by kernel_rfl) (by kernel_rfl)
theorem NfW_ac : AC Try.prog 42 [.c (.string nWarm)] (.tup [V.cv ⟨[64], [128], 256⟩, .i 0]) [] :=
  NfW0_ac.res rfl (RImp.tups ⟨RImp.agg ⟨RImp.lit1 [64], RImp.lit1 [128], RImp.refl _, trivial⟩, RImp.refl _, trivial⟩)
set_option maxRecDepth 100000 in
theorem NfB0_ac : AC Try.prog 42 [.c (.string nBright)] (.tup [.agg [.sl 1 1 fun i => List.take 1 (List.drop (i * 1) [.i (-192)]), .nil, .i 256], .i 0]) [] := by
  refine ac_intro hTT hMX (fn := Try.f42) (N := _) ⟨Try.func42, rfl, Try.ntmps42, by kernel_rfl⟩ (by simp) fun C hC hF => ?_
  refine aw_seq_k fun K hK => ?_
  refine w_region (n' := 2) (by kernel_rfl) (by kernel_rfl) ?_
  refine aops_n hTT (M := []) (n := 2) [pn (2 : Nat) (V.ref (100002 : Nat) (0 : Nat)) (100002 : Nat) (Ob.box (24 : Nat) [V.nil, V.nil, V.i (0 : Int)]), pv (3 : Nat) (V.i (0 : Int))] (by kernel_rfl) (by kernel_rfl) True.intro ?_
  refine aops_nil ?_
  refine xt_n ?_
  refine hK _ ?_
  clear hK K
  refine aw_seq_k fun K hK => ?_
  refine w_region (n' := 3) (by kernel_rfl) (by kernel_rfl) ?_
  refine e_callO (first := []) (caps := []) (k := 200007) (v' := V.own (200007 : Nat)) (ob' := Ob.mp (true, (4 : Nat)) (MF.mk [(MK.s nShel, V.agg [V.sl (1 : Nat) (2 : Nat) fun (i : Nat) => List.take (1 : Nat) (List.drop (i * (1 : Nat)) [V.i (32 : Int), V.i (16 : Int)]), V.sl (1 : Nat) (2 : Nat) fun (i : Nat) => List.take (1 : Nat) (List.drop (i * (1 : Nat)) [V.i (96 : Int), V.i (32 : Int)]), V.i (256 : Int)]), (MK.s nBright, V.agg [V.sl (1 : Nat) (1 : Nat) fun (i : Nat) => List.take (1 : Nat) (List.drop (i * (1 : Nat)) [V.i (-192 : Int)]), V.nil, V.i (256 : Int)]), (MK.s nWarm, V.agg [V.sl (1 : Nat) (1 : Nat) fun (i : Nat) => List.take (1 : Nat) (List.drop (i * (1 : Nat)) [V.i (64 : Int)]), V.sl (1 : Nat) (1 : Nat) fun (i : Nat) => List.take (1 : Nat) (List.drop (i * (1 : Nat)) [V.i (128 : Int)]), V.i (256 : Int)]), (MK.s nFlat, V.agg [V.nil, V.nil, V.i (1 : Int)])] (MF.rest cuF))) (curvesF_ac) (by kernel_rfl) (by kernel_rfl) (by kernel_rfl) (by kernel_rfl) (by kernel_rfl) (by kernel_rfl) (by kernel_rfl) ?_
  refine aops_n hTT (M := []) (n := 8) [pv (8 : Nat) (V.c (Value.string nBright)), pv (9 : Nat) (V.tup [V.agg [V.sl (1 : Nat) (1 : Nat) fun (i : Nat) => List.take (1 : Nat) (List.drop (i * (1 : Nat)) [V.i (-192 : Int)]), V.nil, V.i (256 : Int)], V.b true]), pv (6 : Nat) (V.tup [V.agg [V.sl (1 : Nat) (1 : Nat) fun (i : Nat) => List.take (1 : Nat) (List.drop (i * (1 : Nat)) [V.i (-192 : Int)]), V.nil, V.i (256 : Int)], V.b true]), pv (10 : Nat) (V.agg [V.sl (1 : Nat) (1 : Nat) fun (i : Nat) => List.take (1 : Nat) (List.drop (i * (1 : Nat)) [V.i (-192 : Int)]), V.nil, V.i (256 : Int)]), pv (11 : Nat) (V.b true), pn (4 : Nat) (V.ref (200004 : Nat) (0 : Nat)) (200004 : Nat) (Ob.box (24 : Nat) [V.nil, V.nil, V.i (0 : Int)]), pw ((0 : Nat) + (3 : Nat) ≤ (3 : Nat)) (200004 : Nat) (Ob.box (24 : Nat) [V.sl (1 : Nat) (1 : Nat) fun (i : Nat) => List.take (1 : Nat) (List.drop (i * (1 : Nat)) [V.i (-192 : Int)]), V.nil, V.i (256 : Int)]), pv (5 : Nat) (V.b true)] (by kernel_rfl) (by kernel_rfl) ⟨(by omega), True.intro⟩ ?_
  refine aops_nil ?_
  refine xt_n ?_
  refine hK _ ?_
  clear hK K
  refine aw_seq_k fun K hK => ?_
  refine aw_seq_k fun K hK => ?_
  refine w_region (n' := 4) (by kernel_rfl) (by kernel_rfl) ?_
  refine aops_n hTT (M := []) (n := 2) [pv (12 : Nat) (V.b true), pv (13 : Nat) (V.b false)] (by kernel_rfl) (by kernel_rfl) True.intro ?_
  refine aops_nil ?_
  refine xt_n ?_
  refine hK _ ?_
  clear hK K
  refine w_false (t := false) (by kernel_rfl) rfl ?_
  refine aw_skip ?_
  refine xt_n ?_
  refine hK _ ?_
  clear hK K
  refine aw_seq_k fun K hK => ?_
  refine w_region (n' := 5) (by kernel_rfl) (by kernel_rfl) ?_
  refine aops_n hTT (M := []) (n := 3) [pc (15 : Nat) ((0 : Nat) ≤ (3 : Nat)) (V.agg [V.sl (1 : Nat) (1 : Nat) fun (i : Nat) => List.take (1 : Nat) (List.drop (i * (1 : Nat)) [V.i (-192 : Int)]), V.nil, V.i (256 : Int)]), pw ((0 : Nat) + (3 : Nat) ≤ (3 : Nat)) (100002 : Nat) (Ob.box (24 : Nat) [V.sl (1 : Nat) (1 : Nat) fun (i : Nat) => List.take (1 : Nat) (List.drop (i * (1 : Nat)) [V.i (-192 : Int)]), V.nil, V.i (256 : Int)]), pv (3 : Nat) (V.i (0 : Int))] (by kernel_rfl) (by kernel_rfl) ⟨(by omega), (by omega), True.intro⟩ ?_
  refine aops_nil ?_
  refine xt_n ?_
  refine hK _ ?_
  clear hK K
  refine aw_ret ?_
  refine ret_of_le (le_freezeBox (t := (24 : Nat)) (cs := [V.sl (1 : Nat) (1 : Nat) fun (i : Nat) => List.take (1 : Nat) (List.drop (i * (1 : Nat)) [V.i (-192 : Int)]), V.nil, V.i (256 : Int)]) 100002 (by kernel_rfl) (by kernel_rfl)) ?_
  refine ret_pure (v' := V.tup [V.agg [V.sl (1 : Nat) (1 : Nat) fun (i : Nat) => List.take (1 : Nat) (List.drop (i * (1 : Nat)) [V.i (-192 : Int)]), V.nil, V.i (256 : Int)], V.i (0 : Int)]) (.inr rfl) (by kernel_rfl) (by kernel_rfl) (by kernel_rfl)
theorem NfB_ac : AC Try.prog 42 [.c (.string nBright)] (.tup [V.cv ⟨[-192], [], 256⟩, .i 0]) [] :=
  NfB0_ac.res rfl (RImp.tups ⟨RImp.agg ⟨RImp.lit1 [-192], RImp.nils 1 _, RImp.refl _, trivial⟩, RImp.refl _, trivial⟩)
theorem NfF_ac : AC Try.prog 42 [.c (.string nFlat)] (.tup [V.cv ⟨[], [], 1⟩, .i 0]) [] :=
  NamedF_ac.res rfl (RImp.tups ⟨RImp.agg ⟨RImp.nils 1 _, RImp.nils 1 _, RImp.refl _, trivial⟩, RImp.refl _, trivial⟩)
theorem fk1 : AC Try.prog 29 [V.cv ⟨[64], [128], 256⟩, V.ints [100, 75, 37, 15]] (.tup [V.ints [100, 0, 0, -3], .i 0]) [] := by
  have A := Undo_ac ⟨[64], [128], 256⟩ [100, 75, 37, 15] ⟨by decide, by decide⟩ (by decide)
  rw [show apR ⟨[64], [128], 256⟩ true [100, 75, 37, 15] = (0, [100, 0, 0, -3]) by decide +kernel] at A
  exact A
theorem fk2 : AC Try.prog 23 [V.cv ⟨[-192], [], 256⟩, V.ints [4, 4, -1]] (.tup [V.ints [4, 1, -4], .i 0]) [] := by
  have A := Apply_ac ⟨[-192], [], 256⟩ [4, 4, -1] ⟨by decide, by decide⟩ (by decide)
  rw [show apR ⟨[-192], [], 256⟩ false [4, 4, -1] = (0, [4, 1, -4]) by decide +kernel] at A
  exact A
theorem fk3 : AC Try.prog 61 [V.cv ⟨[64], [128], 256⟩, .i 100] (.tup [.i 251, .i 0]) [] := by
  have A := Bound_ac ⟨[64], [128], 256⟩ 100 ⟨by decide, by decide⟩
  rw [show bdR ⟨[64], [128], 256⟩ 100 = 251 by decide +kernel, show bdE ⟨[64], [128], 256⟩ 100 = 0 by decide +kernel] at A
  exact A
theorem fk4 : AC Try.prog 61 [V.cv ⟨[-192], [], 256⟩, .i 100] (.tup [.i 175, .i 0]) [] := by
  have A := Bound_ac ⟨[-192], [], 256⟩ 100 ⟨by decide, by decide⟩
  rw [show bdR ⟨[-192], [], 256⟩ 100 = 175 by decide +kernel, show bdE ⟨[-192], [], 256⟩ 100 = 0 by decide +kernel] at A
  exact A
theorem fk5 : AC Try.prog 63 [V.cv ⟨[64], [128], 256⟩] (.tup [.i 13106, .i 0]) [] := by
  have A := Headroom_ac ⟨[64], [128], 256⟩ ⟨by decide, by decide⟩
  rw [show hdR ⟨[64], [128], 256⟩ = 13106 by decide +kernel, show hdE ⟨[64], [128], 256⟩ = 0 by decide +kernel] at A
  exact A
theorem fk6 : AC Try.prog 63 [V.cv ⟨[], [], 1⟩] (.tup [.i 32767, .i 0]) [] := by
  have A := Headroom_ac ⟨[], [], 1⟩ ⟨by decide, by decide⟩
  rw [show hdR ⟨[], [], 1⟩ = 32767 by decide +kernel, show hdE ⟨[], [], 1⟩ = 0 by decide +kernel] at A
  exact A
theorem fk7 : AC Try.prog 57 [V.pts [(7, 2), (-3, 2)]] (.tup [V.ints [4, -1], V.ints [5, -5], .i 0]) [] := by
  have A := Split_ac [(7, 2), (-3, 2)] (by decide)
  rw [show spMR [(7, 2), (-3, 2)] = [4, -1] by decide +kernel, show spDR [(7, 2), (-3, 2)] = [5, -5] by decide +kernel, show progE [(7, 2), (-3, 2)] = 0 by decide +kernel] at A
  exact A
theorem fk8 : AC Try.prog 53 [V.cv ⟨[-192], [], 256⟩, V.pts [(7, 2), (7, 2)]] (.tup [V.pts [(7, 2), (5, 4)], .i 0]) [] := by
  have A := Narrow_ac ⟨[-192], [], 256⟩ [(7, 2), (7, 2)] ⟨by decide, by decide⟩ (by decide)
  rw [show sdR ⟨[-192], [], 256⟩ false [(7, 2), (7, 2)] = (0, [(7, 2), (5, 4)]) by decide +kernel] at A
  exact A
theorem fk9 : AC Try.prog 39 [V.pts [(50, 0), (400, -100), (0, 0)], .i 100] (.tup [V.ints [256, 64, 256], .i 0]) [] := by
  have A := Needs_im [(50, 0), (400, -100), (0, 0)] 100 (by decide)
  rw [show needR [(50, 0), (400, -100), (0, 0)] 100 = [256, 64, 256] by decide +kernel, show needE [(50, 0), (400, -100), (0, 0)] 100 = 0 by decide +kernel] at A
  exact A
theorem fk10 : AC Try.prog 40 [V.pts [(50, 0), (400, -100), (0, 0)], .i 100, .i 50] (.tup [V.pts [(22, 0), (100, -25), (0, 0)], .i 0]) [] := by
  have A := Limit_ac [(50, 0), (400, -100), (0, 0)] 100 50 (by decide)
  rw [show limR [(50, 0), (400, -100), (0, 0)] 100 50 = [(22, 0), (100, -25), (0, 0)] by decide +kernel, show gainE [(50, 0), (400, -100), (0, 0)] 100 50 = 0 by decide +kernel] at A
  exact A
theorem fk11 : AC Try.prog 50 [V.pts [(50, 0), (400, -100), (0, 0)], .i 100, .i 50, V.ints [114, 64, 115]] (.tup [.i 2, .i 20]) [] := by
  have A := CheckGains_ac [(50, 0), (400, -100), (0, 0)] 100 50 [114, 64, 115] (by decide) (by decide)
  rw [show ckI [(50, 0), (400, -100), (0, 0)] 100 50 [114, 64, 115] = (2, 20) by decide +kernel] at A
  exact A
set_option maxHeartbeats 2000000 in
set_option maxRecDepth 100000 in
theorem fknown_law : AC Try.prog 19 [] (.b true) [] := by
  refine ac_intro hTT hMX (fn := Try.f19) (N := _) ⟨Try.func19, rfl, Try.ntmps19, by kernel_rfl⟩ (by simp) fun C hC hF => ?_
  refine aw_seq_k fun K hK => ?_
  refine w_region (n' := 2) (by kernel_rfl) (by kernel_rfl) ?_
  refine aops_n hTT (M := []) (n := 1) [pv (0 : Nat) (V.b false)] (by kernel_rfl) (by kernel_rfl) True.intro ?_
  refine aops_nil ?_
  refine xt_n ?_
  refine hK _ ?_
  clear hK K
  refine aw_seq_k fun K hK => ?_
  refine w_region (n' := 3) (by kernel_rfl) (by kernel_rfl) ?_
  refine e_call (first := []) (caps := []) (NfW_ac) (by kernel_rfl) (by kernel_rfl) (by kernel_rfl) (by kernel_rfl) (by kernel_rfl) ?_
  refine aops_n hTT (M := []) (n := 6) [pv (26 : Nat) (V.tup [V.agg [V.sl (1 : Nat) (1 : Nat) fun (k : Nat) => [V.i (gi (Cv.feed (Cv.mk [(64 : Int)] [(128 : Int)] (256 : Int))) k)], V.sl (1 : Nat) (1 : Nat) fun (k : Nat) => [V.i (gi (Cv.back (Cv.mk [(64 : Int)] [(128 : Int)] (256 : Int))) k)], V.i (Cv.share (Cv.mk [(64 : Int)] [(128 : Int)] (256 : Int)))], V.i (0 : Int)]), pv (28 : Nat) (V.agg [V.sl (1 : Nat) (1 : Nat) fun (k : Nat) => [V.i (gi (Cv.feed (Cv.mk [(64 : Int)] [(128 : Int)] (256 : Int))) k)], V.sl (1 : Nat) (1 : Nat) fun (k : Nat) => [V.i (gi (Cv.back (Cv.mk [(64 : Int)] [(128 : Int)] (256 : Int))) k)], V.i (Cv.share (Cv.mk [(64 : Int)] [(128 : Int)] (256 : Int)))]), pv (29 : Nat) (V.i (0 : Int)), pn (1 : Nat) (V.ref (200001 : Nat) (0 : Nat)) (200001 : Nat) (Ob.box (24 : Nat) [V.nil, V.nil, V.i (0 : Int)]), pw ((0 : Nat) + (3 : Nat) ≤ (3 : Nat)) (200001 : Nat) (Ob.box (24 : Nat) [V.sl (1 : Nat) (1 : Nat) fun (k : Nat) => [V.i (gi (Cv.feed (Cv.mk [(64 : Int)] [(128 : Int)] (256 : Int))) k)], V.sl (1 : Nat) (1 : Nat) fun (k : Nat) => [V.i (gi (Cv.back (Cv.mk [(64 : Int)] [(128 : Int)] (256 : Int))) k)], V.i (Cv.share (Cv.mk [(64 : Int)] [(128 : Int)] (256 : Int)))]), pv (2 : Nat) (V.i (0 : Int))] (by kernel_rfl) (by kernel_rfl) ⟨(by omega), True.intro⟩ ?_
  refine aops_nil ?_
  refine xt_n ?_
  refine hK _ ?_
  clear hK K
  refine aw_seq_k fun K hK => ?_
  refine w_region (n' := 4) (by kernel_rfl) (by kernel_rfl) ?_
  refine e_call (first := []) (caps := []) (NfB_ac) (by kernel_rfl) (by kernel_rfl) (by kernel_rfl) (by kernel_rfl) (by kernel_rfl) ?_
  refine aops_n hTT (M := []) (n := 6) [pv (30 : Nat) (V.tup [V.agg [V.sl (1 : Nat) (1 : Nat) fun (k : Nat) => [V.i (gi (Cv.feed (Cv.mk [(-192 : Int)] [] (256 : Int))) k)], V.sl (1 : Nat) (0 : Nat) fun (k : Nat) => [V.i (gi (Cv.back (Cv.mk [(-192 : Int)] [] (256 : Int))) k)], V.i (Cv.share (Cv.mk [(-192 : Int)] [] (256 : Int)))], V.i (0 : Int)]), pv (32 : Nat) (V.agg [V.sl (1 : Nat) (1 : Nat) fun (k : Nat) => [V.i (gi (Cv.feed (Cv.mk [(-192 : Int)] [] (256 : Int))) k)], V.sl (1 : Nat) (0 : Nat) fun (k : Nat) => [V.i (gi (Cv.back (Cv.mk [(-192 : Int)] [] (256 : Int))) k)], V.i (Cv.share (Cv.mk [(-192 : Int)] [] (256 : Int)))]), pv (33 : Nat) (V.i (0 : Int)), pn (3 : Nat) (V.ref (300003 : Nat) (0 : Nat)) (300003 : Nat) (Ob.box (24 : Nat) [V.nil, V.nil, V.i (0 : Int)]), pw ((0 : Nat) + (3 : Nat) ≤ (3 : Nat)) (300003 : Nat) (Ob.box (24 : Nat) [V.sl (1 : Nat) (1 : Nat) fun (k : Nat) => [V.i (gi (Cv.feed (Cv.mk [(-192 : Int)] [] (256 : Int))) k)], V.sl (1 : Nat) (0 : Nat) fun (k : Nat) => [V.i (gi (Cv.back (Cv.mk [(-192 : Int)] [] (256 : Int))) k)], V.i (Cv.share (Cv.mk [(-192 : Int)] [] (256 : Int)))]), pv (4 : Nat) (V.i (0 : Int))] (by kernel_rfl) (by kernel_rfl) ⟨(by omega), True.intro⟩ ?_
  refine aops_nil ?_
  refine xt_n ?_
  refine hK _ ?_
  clear hK K
  refine aw_seq_k fun K hK => ?_
  refine w_region (n' := 5) (by kernel_rfl) (by kernel_rfl) ?_
  refine e_call (first := []) (caps := []) (NfF_ac) (by kernel_rfl) (by kernel_rfl) (by kernel_rfl) (by kernel_rfl) (by kernel_rfl) ?_
  refine aops_n hTT (M := []) (n := 6) [pv (34 : Nat) (V.tup [V.agg [V.sl (1 : Nat) (0 : Nat) fun (k : Nat) => [V.i (gi (Cv.feed (Cv.mk [] [] (1 : Int))) k)], V.sl (1 : Nat) (0 : Nat) fun (k : Nat) => [V.i (gi (Cv.back (Cv.mk [] [] (1 : Int))) k)], V.i (Cv.share (Cv.mk [] [] (1 : Int)))], V.i (0 : Int)]), pv (36 : Nat) (V.agg [V.sl (1 : Nat) (0 : Nat) fun (k : Nat) => [V.i (gi (Cv.feed (Cv.mk [] [] (1 : Int))) k)], V.sl (1 : Nat) (0 : Nat) fun (k : Nat) => [V.i (gi (Cv.back (Cv.mk [] [] (1 : Int))) k)], V.i (Cv.share (Cv.mk [] [] (1 : Int)))]), pv (37 : Nat) (V.i (0 : Int)), pn (5 : Nat) (V.ref (400005 : Nat) (0 : Nat)) (400005 : Nat) (Ob.box (24 : Nat) [V.nil, V.nil, V.i (0 : Int)]), pw ((0 : Nat) + (3 : Nat) ≤ (3 : Nat)) (400005 : Nat) (Ob.box (24 : Nat) [V.sl (1 : Nat) (0 : Nat) fun (k : Nat) => [V.i (gi (Cv.feed (Cv.mk [] [] (1 : Int))) k)], V.sl (1 : Nat) (0 : Nat) fun (k : Nat) => [V.i (gi (Cv.back (Cv.mk [] [] (1 : Int))) k)], V.i (Cv.share (Cv.mk [] [] (1 : Int)))]), pv (6 : Nat) (V.i (0 : Int))] (by kernel_rfl) (by kernel_rfl) ⟨(by omega), True.intro⟩ ?_
  refine aops_nil ?_
  refine xt_n ?_
  refine hK _ ?_
  clear hK K
  refine aw_seq_k fun K hK => ?_
  refine w_region (n' := 6) (by kernel_rfl) (by kernel_rfl) ?_
  refine aops_n hTT (M := []) (n := 2) [pc (39 : Nat) ((0 : Nat) ≤ (3 : Nat)) (V.agg [V.sl (1 : Nat) (1 : Nat) fun (k : Nat) => [V.i (gi (Cv.feed (Cv.mk [(64 : Int)] [(128 : Int)] (256 : Int))) k)], V.sl (1 : Nat) (1 : Nat) fun (k : Nat) => [V.i (gi (Cv.back (Cv.mk [(64 : Int)] [(128 : Int)] (256 : Int))) k)], V.i (Cv.share (Cv.mk [(64 : Int)] [(128 : Int)] (256 : Int)))]), pv (40 : Nat) (V.sl (1 : Nat) (4 : Nat) fun (i : Nat) => List.take (1 : Nat) (List.drop (i * (1 : Nat)) [V.i (100 : Int), V.i (75 : Int), V.i (37 : Int), V.i (15 : Int)]))] (by kernel_rfl) (by kernel_rfl) ⟨(by omega), True.intro⟩ ?_
  refine e_call (first := []) (caps := []) (AC.conv (fk1) (args' := [V.agg [V.sl (1 : Nat) (1 : Nat) fun (k : Nat) => [V.i (gi (Cv.feed (Cv.mk [(64 : Int)] [(128 : Int)] (256 : Int))) k)], V.sl (1 : Nat) (1 : Nat) fun (k : Nat) => [V.i (gi (Cv.back (Cv.mk [(64 : Int)] [(128 : Int)] (256 : Int))) k)], V.i (Cv.share (Cv.mk [(64 : Int)] [(128 : Int)] (256 : Int)))], V.sl (1 : Nat) (4 : Nat) fun (i : Nat) => List.take (1 : Nat) (List.drop (i * (1 : Nat)) [V.i (100 : Int), V.i (75 : Int), V.i (37 : Int), V.i (15 : Int)])]) ⟨RImp.refl _, ?_, trivial⟩) (by kernel_rfl) (by kernel_rfl) (by kernel_rfl) (by kernel_rfl) (by kernel_rfl) ?_
  · exact RImp.lit1 [100, 75, 37, 15]
  refine aops_n hTT (M := []) (n := 5) [pv (38 : Nat) (V.tup [V.sl (1 : Nat) (4 : Nat) fun (k : Nat) => [V.i (gi [(100 : Int), (0 : Int), (0 : Int), (-3 : Int)] k)], V.i (0 : Int)]), pv (42 : Nat) (V.sl (1 : Nat) (4 : Nat) fun (k : Nat) => [V.i (gi [(100 : Int), (0 : Int), (0 : Int), (-3 : Int)] k)]), pv (43 : Nat) (V.i (0 : Int)), pv (7 : Nat) (V.sl (1 : Nat) (4 : Nat) fun (k : Nat) => [V.i (gi [(100 : Int), (0 : Int), (0 : Int), (-3 : Int)] k)]), pv (8 : Nat) (V.i (0 : Int))] (by kernel_rfl) (by kernel_rfl) True.intro ?_
  refine aops_nil ?_
  refine xt_n ?_
  refine hK _ ?_
  clear hK K
  refine aw_seq_k fun K hK => ?_
  refine w_region (n' := 7) (by kernel_rfl) (by kernel_rfl) ?_
  refine aops_n hTT (M := []) (n := 2) [pc (45 : Nat) ((0 : Nat) ≤ (3 : Nat)) (V.agg [V.sl (1 : Nat) (1 : Nat) fun (k : Nat) => [V.i (gi (Cv.feed (Cv.mk [(-192 : Int)] [] (256 : Int))) k)], V.sl (1 : Nat) (0 : Nat) fun (k : Nat) => [V.i (gi (Cv.back (Cv.mk [(-192 : Int)] [] (256 : Int))) k)], V.i (Cv.share (Cv.mk [(-192 : Int)] [] (256 : Int)))]), pv (46 : Nat) (V.sl (1 : Nat) (3 : Nat) fun (i : Nat) => List.take (1 : Nat) (List.drop (i * (1 : Nat)) [V.i (4 : Int), V.i (4 : Int), V.i (-1 : Int)]))] (by kernel_rfl) (by kernel_rfl) ⟨(by omega), True.intro⟩ ?_
  refine e_call (first := []) (caps := []) (AC.conv (fk2) (args' := [V.agg [V.sl (1 : Nat) (1 : Nat) fun (k : Nat) => [V.i (gi (Cv.feed (Cv.mk [(-192 : Int)] [] (256 : Int))) k)], V.sl (1 : Nat) (0 : Nat) fun (k : Nat) => [V.i (gi (Cv.back (Cv.mk [(-192 : Int)] [] (256 : Int))) k)], V.i (Cv.share (Cv.mk [(-192 : Int)] [] (256 : Int)))], V.sl (1 : Nat) (3 : Nat) fun (i : Nat) => List.take (1 : Nat) (List.drop (i * (1 : Nat)) [V.i (4 : Int), V.i (4 : Int), V.i (-1 : Int)])]) ⟨RImp.refl _, ?_, trivial⟩) (by kernel_rfl) (by kernel_rfl) (by kernel_rfl) (by kernel_rfl) (by kernel_rfl) ?_
  · exact RImp.lit1 [4, 4, -1]
  refine aops_n hTT (M := []) (n := 5) [pv (44 : Nat) (V.tup [V.sl (1 : Nat) (3 : Nat) fun (k : Nat) => [V.i (gi [(4 : Int), (1 : Int), (-4 : Int)] k)], V.i (0 : Int)]), pv (48 : Nat) (V.sl (1 : Nat) (3 : Nat) fun (k : Nat) => [V.i (gi [(4 : Int), (1 : Int), (-4 : Int)] k)]), pv (49 : Nat) (V.i (0 : Int)), pv (9 : Nat) (V.sl (1 : Nat) (3 : Nat) fun (k : Nat) => [V.i (gi [(4 : Int), (1 : Int), (-4 : Int)] k)]), pv (10 : Nat) (V.i (0 : Int))] (by kernel_rfl) (by kernel_rfl) True.intro ?_
  refine aops_nil ?_
  refine xt_n ?_
  refine hK _ ?_
  clear hK K
  refine aw_seq_k fun K hK => ?_
  refine w_region (n' := 8) (by kernel_rfl) (by kernel_rfl) ?_
  refine aops_n hTT (M := []) (n := 1) [pc (51 : Nat) ((0 : Nat) ≤ (3 : Nat)) (V.agg [V.sl (1 : Nat) (1 : Nat) fun (k : Nat) => [V.i (gi (Cv.feed (Cv.mk [(64 : Int)] [(128 : Int)] (256 : Int))) k)], V.sl (1 : Nat) (1 : Nat) fun (k : Nat) => [V.i (gi (Cv.back (Cv.mk [(64 : Int)] [(128 : Int)] (256 : Int))) k)], V.i (Cv.share (Cv.mk [(64 : Int)] [(128 : Int)] (256 : Int)))])] (by kernel_rfl) (by kernel_rfl) ⟨(by omega), True.intro⟩ ?_
  refine e_call (first := []) (caps := []) (fk3) (by kernel_rfl) (by kernel_rfl) (by kernel_rfl) (by kernel_rfl) (by kernel_rfl) ?_
  refine aops_n hTT (M := []) (n := 5) [pv (50 : Nat) (V.tup [V.i (251 : Int), V.i (0 : Int)]), pv (53 : Nat) (V.i (251 : Int)), pv (54 : Nat) (V.i (0 : Int)), pv (11 : Nat) (V.i (251 : Int)), pv (12 : Nat) (V.i (0 : Int))] (by kernel_rfl) (by kernel_rfl) True.intro ?_
  refine aops_nil ?_
  refine xt_n ?_
  refine hK _ ?_
  clear hK K
  refine aw_seq_k fun K hK => ?_
  refine w_region (n' := 9) (by kernel_rfl) (by kernel_rfl) ?_
  refine aops_n hTT (M := []) (n := 1) [pc (56 : Nat) ((0 : Nat) ≤ (3 : Nat)) (V.agg [V.sl (1 : Nat) (1 : Nat) fun (k : Nat) => [V.i (gi (Cv.feed (Cv.mk [(-192 : Int)] [] (256 : Int))) k)], V.sl (1 : Nat) (0 : Nat) fun (k : Nat) => [V.i (gi (Cv.back (Cv.mk [(-192 : Int)] [] (256 : Int))) k)], V.i (Cv.share (Cv.mk [(-192 : Int)] [] (256 : Int)))])] (by kernel_rfl) (by kernel_rfl) ⟨(by omega), True.intro⟩ ?_
  refine e_call (first := []) (caps := []) (fk4) (by kernel_rfl) (by kernel_rfl) (by kernel_rfl) (by kernel_rfl) (by kernel_rfl) ?_
  refine aops_n hTT (M := []) (n := 5) [pv (55 : Nat) (V.tup [V.i (175 : Int), V.i (0 : Int)]), pv (58 : Nat) (V.i (175 : Int)), pv (59 : Nat) (V.i (0 : Int)), pv (13 : Nat) (V.i (175 : Int)), pv (14 : Nat) (V.i (0 : Int))] (by kernel_rfl) (by kernel_rfl) True.intro ?_
  refine aops_nil ?_
  refine xt_n ?_
  refine hK _ ?_
  clear hK K
  refine aw_seq_k fun K hK => ?_
  refine w_region (n' := 10) (by kernel_rfl) (by kernel_rfl) ?_
  refine aops_n hTT (M := []) (n := 1) [pc (61 : Nat) ((0 : Nat) ≤ (3 : Nat)) (V.agg [V.sl (1 : Nat) (1 : Nat) fun (k : Nat) => [V.i (gi (Cv.feed (Cv.mk [(64 : Int)] [(128 : Int)] (256 : Int))) k)], V.sl (1 : Nat) (1 : Nat) fun (k : Nat) => [V.i (gi (Cv.back (Cv.mk [(64 : Int)] [(128 : Int)] (256 : Int))) k)], V.i (Cv.share (Cv.mk [(64 : Int)] [(128 : Int)] (256 : Int)))])] (by kernel_rfl) (by kernel_rfl) ⟨(by omega), True.intro⟩ ?_
  refine e_call (first := []) (caps := []) (fk5) (by kernel_rfl) (by kernel_rfl) (by kernel_rfl) (by kernel_rfl) (by kernel_rfl) ?_
  refine aops_n hTT (M := []) (n := 5) [pv (60 : Nat) (V.tup [V.i (13106 : Int), V.i (0 : Int)]), pv (63 : Nat) (V.i (13106 : Int)), pv (64 : Nat) (V.i (0 : Int)), pv (15 : Nat) (V.i (13106 : Int)), pv (16 : Nat) (V.i (0 : Int))] (by kernel_rfl) (by kernel_rfl) True.intro ?_
  refine aops_nil ?_
  refine xt_n ?_
  refine hK _ ?_
  clear hK K
  refine aw_seq_k fun K hK => ?_
  refine w_region (n' := 11) (by kernel_rfl) (by kernel_rfl) ?_
  refine aops_n hTT (M := []) (n := 1) [pc (66 : Nat) ((0 : Nat) ≤ (3 : Nat)) (V.agg [V.sl (1 : Nat) (0 : Nat) fun (k : Nat) => [V.i (gi (Cv.feed (Cv.mk [] [] (1 : Int))) k)], V.sl (1 : Nat) (0 : Nat) fun (k : Nat) => [V.i (gi (Cv.back (Cv.mk [] [] (1 : Int))) k)], V.i (Cv.share (Cv.mk [] [] (1 : Int)))])] (by kernel_rfl) (by kernel_rfl) ⟨(by omega), True.intro⟩ ?_
  refine e_call (first := []) (caps := []) (fk6) (by kernel_rfl) (by kernel_rfl) (by kernel_rfl) (by kernel_rfl) (by kernel_rfl) ?_
  refine aops_n hTT (M := []) (n := 5) [pv (65 : Nat) (V.tup [V.i (32767 : Int), V.i (0 : Int)]), pv (68 : Nat) (V.i (32767 : Int)), pv (69 : Nat) (V.i (0 : Int)), pv (17 : Nat) (V.i (32767 : Int)), pv (18 : Nat) (V.i (0 : Int))] (by kernel_rfl) (by kernel_rfl) True.intro ?_
  refine aops_nil ?_
  refine xt_n ?_
  refine hK _ ?_
  clear hK K
  refine aw_seq_k fun K hK => ?_
  refine aw_seq_k fun K hK => ?_
  refine w_region (n' := 12) (by kernel_rfl) (by kernel_rfl) ?_
  refine aops_n hTT (M := []) (n := 21) [pv (70 : Nat) (V.i (0 : Int)), pv (71 : Nat) (V.i (0 : Int)), pc (72 : Nat) ((-9223372036854775808 : Int) ≤ (0 : Int) + (0 : Int) ∧ (0 : Int) + (0 : Int) ≤ (9223372036854775807 : Int)) (V.i (0 : Int)), pv (73 : Nat) (V.i (0 : Int)), pc (74 : Nat) ((-9223372036854775808 : Int) ≤ (0 : Int) + (0 : Int) ∧ (0 : Int) + (0 : Int) ≤ (9223372036854775807 : Int)) (V.i (0 : Int)), pv (75 : Nat) (V.i (0 : Int)), pc (76 : Nat) ((-9223372036854775808 : Int) ≤ (0 : Int) + (0 : Int) ∧ (0 : Int) + (0 : Int) ≤ (9223372036854775807 : Int)) (V.i (0 : Int)), pv (77 : Nat) (V.i (0 : Int)), pc (78 : Nat) ((-9223372036854775808 : Int) ≤ (0 : Int) + (0 : Int) ∧ (0 : Int) + (0 : Int) ≤ (9223372036854775807 : Int)) (V.i (0 : Int)), pv (79 : Nat) (V.i (0 : Int)), pc (80 : Nat) ((-9223372036854775808 : Int) ≤ (0 : Int) + (0 : Int) ∧ (0 : Int) + (0 : Int) ≤ (9223372036854775807 : Int)) (V.i (0 : Int)), pv (81 : Nat) (V.i (0 : Int)), pc (82 : Nat) ((-9223372036854775808 : Int) ≤ (0 : Int) + (0 : Int) ∧ (0 : Int) + (0 : Int) ≤ (9223372036854775807 : Int)) (V.i (0 : Int)), pv (83 : Nat) (V.i (0 : Int)), pc (84 : Nat) ((-9223372036854775808 : Int) ≤ (0 : Int) + (0 : Int) ∧ (0 : Int) + (0 : Int) ≤ (9223372036854775807 : Int)) (V.i (0 : Int)), pv (85 : Nat) (V.i (0 : Int)), pc (86 : Nat) ((-9223372036854775808 : Int) ≤ (0 : Int) + (0 : Int) ∧ (0 : Int) + (0 : Int) ≤ (9223372036854775807 : Int)) (V.i (0 : Int)), pv (87 : Nat) (V.b false), pv (88 : Nat) (V.b false), pc (89 : Nat) ((True ∧ True) ∧ ((false == false) = true → True)) (V.gd (false == false) (V.sl (1 : Nat) (4 : Nat) fun (k : Nat) => [V.i (gi [(100 : Int), (0 : Int), (0 : Int), (-3 : Int)] k)])), pc (90 : Nat) ((True ∧ True ∧ True ∧ True ∧ True) ∧ ((false == false) = true → True)) (V.gd (false == false) (V.sl (1 : Nat) (4 : Nat) fun (i : Nat) => List.take (1 : Nat) (List.drop (i * (1 : Nat)) [V.i (100 : Int), V.i (0 : Int), V.i (0 : Int), V.i (-3 : Int)])))] (by kernel_rfl) (by kernel_rfl) ⟨(by omega), (by omega), (by omega), (by omega), (by omega), (by omega), (by omega), (by omega), ⟨⟨True.intro, True.intro⟩, (fun _ => True.intro)⟩, ⟨⟨True.intro, ⟨True.intro, ⟨True.intro, ⟨True.intro, True.intro⟩⟩⟩⟩, (fun _ => True.intro)⟩, True.intro⟩ ?_
  refine e_callG 2 (g := false == false) (first := []) (caps := []) (by kernel_rfl) (fun _ => AC.conv (refSame_ac [100, 0, 0, -3] [100, 0, 0, -3] (by decide) (by decide)) (args' := [V.sl (1 : Nat) (4 : Nat) fun (k : Nat) => [V.i (gi [(100 : Int), (0 : Int), (0 : Int), (-3 : Int)] k)], V.sl (1 : Nat) (4 : Nat) fun (i : Nat) => List.take (1 : Nat) (List.drop (i * (1 : Nat)) [V.i (100 : Int), V.i (0 : Int), V.i (0 : Int), V.i (-3 : Int)])]) ⟨RImp.refl _, ?_, trivial⟩) (by kernel_rfl) (by kernel_rfl) (by kernel_rfl) (by kernel_rfl) (by kernel_rfl) (by kernel_rfl) ?_
  · exact RImp.lit1 [100, 0, 0, -3]
  refine aops_n hTT (M := []) (n := 5) [pc (92 : Nat) ((((false == false) = true → (false == false) = true) ∧ True) ∧ ((false == false) = true → True)) (V.gd (false == false) (V.b false)), pc (93 : Nat) (True ∧ (false = false → (false == false) = true)) (V.b false), pv (94 : Nat) (V.b false), pc (95 : Nat) ((True ∧ True) ∧ ((false == false) = true → True)) (V.gd (false == false) (V.sl (1 : Nat) (3 : Nat) fun (k : Nat) => [V.i (gi [(4 : Int), (1 : Int), (-4 : Int)] k)])), pc (96 : Nat) ((True ∧ True ∧ True ∧ True) ∧ ((false == false) = true → True)) (V.gd (false == false) (V.sl (1 : Nat) (3 : Nat) fun (i : Nat) => List.take (1 : Nat) (List.drop (i * (1 : Nat)) [V.i (4 : Int), V.i (1 : Int), V.i (-4 : Int)])))] (by kernel_rfl) (by kernel_rfl) ⟨⟨⟨(by (exact fun h => h)), True.intro⟩, (fun _ => True.intro)⟩, ⟨True.intro, (by (intro h; rw [h]; rfl))⟩, ⟨⟨True.intro, True.intro⟩, (fun _ => True.intro)⟩, ⟨⟨True.intro, ⟨True.intro, ⟨True.intro, True.intro⟩⟩⟩, (fun _ => True.intro)⟩, True.intro⟩ ?_
  refine e_callG 2 (g := false == false) (first := []) (caps := []) (by kernel_rfl) (fun _ => AC.conv (refSame_ac [4, 1, -4] [4, 1, -4] (by decide) (by decide)) (args' := [V.sl (1 : Nat) (3 : Nat) fun (k : Nat) => [V.i (gi [(4 : Int), (1 : Int), (-4 : Int)] k)], V.sl (1 : Nat) (3 : Nat) fun (i : Nat) => List.take (1 : Nat) (List.drop (i * (1 : Nat)) [V.i (4 : Int), V.i (1 : Int), V.i (-4 : Int)])]) ⟨RImp.refl _, ?_, trivial⟩) (by kernel_rfl) (by kernel_rfl) (by kernel_rfl) (by kernel_rfl) (by kernel_rfl) (by kernel_rfl) ?_
  · exact RImp.lit1 [4, 1, -4]
  refine aops_n hTT (M := []) (n := 18) [pc (98 : Nat) ((((false == false) = true → (false == false) = true) ∧ True) ∧ ((false == false) = true → True)) (V.gd (false == false) (V.b false)), pc (99 : Nat) (True ∧ (false = false → (false == false) = true)) (V.b false), pv (100 : Nat) (V.b false), pc (101 : Nat) ((True ∧ True) ∧ ((false == false) = true → True)) (V.gd (false == false) (V.i (251 : Int))), pc (102 : Nat) ((((false == false) = true → (false == false) = true) ∧ True ∧ True) ∧ ((false == false) = true → True)) (V.gd (false == false) (V.b false)), pc (103 : Nat) (True ∧ (false = false → (false == false) = true)) (V.b false), pv (104 : Nat) (V.b false), pc (105 : Nat) ((True ∧ True) ∧ ((false == false) = true → True)) (V.gd (false == false) (V.i (175 : Int))), pc (106 : Nat) ((((false == false) = true → (false == false) = true) ∧ True ∧ True) ∧ ((false == false) = true → True)) (V.gd (false == false) (V.b false)), pc (107 : Nat) (True ∧ (false = false → (false == false) = true)) (V.b false), pv (108 : Nat) (V.b false), pc (109 : Nat) ((True ∧ True) ∧ ((false == false) = true → True)) (V.gd (false == false) (V.i (13106 : Int))), pc (110 : Nat) ((((false == false) = true → (false == false) = true) ∧ True ∧ True) ∧ ((false == false) = true → True)) (V.gd (false == false) (V.b false)), pc (111 : Nat) (True ∧ (false = false → (false == false) = true)) (V.b false), pv (112 : Nat) (V.b false), pc (113 : Nat) ((True ∧ True) ∧ ((false == false) = true → True)) (V.gd (false == false) (V.i (32767 : Int))), pc (114 : Nat) ((((false == false) = true → (false == false) = true) ∧ True ∧ True) ∧ ((false == false) = true → True)) (V.gd (false == false) (V.b false)), pc (115 : Nat) (True ∧ (false = false → (false == false) = true)) (V.b false)] (by kernel_rfl) (by kernel_rfl) ⟨⟨⟨(by (exact fun h => h)), True.intro⟩, (fun _ => True.intro)⟩, ⟨True.intro, (by (intro h; rw [h]; rfl))⟩, ⟨⟨True.intro, True.intro⟩, (fun _ => True.intro)⟩, ⟨⟨(by (exact fun h => h)), ⟨True.intro, True.intro⟩⟩, (fun _ => True.intro)⟩, ⟨True.intro, (by (intro h; rw [h]; rfl))⟩, ⟨⟨True.intro, True.intro⟩, (fun _ => True.intro)⟩, ⟨⟨(by (exact fun h => h)), ⟨True.intro, True.intro⟩⟩, (fun _ => True.intro)⟩, ⟨True.intro, (by (intro h; rw [h]; rfl))⟩, ⟨⟨True.intro, True.intro⟩, (fun _ => True.intro)⟩, ⟨⟨(by (exact fun h => h)), ⟨True.intro, True.intro⟩⟩, (fun _ => True.intro)⟩, ⟨True.intro, (by (intro h; rw [h]; rfl))⟩, ⟨⟨True.intro, True.intro⟩, (fun _ => True.intro)⟩, ⟨⟨(by (exact fun h => h)), ⟨True.intro, True.intro⟩⟩, (fun _ => True.intro)⟩, ⟨True.intro, (by (intro h; rw [h]; rfl))⟩, True.intro⟩ ?_
  refine aops_nil ?_
  refine xt_n ?_
  refine hK _ ?_
  clear hK K
  refine w_false (t := false) (by kernel_rfl) rfl ?_
  refine aw_skip ?_
  refine xt_n ?_
  refine hK _ ?_
  clear hK K
  refine aw_seq_k fun K hK => ?_
  refine w_region (n' := 13) (by kernel_rfl) (by kernel_rfl) ?_
  refine aops_n hTT (M := []) (n := 3) [pv (117 : Nat) (V.agg [V.i (7 : Int), V.i (2 : Int)]), pv (118 : Nat) (V.agg [V.i (-3 : Int), V.i (2 : Int)]), pv (119 : Nat) (V.sl (2 : Nat) (2 : Nat) fun (i : Nat) => List.take (2 : Nat) (List.drop (i * (2 : Nat)) [V.i (7 : Int), V.i (2 : Int), V.i (-3 : Int), V.i (2 : Int)]))] (by kernel_rfl) (by kernel_rfl) True.intro ?_
  refine e_call (first := []) (caps := []) (AC.conv (fk7) (args' := [V.sl (2 : Nat) (2 : Nat) fun (i : Nat) => List.take (2 : Nat) (List.drop (i * (2 : Nat)) [V.i (7 : Int), V.i (2 : Int), V.i (-3 : Int), V.i (2 : Int)])]) ⟨?_, trivial⟩) (by kernel_rfl) (by kernel_rfl) (by kernel_rfl) (by kernel_rfl) (by kernel_rfl) ?_
  · exact RImp.lit2 [(7, 2), (-3, 2)]
  refine aops_n hTT (M := []) (n := 7) [pv (116 : Nat) (V.tup [V.sl (1 : Nat) (2 : Nat) fun (k : Nat) => [V.i (gi [(4 : Int), (-1 : Int)] k)], V.sl (1 : Nat) (2 : Nat) fun (k : Nat) => [V.i (gi [(5 : Int), (-5 : Int)] k)], V.i (0 : Int)]), pv (121 : Nat) (V.sl (1 : Nat) (2 : Nat) fun (k : Nat) => [V.i (gi [(4 : Int), (-1 : Int)] k)]), pv (122 : Nat) (V.sl (1 : Nat) (2 : Nat) fun (k : Nat) => [V.i (gi [(5 : Int), (-5 : Int)] k)]), pv (123 : Nat) (V.i (0 : Int)), pv (19 : Nat) (V.sl (1 : Nat) (2 : Nat) fun (k : Nat) => [V.i (gi [(4 : Int), (-1 : Int)] k)]), pv (20 : Nat) (V.sl (1 : Nat) (2 : Nat) fun (k : Nat) => [V.i (gi [(5 : Int), (-5 : Int)] k)]), pv (2 : Nat) (V.i (0 : Int))] (by kernel_rfl) (by kernel_rfl) True.intro ?_
  refine aops_nil ?_
  refine xt_n ?_
  refine hK _ ?_
  clear hK K
  refine aw_seq_k fun K hK => ?_
  refine w_region (n' := 14) (by kernel_rfl) (by kernel_rfl) ?_
  refine aops_n hTT (M := []) (n := 4) [pc (125 : Nat) ((0 : Nat) ≤ (3 : Nat)) (V.agg [V.sl (1 : Nat) (1 : Nat) fun (k : Nat) => [V.i (gi (Cv.feed (Cv.mk [(-192 : Int)] [] (256 : Int))) k)], V.sl (1 : Nat) (0 : Nat) fun (k : Nat) => [V.i (gi (Cv.back (Cv.mk [(-192 : Int)] [] (256 : Int))) k)], V.i (Cv.share (Cv.mk [(-192 : Int)] [] (256 : Int)))]), pv (126 : Nat) (V.agg [V.i (7 : Int), V.i (2 : Int)]), pv (127 : Nat) (V.agg [V.i (7 : Int), V.i (2 : Int)]), pv (128 : Nat) (V.sl (2 : Nat) (2 : Nat) fun (i : Nat) => List.take (2 : Nat) (List.drop (i * (2 : Nat)) [V.i (7 : Int), V.i (2 : Int), V.i (7 : Int), V.i (2 : Int)]))] (by kernel_rfl) (by kernel_rfl) ⟨(by omega), True.intro⟩ ?_
  refine e_call (first := []) (caps := []) (AC.conv (fk8) (args' := [V.agg [V.sl (1 : Nat) (1 : Nat) fun (k : Nat) => [V.i (gi (Cv.feed (Cv.mk [(-192 : Int)] [] (256 : Int))) k)], V.sl (1 : Nat) (0 : Nat) fun (k : Nat) => [V.i (gi (Cv.back (Cv.mk [(-192 : Int)] [] (256 : Int))) k)], V.i (Cv.share (Cv.mk [(-192 : Int)] [] (256 : Int)))], V.sl (2 : Nat) (2 : Nat) fun (i : Nat) => List.take (2 : Nat) (List.drop (i * (2 : Nat)) [V.i (7 : Int), V.i (2 : Int), V.i (7 : Int), V.i (2 : Int)])]) ⟨RImp.refl _, ?_, trivial⟩) (by kernel_rfl) (by kernel_rfl) (by kernel_rfl) (by kernel_rfl) (by kernel_rfl) ?_
  · exact RImp.lit2 [(7, 2), (7, 2)]
  refine aops_n hTT (M := []) (n := 5) [pv (124 : Nat) (V.tup [V.sl (2 : Nat) (2 : Nat) fun (k : Nat) => [V.i (Prod.fst (gp [((7 : Int), (2 : Int)), ((5 : Int), (4 : Int))] k)), V.i (Prod.snd (gp [((7 : Int), (2 : Int)), ((5 : Int), (4 : Int))] k))], V.i (0 : Int)]), pv (130 : Nat) (V.sl (2 : Nat) (2 : Nat) fun (k : Nat) => [V.i (Prod.fst (gp [((7 : Int), (2 : Int)), ((5 : Int), (4 : Int))] k)), V.i (Prod.snd (gp [((7 : Int), (2 : Int)), ((5 : Int), (4 : Int))] k))]), pv (131 : Nat) (V.i (0 : Int)), pv (21 : Nat) (V.sl (2 : Nat) (2 : Nat) fun (k : Nat) => [V.i (Prod.fst (gp [((7 : Int), (2 : Int)), ((5 : Int), (4 : Int))] k)), V.i (Prod.snd (gp [((7 : Int), (2 : Int)), ((5 : Int), (4 : Int))] k))]), pv (4 : Nat) (V.i (0 : Int))] (by kernel_rfl) (by kernel_rfl) True.intro ?_
  refine aops_nil ?_
  refine xt_n ?_
  refine hK _ ?_
  clear hK K
  refine aw_seq_k fun K hK => ?_
  refine aw_seq_k fun K hK => ?_
  refine w_region (n' := 15) (by kernel_rfl) (by kernel_rfl) ?_
  refine aops_n hTT (M := []) (n := 9) [pv (132 : Nat) (V.i (0 : Int)), pv (133 : Nat) (V.b false), pv (134 : Nat) (V.b false), pc (135 : Nat) ((True ∧ True) ∧ ((false == false) = true → True)) (V.gd (false == false) (V.i (0 : Int))), pc (136 : Nat) ((((false == false) = true → (false == false) = true) ∧ True ∧ True) ∧ ((false == false) = true → True)) (V.gd (false == false) (V.b false)), pc (137 : Nat) (True ∧ (false = false → (false == false) = true)) (V.b false), pv (138 : Nat) (V.b false), pc (139 : Nat) ((True ∧ True) ∧ ((false == false) = true → True)) (V.gd (false == false) (V.sl (1 : Nat) (2 : Nat) fun (k : Nat) => [V.i (gi [(4 : Int), (-1 : Int)] k)])), pc (140 : Nat) ((True ∧ True ∧ True) ∧ ((false == false) = true → True)) (V.gd (false == false) (V.sl (1 : Nat) (2 : Nat) fun (i : Nat) => List.take (1 : Nat) (List.drop (i * (1 : Nat)) [V.i (4 : Int), V.i (-1 : Int)])))] (by kernel_rfl) (by kernel_rfl) ⟨⟨⟨True.intro, True.intro⟩, (fun _ => True.intro)⟩, ⟨⟨(by (exact fun h => h)), ⟨True.intro, True.intro⟩⟩, (fun _ => True.intro)⟩, ⟨True.intro, (by (intro h; rw [h]; rfl))⟩, ⟨⟨True.intro, True.intro⟩, (fun _ => True.intro)⟩, ⟨⟨True.intro, ⟨True.intro, True.intro⟩⟩, (fun _ => True.intro)⟩, True.intro⟩ ?_
  refine e_callG 2 (g := false == false) (first := []) (caps := []) (by kernel_rfl) (fun _ => AC.conv (refSame_ac [4, -1] [4, -1] (by decide) (by decide)) (args' := [V.sl (1 : Nat) (2 : Nat) fun (k : Nat) => [V.i (gi [(4 : Int), (-1 : Int)] k)], V.sl (1 : Nat) (2 : Nat) fun (i : Nat) => List.take (1 : Nat) (List.drop (i * (1 : Nat)) [V.i (4 : Int), V.i (-1 : Int)])]) ⟨RImp.refl _, ?_, trivial⟩) (by kernel_rfl) (by kernel_rfl) (by kernel_rfl) (by kernel_rfl) (by kernel_rfl) (by kernel_rfl) ?_
  · exact RImp.lit1 [4, -1]
  refine aops_n hTT (M := []) (n := 5) [pc (142 : Nat) ((((false == false) = true → (false == false) = true) ∧ True) ∧ ((false == false) = true → True)) (V.gd (false == false) (V.b false)), pc (143 : Nat) (True ∧ (false = false → (false == false) = true)) (V.b false), pv (144 : Nat) (V.b false), pc (145 : Nat) ((True ∧ True) ∧ ((false == false) = true → True)) (V.gd (false == false) (V.sl (1 : Nat) (2 : Nat) fun (k : Nat) => [V.i (gi [(5 : Int), (-5 : Int)] k)])), pc (146 : Nat) ((True ∧ True ∧ True) ∧ ((false == false) = true → True)) (V.gd (false == false) (V.sl (1 : Nat) (2 : Nat) fun (i : Nat) => List.take (1 : Nat) (List.drop (i * (1 : Nat)) [V.i (5 : Int), V.i (-5 : Int)])))] (by kernel_rfl) (by kernel_rfl) ⟨⟨⟨(by (exact fun h => h)), True.intro⟩, (fun _ => True.intro)⟩, ⟨True.intro, (by (intro h; rw [h]; rfl))⟩, ⟨⟨True.intro, True.intro⟩, (fun _ => True.intro)⟩, ⟨⟨True.intro, ⟨True.intro, True.intro⟩⟩, (fun _ => True.intro)⟩, True.intro⟩ ?_
  refine e_callG 2 (g := false == false) (first := []) (caps := []) (by kernel_rfl) (fun _ => AC.conv (refSame_ac [5, -5] [5, -5] (by decide) (by decide)) (args' := [V.sl (1 : Nat) (2 : Nat) fun (k : Nat) => [V.i (gi [(5 : Int), (-5 : Int)] k)], V.sl (1 : Nat) (2 : Nat) fun (i : Nat) => List.take (1 : Nat) (List.drop (i * (1 : Nat)) [V.i (5 : Int), V.i (-5 : Int)])]) ⟨RImp.refl _, ?_, trivial⟩) (by kernel_rfl) (by kernel_rfl) (by kernel_rfl) (by kernel_rfl) (by kernel_rfl) (by kernel_rfl) ?_
  · exact RImp.lit1 [5, -5]
  refine aops_n hTT (M := []) (n := 7) [pc (148 : Nat) ((((false == false) = true → (false == false) = true) ∧ True) ∧ ((false == false) = true → True)) (V.gd (false == false) (V.b false)), pc (149 : Nat) (True ∧ (false = false → (false == false) = true)) (V.b false), pv (150 : Nat) (V.b false), pc (151 : Nat) ((True ∧ True) ∧ ((false == false) = true → True)) (V.gd (false == false) (V.sl (2 : Nat) (2 : Nat) fun (k : Nat) => [V.i (Prod.fst (gp [((7 : Int), (2 : Int)), ((5 : Int), (4 : Int))] k)), V.i (Prod.snd (gp [((7 : Int), (2 : Int)), ((5 : Int), (4 : Int))] k))])), pc (152 : Nat) ((True ∧ True ∧ True) ∧ ((false == false) = true → True)) (V.gd (false == false) (V.agg [V.i (7 : Int), V.i (2 : Int)])), pc (153 : Nat) ((True ∧ True ∧ True) ∧ ((false == false) = true → True)) (V.gd (false == false) (V.agg [V.i (5 : Int), V.i (4 : Int)])), pc (154 : Nat) ((((false == false) = true → (false == false) = true) ∧ ((false == false) = true → (false == false) = true) ∧ True) ∧ ((false == false) = true → True)) (V.gd (false == false) (V.sl (2 : Nat) (2 : Nat) fun (i : Nat) => List.take (2 : Nat) (List.drop (i * (2 : Nat)) [V.i (7 : Int), V.i (2 : Int), V.i (5 : Int), V.i (4 : Int)])))] (by kernel_rfl) (by kernel_rfl) ⟨⟨⟨(by (exact fun h => h)), True.intro⟩, (fun _ => True.intro)⟩, ⟨True.intro, (by (intro h; rw [h]; rfl))⟩, ⟨⟨True.intro, True.intro⟩, (fun _ => True.intro)⟩, ⟨⟨True.intro, ⟨True.intro, True.intro⟩⟩, (fun _ => True.intro)⟩, ⟨⟨True.intro, ⟨True.intro, True.intro⟩⟩, (fun _ => True.intro)⟩, ⟨⟨(by (exact fun h => h)), ⟨(by (exact fun h => h)), True.intro⟩⟩, (fun _ => True.intro)⟩, True.intro⟩ ?_
  refine e_callG 2 (g := false == false) (first := []) (caps := []) (by kernel_rfl) (fun _ => AC.conv (refSamePrograms_ac [(7, 2), (5, 4)] [(7, 2), (5, 4)] (by decide) (by decide)) (args' := [V.sl (2 : Nat) (2 : Nat) fun (k : Nat) => [V.i (Prod.fst (gp [((7 : Int), (2 : Int)), ((5 : Int), (4 : Int))] k)), V.i (Prod.snd (gp [((7 : Int), (2 : Int)), ((5 : Int), (4 : Int))] k))], V.sl (2 : Nat) (2 : Nat) fun (i : Nat) => List.take (2 : Nat) (List.drop (i * (2 : Nat)) [V.i (7 : Int), V.i (2 : Int), V.i (5 : Int), V.i (4 : Int)])]) ⟨RImp.refl _, ?_, trivial⟩) (by kernel_rfl) (by kernel_rfl) (by kernel_rfl) (by kernel_rfl) (by kernel_rfl) (by kernel_rfl) ?_
  · exact RImp.lit2 [(7, 2), (5, 4)]
  refine aops_n hTT (M := []) (n := 2) [pc (156 : Nat) ((((false == false) = true → (false == false) = true) ∧ True) ∧ ((false == false) = true → True)) (V.gd (false == false) (V.b false)), pc (157 : Nat) (True ∧ (false = false → (false == false) = true)) (V.b false)] (by kernel_rfl) (by kernel_rfl) ⟨⟨⟨(by (exact fun h => h)), True.intro⟩, (fun _ => True.intro)⟩, ⟨True.intro, (by (intro h; rw [h]; rfl))⟩, True.intro⟩ ?_
  refine aops_nil ?_
  refine xt_n ?_
  refine hK _ ?_
  clear hK K
  refine w_false (t := false) (by kernel_rfl) rfl ?_
  refine aw_skip ?_
  refine xt_n ?_
  refine hK _ ?_
  clear hK K
  refine aw_seq_k fun K hK => ?_
  refine w_region (n' := 16) (by kernel_rfl) (by kernel_rfl) ?_
  refine aops_n hTT (M := []) (n := 5) [pv (158 : Nat) (V.agg [V.i (50 : Int), V.i (0 : Int)]), pv (159 : Nat) (V.agg [V.i (400 : Int), V.i (-100 : Int)]), pv (160 : Nat) (V.agg [V.i (0 : Int), V.i (0 : Int)]), pv (161 : Nat) (V.sl (2 : Nat) (3 : Nat) fun (i : Nat) => List.take (2 : Nat) (List.drop (i * (2 : Nat)) [V.i (50 : Int), V.i (0 : Int), V.i (400 : Int), V.i (-100 : Int), V.i (0 : Int), V.i (0 : Int)])), pv (22 : Nat) (V.sl (2 : Nat) (3 : Nat) fun (i : Nat) => List.take (2 : Nat) (List.drop (i * (2 : Nat)) [V.i (50 : Int), V.i (0 : Int), V.i (400 : Int), V.i (-100 : Int), V.i (0 : Int), V.i (0 : Int)]))] (by kernel_rfl) (by kernel_rfl) True.intro ?_
  refine aops_nil ?_
  refine xt_n ?_
  refine hK _ ?_
  clear hK K
  refine aw_seq_k fun K hK => ?_
  refine w_region (n' := 17) (by kernel_rfl) (by kernel_rfl) ?_
  refine aops_n hTT (M := []) (n := 1) [pv (163 : Nat) (V.sl (2 : Nat) (3 : Nat) fun (i : Nat) => List.take (2 : Nat) (List.drop (i * (2 : Nat)) [V.i (50 : Int), V.i (0 : Int), V.i (400 : Int), V.i (-100 : Int), V.i (0 : Int), V.i (0 : Int)]))] (by kernel_rfl) (by kernel_rfl) True.intro ?_
  refine e_call (first := []) (caps := []) (AC.conv (fk9) (args' := [V.sl (2 : Nat) (3 : Nat) fun (i : Nat) => List.take (2 : Nat) (List.drop (i * (2 : Nat)) [V.i (50 : Int), V.i (0 : Int), V.i (400 : Int), V.i (-100 : Int), V.i (0 : Int), V.i (0 : Int)]), V.i (100 : Int)]) ⟨?_, RImp.refl _, trivial⟩) (by kernel_rfl) (by kernel_rfl) (by kernel_rfl) (by kernel_rfl) (by kernel_rfl) ?_
  · exact RImp.lit2 [(50, 0), (400, -100), (0, 0)]
  refine aops_n hTT (M := []) (n := 5) [pv (162 : Nat) (V.tup [V.sl (1 : Nat) (3 : Nat) fun (k : Nat) => [V.i (gi [(256 : Int), (64 : Int), (256 : Int)] k)], V.i (0 : Int)]), pv (165 : Nat) (V.sl (1 : Nat) (3 : Nat) fun (k : Nat) => [V.i (gi [(256 : Int), (64 : Int), (256 : Int)] k)]), pv (166 : Nat) (V.i (0 : Int)), pv (23 : Nat) (V.sl (1 : Nat) (3 : Nat) fun (k : Nat) => [V.i (gi [(256 : Int), (64 : Int), (256 : Int)] k)]), pv (2 : Nat) (V.i (0 : Int))] (by kernel_rfl) (by kernel_rfl) True.intro ?_
  refine aops_nil ?_
  refine xt_n ?_
  refine hK _ ?_
  clear hK K
  refine aw_seq_k fun K hK => ?_
  refine w_region (n' := 18) (by kernel_rfl) (by kernel_rfl) ?_
  refine aops_n hTT (M := []) (n := 1) [pv (168 : Nat) (V.sl (2 : Nat) (3 : Nat) fun (i : Nat) => List.take (2 : Nat) (List.drop (i * (2 : Nat)) [V.i (50 : Int), V.i (0 : Int), V.i (400 : Int), V.i (-100 : Int), V.i (0 : Int), V.i (0 : Int)]))] (by kernel_rfl) (by kernel_rfl) True.intro ?_
  refine e_call (first := []) (caps := []) (AC.conv (fk10) (args' := [V.sl (2 : Nat) (3 : Nat) fun (i : Nat) => List.take (2 : Nat) (List.drop (i * (2 : Nat)) [V.i (50 : Int), V.i (0 : Int), V.i (400 : Int), V.i (-100 : Int), V.i (0 : Int), V.i (0 : Int)]), V.i (100 : Int), V.i (50 : Int)]) ⟨?_, RImp.refl _, RImp.refl _, trivial⟩) (by kernel_rfl) (by kernel_rfl) (by kernel_rfl) (by kernel_rfl) (by kernel_rfl) ?_
  · exact RImp.lit2 [(50, 0), (400, -100), (0, 0)]
  refine aops_n hTT (M := []) (n := 5) [pv (167 : Nat) (V.tup [V.sl (2 : Nat) (3 : Nat) fun (k : Nat) => [V.i (Prod.fst (gp [((22 : Int), (0 : Int)), ((100 : Int), (-25 : Int)), ((0 : Int), (0 : Int))] k)), V.i (Prod.snd (gp [((22 : Int), (0 : Int)), ((100 : Int), (-25 : Int)), ((0 : Int), (0 : Int))] k))], V.i (0 : Int)]), pv (170 : Nat) (V.sl (2 : Nat) (3 : Nat) fun (k : Nat) => [V.i (Prod.fst (gp [((22 : Int), (0 : Int)), ((100 : Int), (-25 : Int)), ((0 : Int), (0 : Int))] k)), V.i (Prod.snd (gp [((22 : Int), (0 : Int)), ((100 : Int), (-25 : Int)), ((0 : Int), (0 : Int))] k))]), pv (171 : Nat) (V.i (0 : Int)), pv (24 : Nat) (V.sl (2 : Nat) (3 : Nat) fun (k : Nat) => [V.i (Prod.fst (gp [((22 : Int), (0 : Int)), ((100 : Int), (-25 : Int)), ((0 : Int), (0 : Int))] k)), V.i (Prod.snd (gp [((22 : Int), (0 : Int)), ((100 : Int), (-25 : Int)), ((0 : Int), (0 : Int))] k))]), pv (4 : Nat) (V.i (0 : Int))] (by kernel_rfl) (by kernel_rfl) True.intro ?_
  refine aops_nil ?_
  refine xt_n ?_
  refine hK _ ?_
  clear hK K
  refine aw_seq_k fun K hK => ?_
  refine w_region (n' := 19) (by kernel_rfl) (by kernel_rfl) ?_
  refine aops_n hTT (M := []) (n := 2) [pv (173 : Nat) (V.sl (2 : Nat) (3 : Nat) fun (i : Nat) => List.take (2 : Nat) (List.drop (i * (2 : Nat)) [V.i (50 : Int), V.i (0 : Int), V.i (400 : Int), V.i (-100 : Int), V.i (0 : Int), V.i (0 : Int)])), pv (174 : Nat) (V.sl (1 : Nat) (3 : Nat) fun (i : Nat) => List.take (1 : Nat) (List.drop (i * (1 : Nat)) [V.i (114 : Int), V.i (64 : Int), V.i (115 : Int)]))] (by kernel_rfl) (by kernel_rfl) True.intro ?_
  refine e_call (first := []) (caps := []) (AC.conv (fk11) (args' := [V.sl (2 : Nat) (3 : Nat) fun (i : Nat) => List.take (2 : Nat) (List.drop (i * (2 : Nat)) [V.i (50 : Int), V.i (0 : Int), V.i (400 : Int), V.i (-100 : Int), V.i (0 : Int), V.i (0 : Int)]), V.i (100 : Int), V.i (50 : Int), V.sl (1 : Nat) (3 : Nat) fun (i : Nat) => List.take (1 : Nat) (List.drop (i * (1 : Nat)) [V.i (114 : Int), V.i (64 : Int), V.i (115 : Int)])]) ⟨?_, RImp.refl _, RImp.refl _, ?_, trivial⟩) (by kernel_rfl) (by kernel_rfl) (by kernel_rfl) (by kernel_rfl) (by kernel_rfl) ?_
  · exact RImp.lit2 [(50, 0), (400, -100), (0, 0)]
  · exact RImp.lit1 [114, 64, 115]
  refine aops_n hTT (M := []) (n := 5) [pv (172 : Nat) (V.tup [V.i (2 : Int), V.i (20 : Int)]), pv (176 : Nat) (V.i (2 : Int)), pv (177 : Nat) (V.i (20 : Int)), pv (25 : Nat) (V.i (2 : Int)), pv (6 : Nat) (V.i (20 : Int))] (by kernel_rfl) (by kernel_rfl) True.intro ?_
  refine aops_nil ?_
  refine xt_n ?_
  refine hK _ ?_
  clear hK K
  refine aw_seq_k fun K hK => ?_
  refine w_region (n' := 20) (by kernel_rfl) (by kernel_rfl) ?_
  refine aops_n hTT (M := []) (n := 17) [pv (178 : Nat) (V.i (0 : Int)), pv (179 : Nat) (V.b true), pv (180 : Nat) (V.b true), pc (181 : Nat) ((True ∧ True) ∧ ((true == true) = true → True)) (V.gd (true == true) (V.i (0 : Int))), pc (182 : Nat) ((((true == true) = true → (true == true) = true) ∧ True ∧ True) ∧ ((true == true) = true → True)) (V.gd (true == true) (V.b true)), pc (183 : Nat) ((true = true → (true == true) = true) ∧ True) (V.b true), pv (184 : Nat) (V.b true), pc (185 : Nat) ((True ∧ True) ∧ ((true == true) = true → True)) (V.gd (true == true) (V.i (20 : Int))), pc (186 : Nat) ((((true == true) = true → (true == true) = true) ∧ True ∧ True) ∧ ((true == true) = true → True)) (V.gd (true == true) (V.b true)), pc (187 : Nat) ((true = true → (true == true) = true) ∧ True) (V.b true), pv (188 : Nat) (V.b true), pc (189 : Nat) ((True ∧ True) ∧ ((true == true) = true → True)) (V.gd (true == true) (V.i (2 : Int))), pc (190 : Nat) ((((true == true) = true → (true == true) = true) ∧ True ∧ True) ∧ ((true == true) = true → True)) (V.gd (true == true) (V.b true)), pc (191 : Nat) ((true = true → (true == true) = true) ∧ True) (V.b true), pv (192 : Nat) (V.b true), pc (193 : Nat) ((True ∧ True) ∧ ((true == true) = true → True)) (V.gd (true == true) (V.sl (1 : Nat) (3 : Nat) fun (k : Nat) => [V.i (gi [(256 : Int), (64 : Int), (256 : Int)] k)])), pc (194 : Nat) ((True ∧ True ∧ True ∧ True) ∧ ((true == true) = true → True)) (V.gd (true == true) (V.sl (1 : Nat) (3 : Nat) fun (i : Nat) => List.take (1 : Nat) (List.drop (i * (1 : Nat)) [V.i (256 : Int), V.i (64 : Int), V.i (256 : Int)])))] (by kernel_rfl) (by kernel_rfl) ⟨⟨⟨True.intro, True.intro⟩, (fun _ => True.intro)⟩, ⟨⟨(by (exact fun h => h)), ⟨True.intro, True.intro⟩⟩, (fun _ => True.intro)⟩, ⟨(by (exact fun h => h)), True.intro⟩, ⟨⟨True.intro, True.intro⟩, (fun _ => True.intro)⟩, ⟨⟨(by (exact fun h => h)), ⟨True.intro, True.intro⟩⟩, (fun _ => True.intro)⟩, ⟨(by (exact fun h => h)), True.intro⟩, ⟨⟨True.intro, True.intro⟩, (fun _ => True.intro)⟩, ⟨⟨(by (exact fun h => h)), ⟨True.intro, True.intro⟩⟩, (fun _ => True.intro)⟩, ⟨(by (exact fun h => h)), True.intro⟩, ⟨⟨True.intro, True.intro⟩, (fun _ => True.intro)⟩, ⟨⟨True.intro, ⟨True.intro, ⟨True.intro, True.intro⟩⟩⟩, (fun _ => True.intro)⟩, True.intro⟩ ?_
  refine e_callG 2 (g := true == true) (first := []) (caps := []) (by kernel_rfl) (fun _ => AC.conv (refSame_ac [256, 64, 256] [256, 64, 256] (by decide) (by decide)) (args' := [V.sl (1 : Nat) (3 : Nat) fun (k : Nat) => [V.i (gi [(256 : Int), (64 : Int), (256 : Int)] k)], V.sl (1 : Nat) (3 : Nat) fun (i : Nat) => List.take (1 : Nat) (List.drop (i * (1 : Nat)) [V.i (256 : Int), V.i (64 : Int), V.i (256 : Int)])]) ⟨RImp.refl _, ?_, trivial⟩) (by kernel_rfl) (by kernel_rfl) (by kernel_rfl) (by kernel_rfl) (by kernel_rfl) (by kernel_rfl) ?_
  · exact RImp.lit1 [256, 64, 256]
  refine aops_n hTT (M := []) (n := 7) [pc (196 : Nat) ((true = true → (true == true) = true) ∧ True) (V.b true), pv (197 : Nat) (V.b true), pc (198 : Nat) ((True ∧ True) ∧ ((true == true) = true → True)) (V.gd (true == true) (V.sl (2 : Nat) (3 : Nat) fun (k : Nat) => [V.i (Prod.fst (gp [((22 : Int), (0 : Int)), ((100 : Int), (-25 : Int)), ((0 : Int), (0 : Int))] k)), V.i (Prod.snd (gp [((22 : Int), (0 : Int)), ((100 : Int), (-25 : Int)), ((0 : Int), (0 : Int))] k))])), pc (199 : Nat) ((True ∧ True) ∧ ((true == true) = true → True)) (V.gd (true == true) (V.agg [V.i (22 : Int), V.i (0 : Int)])), pc (200 : Nat) ((True ∧ True ∧ True) ∧ ((true == true) = true → True)) (V.gd (true == true) (V.agg [V.i (100 : Int), V.i (-25 : Int)])), pc (201 : Nat) (True ∧ ((true == true) = true → True)) (V.gd (true == true) (V.agg [V.i (0 : Int), V.i (0 : Int)])), pc (202 : Nat) ((((true == true) = true → (true == true) = true) ∧ ((true == true) = true → (true == true) = true) ∧ ((true == true) = true → (true == true) = true) ∧ True) ∧ ((true == true) = true → True)) (V.gd (true == true) (V.sl (2 : Nat) (3 : Nat) fun (i : Nat) => List.take (2 : Nat) (List.drop (i * (2 : Nat)) [V.i (22 : Int), V.i (0 : Int), V.i (100 : Int), V.i (-25 : Int), V.i (0 : Int), V.i (0 : Int)])))] (by kernel_rfl) (by kernel_rfl) ⟨⟨(by (exact fun h => h)), True.intro⟩, ⟨⟨True.intro, True.intro⟩, (fun _ => True.intro)⟩, ⟨⟨True.intro, True.intro⟩, (fun _ => True.intro)⟩, ⟨⟨True.intro, ⟨True.intro, True.intro⟩⟩, (fun _ => True.intro)⟩, ⟨True.intro, (fun _ => True.intro)⟩, ⟨⟨(by (exact fun h => h)), ⟨(by (exact fun h => h)), ⟨(by (exact fun h => h)), True.intro⟩⟩⟩, (fun _ => True.intro)⟩, True.intro⟩ ?_
  refine e_callG 2 (g := true == true) (first := []) (caps := []) (by kernel_rfl) (fun _ => AC.conv (refSamePrograms_ac [(22, 0), (100, -25), (0, 0)] [(22, 0), (100, -25), (0, 0)] (by decide) (by decide)) (args' := [V.sl (2 : Nat) (3 : Nat) fun (k : Nat) => [V.i (Prod.fst (gp [((22 : Int), (0 : Int)), ((100 : Int), (-25 : Int)), ((0 : Int), (0 : Int))] k)), V.i (Prod.snd (gp [((22 : Int), (0 : Int)), ((100 : Int), (-25 : Int)), ((0 : Int), (0 : Int))] k))], V.sl (2 : Nat) (3 : Nat) fun (i : Nat) => List.take (2 : Nat) (List.drop (i * (2 : Nat)) [V.i (22 : Int), V.i (0 : Int), V.i (100 : Int), V.i (-25 : Int), V.i (0 : Int), V.i (0 : Int)])]) ⟨RImp.refl _, ?_, trivial⟩) (by kernel_rfl) (by kernel_rfl) (by kernel_rfl) (by kernel_rfl) (by kernel_rfl) (by kernel_rfl) ?_
  · exact RImp.lit2 [(22, 0), (100, -25), (0, 0)]
  refine aops_n hTT (M := []) (n := 2) [pc (204 : Nat) ((true = true → (true == true) = true) ∧ True) (V.b true), pv (205 : Nat) (V.b true)] (by kernel_rfl) (by kernel_rfl) ⟨⟨(by (exact fun h => h)), True.intro⟩, True.intro⟩ ?_
  refine e_callG 0 (g := true == true) (first := []) (caps := []) (by kernel_rfl) (fun _ => fWorks_ac) (by kernel_rfl) (by kernel_rfl) (by kernel_rfl) (by kernel_rfl) (by kernel_rfl) (by kernel_rfl) ?_
  refine aops_n hTT (M := []) (n := 2) [pc (207 : Nat) ((true = true → (true == true) = true) ∧ True) (V.b true), pv (0 : Nat) (V.b true)] (by kernel_rfl) (by kernel_rfl) ⟨⟨(by (exact fun h => h)), True.intro⟩, True.intro⟩ ?_
  refine aops_nil ?_
  refine xt_n ?_
  refine hK _ ?_
  clear hK K
  refine aw_ret ?_
  refine ret_pure (v' := V.b true) (.inr rfl) (by kernel_rfl) (by kernel_rfl) (by kernel_rfl)
def fknownSh : List Sh := []
theorem fknown_all (x : TL fknownSh) (_ : wfL fknownSh x) : AC Try.prog 19 (valL fknownSh x) (V.b true) [] := fknown_law
end Go.Proofs.Ytblipieipldanaa
