/-
  filter.curves and filter.Named: the map of named curves. No condition.
-/
import Derived.Test.YtblipieipldanaaMD
import Derived.Test.YtblipieipldanaaFA11
namespace Go.Proofs.Ytblipieipldanaa
open Go.Ab Go.RowKit Go.Dw Go.Shelf

def nFlat : ByteArray := ⟨#[102, 108, 97, 116]⟩
def nWarm : ByteArray := ⟨#[119, 97, 114, 109]⟩
def nBright : ByteArray := ⟨#[98, 114, 105, 103, 104, 116]⟩
def nShel : ByteArray := ⟨#[115, 104, 101, 108, 108, 97, 99]⟩
def oRow (l : List Int) : Ob := .row 2 1 l.length fun i => [.i (gi l i)]
def cuM : MF := ⟨[(.s nShel, .agg [.own 4, .own 5, .i 256]), (.s nBright, .agg [.own 3, .nil, .i 256]), (.s nWarm, .agg [.own 1, .own 2, .i 256]), (.s nFlat, .agg [.nil, .nil, .i 1])], fun _ => none⟩
theorem r1 {p : Nat → Prop} (h : p 0) : ∀ i, i < 1 → p i := fun i hi => by
  obtain rfl : i = 0 := by omega
  exact h
theorem r2 {p : Nat → Prop} (h : p 0) (k : p 1) : ∀ i, i < 2 → p i := fun i hi => by
  rcases (by omega : i = 0 ∨ i = 1) with rfl | rfl
  · exact h
  · exact k
set_option maxRecDepth 100000 in
theorem curves_ac : AC Try.prog 72 [] (.own 0) [.mp (true, 4) cuM, oRow [64], oRow [128], oRow [-192], oRow [32, 16], oRow [96, 32]] := by
  refine ac_intro hTT hMX (fn := Try.f72) (N := _) ⟨Try.func72, rfl, Try.ntmps72, by kernel_rfl⟩ (by simp) fun C hC hF => ?_
  refine aw_seq_k fun K hK => ?_
  refine w_region (n' := 2) (by kernel_rfl) (by kernel_rfl) ?_
  refine aops_n hTT (M := [3, 4, 6, 8, 9]) (n := 1) [pv (0 : Nat) (V.c (Value.map none))] (by kernel_rfl) (by kernel_rfl) True.intro ?_
  refine aops_nil ?_
  refine xt_n ?_
  refine hK _ ?_
  clear hK K
  refine aw_seq_k fun K hK => ?_
  refine w_region (n' := 3) (by kernel_rfl) (by kernel_rfl) ?_
  refine aops_n hTT (M := [3, 4, 6, 8, 9]) (n := 16) [pn (1 : Nat) (V.own (200001 : Nat)) (200001 : Nat) (Ob.mp (true, (0 : Nat)) (MF.mk [] fun (x : MK) => none)), pv (2 : Nat) (V.agg [V.nil, V.nil, V.i (1 : Int)]), PR.mk none none V.any [((200001 : Nat), some (Ob.mp (true, (1 : Nat)) (MF.mk [(MK.s (ByteArray.mk #[(102 : UInt8), (108 : UInt8), (97 : UInt8), (116 : UInt8)]), V.agg [V.nil, V.nil, V.i (1 : Int)])] (MF.rest (MF.mk [] fun (x : MK) => none)))))] false, pn (3 : Nat) (V.own (200003 : Nat)) (200003 : Nat) (Ob.row (2 : Nat) (1 : Nat) (1 : Nat) fun (i : Nat) => List.take (1 : Nat) (List.drop (i * (1 : Nat)) [V.i (64 : Int)])), pn (4 : Nat) (V.own (200004 : Nat)) (200004 : Nat) (Ob.row (2 : Nat) (1 : Nat) (1 : Nat) fun (i : Nat) => List.take (1 : Nat) (List.drop (i * (1 : Nat)) [V.i (128 : Int)])), pv (5 : Nat) (V.agg [V.own (200003 : Nat), V.own (200004 : Nat), V.i (256 : Int)]), PR.mk none none V.any [((200001 : Nat), some (Ob.mp (true, (2 : Nat)) (MF.mk [(MK.s (ByteArray.mk #[(119 : UInt8), (97 : UInt8), (114 : UInt8), (109 : UInt8)]), V.agg [V.own (200003 : Nat), V.own (200004 : Nat), V.i (256 : Int)]), (MK.s (ByteArray.mk #[(102 : UInt8), (108 : UInt8), (97 : UInt8), (116 : UInt8)]), V.agg [V.nil, V.nil, V.i (1 : Int)])] (MF.rest (MF.mk [(MK.s (ByteArray.mk #[(102 : UInt8), (108 : UInt8), (97 : UInt8), (116 : UInt8)]), V.agg [V.nil, V.nil, V.i (1 : Int)])] (MF.rest (MF.mk [] fun (x : MK) => none)))))))] false, pn (6 : Nat) (V.own (200006 : Nat)) (200006 : Nat) (Ob.row (2 : Nat) (1 : Nat) (1 : Nat) fun (i : Nat) => List.take (1 : Nat) (List.drop (i * (1 : Nat)) [V.i (-192 : Int)])), pv (7 : Nat) (V.agg [V.own (200006 : Nat), V.nil, V.i (256 : Int)]), PR.mk none none V.any [((200001 : Nat), some (Ob.mp (true, (3 : Nat)) (MF.mk [(MK.s (ByteArray.mk #[(98 : UInt8), (114 : UInt8), (105 : UInt8), (103 : UInt8), (104 : UInt8), (116 : UInt8)]), V.agg [V.own (200006 : Nat), V.nil, V.i (256 : Int)]), (MK.s (ByteArray.mk #[(119 : UInt8), (97 : UInt8), (114 : UInt8), (109 : UInt8)]), V.agg [V.own (200003 : Nat), V.own (200004 : Nat), V.i (256 : Int)]), (MK.s (ByteArray.mk #[(102 : UInt8), (108 : UInt8), (97 : UInt8), (116 : UInt8)]), V.agg [V.nil, V.nil, V.i (1 : Int)])] (MF.rest (MF.mk [(MK.s (ByteArray.mk #[(119 : UInt8), (97 : UInt8), (114 : UInt8), (109 : UInt8)]), V.agg [V.own (200003 : Nat), V.own (200004 : Nat), V.i (256 : Int)]), (MK.s (ByteArray.mk #[(102 : UInt8), (108 : UInt8), (97 : UInt8), (116 : UInt8)]), V.agg [V.nil, V.nil, V.i (1 : Int)])] (MF.rest (MF.mk [(MK.s (ByteArray.mk #[(102 : UInt8), (108 : UInt8), (97 : UInt8), (116 : UInt8)]), V.agg [V.nil, V.nil, V.i (1 : Int)])] (MF.rest (MF.mk [] fun (x : MK) => none)))))))))] false, pn (8 : Nat) (V.own (200008 : Nat)) (200008 : Nat) (Ob.row (2 : Nat) (1 : Nat) (2 : Nat) fun (i : Nat) => List.take (1 : Nat) (List.drop (i * (1 : Nat)) [V.i (32 : Int), V.i (16 : Int)])), pn (9 : Nat) (V.own (200009 : Nat)) (200009 : Nat) (Ob.row (2 : Nat) (1 : Nat) (2 : Nat) fun (i : Nat) => List.take (1 : Nat) (List.drop (i * (1 : Nat)) [V.i (96 : Int), V.i (32 : Int)])), pv (10 : Nat) (V.agg [V.own (200008 : Nat), V.own (200009 : Nat), V.i (256 : Int)]), PR.mk none none V.any [((200001 : Nat), some (Ob.mp (true, (4 : Nat)) (MF.mk [(MK.s (ByteArray.mk #[(115 : UInt8), (104 : UInt8), (101 : UInt8), (108 : UInt8), (108 : UInt8), (97 : UInt8), (99 : UInt8)]), V.agg [V.own (200008 : Nat), V.own (200009 : Nat), V.i (256 : Int)]), (MK.s (ByteArray.mk #[(98 : UInt8), (114 : UInt8), (105 : UInt8), (103 : UInt8), (104 : UInt8), (116 : UInt8)]), V.agg [V.own (200006 : Nat), V.nil, V.i (256 : Int)]), (MK.s (ByteArray.mk #[(119 : UInt8), (97 : UInt8), (114 : UInt8), (109 : UInt8)]), V.agg [V.own (200003 : Nat), V.own (200004 : Nat), V.i (256 : Int)]), (MK.s (ByteArray.mk #[(102 : UInt8), (108 : UInt8), (97 : UInt8), (116 : UInt8)]), V.agg [V.nil, V.nil, V.i (1 : Int)])] (MF.rest (MF.mk [(MK.s (ByteArray.mk #[(98 : UInt8), (114 : UInt8), (105 : UInt8), (103 : UInt8), (104 : UInt8), (116 : UInt8)]), V.agg [V.own (200006 : Nat), V.nil, V.i (256 : Int)]), (MK.s (ByteArray.mk #[(119 : UInt8), (97 : UInt8), (114 : UInt8), (109 : UInt8)]), V.agg [V.own (200003 : Nat), V.own (200004 : Nat), V.i (256 : Int)]), (MK.s (ByteArray.mk #[(102 : UInt8), (108 : UInt8), (97 : UInt8), (116 : UInt8)]), V.agg [V.nil, V.nil, V.i (1 : Int)])] (MF.rest (MF.mk [(MK.s (ByteArray.mk #[(119 : UInt8), (97 : UInt8), (114 : UInt8), (109 : UInt8)]), V.agg [V.own (200003 : Nat), V.own (200004 : Nat), V.i (256 : Int)]), (MK.s (ByteArray.mk #[(102 : UInt8), (108 : UInt8), (97 : UInt8), (116 : UInt8)]), V.agg [V.nil, V.nil, V.i (1 : Int)])] (MF.rest (MF.mk [(MK.s (ByteArray.mk #[(102 : UInt8), (108 : UInt8), (97 : UInt8), (116 : UInt8)]), V.agg [V.nil, V.nil, V.i (1 : Int)])] (MF.rest (MF.mk [] fun (x : MK) => none)))))))))))] false, pv (11 : Nat) (V.own (200001 : Nat)), pv (0 : Nat) (V.own (200001 : Nat))] (by kernel_rfl) (by kernel_rfl) True.intro ?_
  refine aops_nil ?_
  refine xt_n ?_
  refine hK _ ?_
  clear hK K
  refine aw_ret ?_
  refine ret_of_M ?_
  refine retM (v' := V.own (0 : Nat)) [(0, 200001), (4, 200008), (5, 200009), (3, 200006), (1, 200003), (2, 200004)] [(0, V.own (0 : Nat))] (.inr rfl) (.cons (by kernel_rfl) .nil) (.cons ⟨Ob.mp (true, (4 : Nat)) (MF.mk [(MK.s (ByteArray.mk #[(115 : UInt8), (104 : UInt8), (101 : UInt8), (108 : UInt8), (108 : UInt8), (97 : UInt8), (99 : UInt8)]), V.agg [V.own (200008 : Nat), V.own (200009 : Nat), V.i (256 : Int)]), (MK.s (ByteArray.mk #[(98 : UInt8), (114 : UInt8), (105 : UInt8), (103 : UInt8), (104 : UInt8), (116 : UInt8)]), V.agg [V.own (200006 : Nat), V.nil, V.i (256 : Int)]), (MK.s (ByteArray.mk #[(119 : UInt8), (97 : UInt8), (114 : UInt8), (109 : UInt8)]), V.agg [V.own (200003 : Nat), V.own (200004 : Nat), V.i (256 : Int)]), (MK.s (ByteArray.mk #[(102 : UInt8), (108 : UInt8), (97 : UInt8), (116 : UInt8)]), V.agg [V.nil, V.nil, V.i (1 : Int)])] (MF.rest (MF.mk [(MK.s (ByteArray.mk #[(98 : UInt8), (114 : UInt8), (105 : UInt8), (103 : UInt8), (104 : UInt8), (116 : UInt8)]), V.agg [V.own (200006 : Nat), V.nil, V.i (256 : Int)]), (MK.s (ByteArray.mk #[(119 : UInt8), (97 : UInt8), (114 : UInt8), (109 : UInt8)]), V.agg [V.own (200003 : Nat), V.own (200004 : Nat), V.i (256 : Int)]), (MK.s (ByteArray.mk #[(102 : UInt8), (108 : UInt8), (97 : UInt8), (116 : UInt8)]), V.agg [V.nil, V.nil, V.i (1 : Int)])] (MF.rest (MF.mk [(MK.s (ByteArray.mk #[(119 : UInt8), (97 : UInt8), (114 : UInt8), (109 : UInt8)]), V.agg [V.own (200003 : Nat), V.own (200004 : Nat), V.i (256 : Int)]), (MK.s (ByteArray.mk #[(102 : UInt8), (108 : UInt8), (97 : UInt8), (116 : UInt8)]), V.agg [V.nil, V.nil, V.i (1 : Int)])] (MF.rest (MF.mk [(MK.s (ByteArray.mk #[(102 : UInt8), (108 : UInt8), (97 : UInt8), (116 : UInt8)]), V.agg [V.nil, V.nil, V.i (1 : Int)])] (MF.rest (MF.mk [] fun (x : MK) => none))))))))), (by kernel_rfl), .mp (fun _ => rfl)⟩ (.cons ⟨Ob.row (2 : Nat) (1 : Nat) (1 : Nat) fun (i : Nat) => List.take (1 : Nat) (List.drop (i * (1 : Nat)) [V.i (64 : Int)]), (by kernel_rfl), .row (by kernel_rfl) ?_⟩ (.cons ⟨Ob.row (2 : Nat) (1 : Nat) (1 : Nat) fun (i : Nat) => List.take (1 : Nat) (List.drop (i * (1 : Nat)) [V.i (128 : Int)]), (by kernel_rfl), .row (by kernel_rfl) ?_⟩ (.cons ⟨Ob.row (2 : Nat) (1 : Nat) (1 : Nat) fun (i : Nat) => List.take (1 : Nat) (List.drop (i * (1 : Nat)) [V.i (-192 : Int)]), (by kernel_rfl), .row (by kernel_rfl) ?_⟩ (.cons ⟨Ob.row (2 : Nat) (1 : Nat) (2 : Nat) fun (i : Nat) => List.take (1 : Nat) (List.drop (i * (1 : Nat)) [V.i (32 : Int), V.i (16 : Int)]), (by kernel_rfl), .row (by kernel_rfl) ?_⟩ (.cons ⟨Ob.row (2 : Nat) (1 : Nat) (2 : Nat) fun (i : Nat) => List.take (1 : Nat) (List.drop (i * (1 : Nat)) [V.i (96 : Int), V.i (32 : Int)]), (by kernel_rfl), .row (by kernel_rfl) ?_⟩ .nil)))))) (by kernel_rfl) (by kernel_rfl) (by kernel_rfl) (by kernel_rfl) (by kernel_rfl) (by kernel_rfl) (by kernel_rfl)
  · exact r1 rfl
  · exact r1 rfl
  · exact r1 rfl
  · exact r2 rfl rfl
  · exact r2 rfl rfl
set_option maxRecDepth 100000 in
theorem NamedF_ac : AC Try.prog 42 [.c (.string nFlat)] (.tup [.agg [.nil, .nil, .i 1], .i 0]) [] := by
  refine ac_intro hTT hMX (fn := Try.f42) (N := _) ⟨Try.func42, rfl, Try.ntmps42, by kernel_rfl⟩ (by simp) fun C hC hF => ?_
  refine aw_seq_k fun K hK => ?_
  refine w_region (n' := 2) (by kernel_rfl) (by kernel_rfl) ?_
  refine aops_n hTT (M := []) (n := 2) [pn (2 : Nat) (V.ref (100002 : Nat) (0 : Nat)) (100002 : Nat) (Ob.box (24 : Nat) [V.nil, V.nil, V.i (0 : Int)]), pv (3 : Nat) (V.i (0 : Int))] (by kernel_rfl) (by kernel_rfl) True.intro ?_
  refine aops_nil ?_
  refine xt_n ?_
  refine hK _ ?_
  clear hK K
  refine aw_seq_k fun K hK => ?_
  refine w_region (n' := 3) (by kernel_rfl) (by kernel_rfl) ?_
  refine aops_callN (first := []) (caps := []) (v' := V.own (200007 : Nat)) (δ := [(200007, Option.some (Ob.mp (true, (4 : Nat)) (MF.mk [(MK.s nShel, V.agg [V.own (204007 : Nat), V.own (205007 : Nat), V.i (256 : Int)]), (MK.s nBright, V.agg [V.own (203007 : Nat), V.nil, V.i (256 : Int)]), (MK.s nWarm, V.agg [V.own (201007 : Nat), V.own (202007 : Nat), V.i (256 : Int)]), (MK.s nFlat, V.agg [V.nil, V.nil, V.i (1 : Int)])] (MF.rest cuM)))), (201007, Option.some (Ob.row (2 : Nat) (1 : Nat) (1 : Nat) fun (i : Nat) => V.renL (callG (2 : Nat) (some 7)) [V.i (gi [(64 : Int)] i)])), (202007, Option.some (Ob.row (2 : Nat) (1 : Nat) (1 : Nat) fun (i : Nat) => V.renL (callG (2 : Nat) (some 7)) [V.i (gi [(128 : Int)] i)])), (203007, Option.some (Ob.row (2 : Nat) (1 : Nat) (1 : Nat) fun (i : Nat) => V.renL (callG (2 : Nat) (some 7)) [V.i (gi [(-192 : Int)] i)])), (204007, Option.some (Ob.row (2 : Nat) (1 : Nat) (2 : Nat) fun (i : Nat) => V.renL (callG (2 : Nat) (some 7)) [V.i (gi [(32 : Int), (16 : Int)] i)])), (205007, Option.some (Ob.row (2 : Nat) (1 : Nat) (2 : Nat) fun (i : Nat) => V.renL (callG (2 : Nat) (some 7)) [V.i (gi [(96 : Int), (32 : Int)] i)]))]) (curves_ac) (by kernel_rfl) (by kernel_rfl) (by kernel_rfl) (by kernel_rfl) (by kernel_rfl) (by kernel_rfl) (by kernel_rfl) ?_
  refine aops_n hTT (M := []) (n := 8) [pv (8 : Nat) (V.c (Value.string nFlat)), pv (9 : Nat) (V.tup [V.agg [V.nil, V.nil, V.i (1 : Int)], V.b true]), pv (6 : Nat) (V.tup [V.agg [V.nil, V.nil, V.i (1 : Int)], V.b true]), pv (10 : Nat) (V.agg [V.nil, V.nil, V.i (1 : Int)]), pv (11 : Nat) (V.b true), pn (4 : Nat) (V.ref (200004 : Nat) (0 : Nat)) (200004 : Nat) (Ob.box (24 : Nat) [V.nil, V.nil, V.i (0 : Int)]), pw ((0 : Nat) + (3 : Nat) ≤ (3 : Nat)) (200004 : Nat) (Ob.box (24 : Nat) [V.nil, V.nil, V.i (1 : Int)]), pv (5 : Nat) (V.b true)] (by kernel_rfl) (by kernel_rfl) ⟨(by omega), True.intro⟩ ?_
  refine aops_nil ?_
  refine xt_n ?_
  refine hK _ ?_
  clear hK K
  refine aw_seq_k fun K hK => ?_
  refine aw_seq_k fun K hK => ?_
  refine w_region (n' := 4) (by kernel_rfl) (by kernel_rfl) ?_
  refine aops_n hTT (M := []) (n := 2) [pv (12 : Nat) (V.b true), pv (13 : Nat) (V.b false)] (by kernel_rfl) (by kernel_rfl) True.intro ?_
  refine aops_nil ?_
  refine xt_n ?_
  refine hK _ ?_
  clear hK K
  refine w_false (t := false) (by kernel_rfl) rfl ?_
  refine aw_skip ?_
  refine xt_n ?_
  refine hK _ ?_
  clear hK K
  refine aw_seq_k fun K hK => ?_
  refine w_region (n' := 5) (by kernel_rfl) (by kernel_rfl) ?_
  refine aops_n hTT (M := []) (n := 3) [pc (15 : Nat) ((0 : Nat) ≤ (3 : Nat)) (V.agg [V.nil, V.nil, V.i (1 : Int)]), pw ((0 : Nat) + (3 : Nat) ≤ (3 : Nat)) (100002 : Nat) (Ob.box (24 : Nat) [V.nil, V.nil, V.i (1 : Int)]), pv (3 : Nat) (V.i (0 : Int))] (by kernel_rfl) (by kernel_rfl) ⟨(by omega), (by omega), True.intro⟩ ?_
  refine aops_nil ?_
  refine xt_n ?_
  refine hK _ ?_
  clear hK K
  refine aw_ret ?_
  refine ret_pure (v' := V.tup [V.agg [V.nil, V.nil, V.i (1 : Int)], V.i (0 : Int)]) (.inr rfl) (by kernel_rfl) (by kernel_rfl) (by kernel_rfl)
set_option maxRecDepth 100000 in
theorem NamedW_ac : AC Try.prog 42 [.c (.string nWarm)] (.tup [.agg [.own 0, .own 1, .i 256], .i 0]) [oRow [64], oRow [128]] := by
  refine ac_intro hTT hMX (fn := Try.f42) (N := _) ⟨Try.func42, rfl, Try.ntmps42, by kernel_rfl⟩ (by simp) fun C hC hF => ?_
  refine aw_seq_k fun K hK => ?_
  refine w_region (n' := 2) (by kernel_rfl) (by kernel_rfl) ?_
  refine aops_n hTT (M := []) (n := 2) [pn (2 : Nat) (V.ref (100002 : Nat) (0 : Nat)) (100002 : Nat) (Ob.box (24 : Nat) [V.nil, V.nil, V.i (0 : Int)]), pv (3 : Nat) (V.i (0 : Int))] (by kernel_rfl) (by kernel_rfl) True.intro ?_
  refine aops_nil ?_
  refine xt_n ?_
  refine hK _ ?_
  clear hK K
  refine aw_seq_k fun K hK => ?_
  refine w_region (n' := 3) (by kernel_rfl) (by kernel_rfl) ?_
  refine aops_callN (first := []) (caps := []) (v' := V.own (200007 : Nat)) (δ := [(200007, Option.some (Ob.mp (true, (4 : Nat)) (MF.mk [(MK.s nShel, V.agg [V.own (204007 : Nat), V.own (205007 : Nat), V.i (256 : Int)]), (MK.s nBright, V.agg [V.own (203007 : Nat), V.nil, V.i (256 : Int)]), (MK.s nWarm, V.agg [V.own (201007 : Nat), V.own (202007 : Nat), V.i (256 : Int)]), (MK.s nFlat, V.agg [V.nil, V.nil, V.i (1 : Int)])] (MF.rest cuM)))), (201007, Option.some (Ob.row (2 : Nat) (1 : Nat) (1 : Nat) fun (i : Nat) => V.renL (callG (2 : Nat) (some 7)) [V.i (gi [(64 : Int)] i)])), (202007, Option.some (Ob.row (2 : Nat) (1 : Nat) (1 : Nat) fun (i : Nat) => V.renL (callG (2 : Nat) (some 7)) [V.i (gi [(128 : Int)] i)])), (203007, Option.some (Ob.row (2 : Nat) (1 : Nat) (1 : Nat) fun (i : Nat) => V.renL (callG (2 : Nat) (some 7)) [V.i (gi [(-192 : Int)] i)])), (204007, Option.some (Ob.row (2 : Nat) (1 : Nat) (2 : Nat) fun (i : Nat) => V.renL (callG (2 : Nat) (some 7)) [V.i (gi [(32 : Int), (16 : Int)] i)])), (205007, Option.some (Ob.row (2 : Nat) (1 : Nat) (2 : Nat) fun (i : Nat) => V.renL (callG (2 : Nat) (some 7)) [V.i (gi [(96 : Int), (32 : Int)] i)]))]) (curves_ac) (by kernel_rfl) (by kernel_rfl) (by kernel_rfl) (by kernel_rfl) (by kernel_rfl) (by kernel_rfl) (by kernel_rfl) ?_
  refine aops_n hTT (M := []) (n := 8) [pv (8 : Nat) (V.c (Value.string nWarm)), pv (9 : Nat) (V.tup [V.agg [V.own (201007 : Nat), V.own (202007 : Nat), V.i (256 : Int)], V.b true]), pv (6 : Nat) (V.tup [V.agg [V.own (201007 : Nat), V.own (202007 : Nat), V.i (256 : Int)], V.b true]), pv (10 : Nat) (V.agg [V.own (201007 : Nat), V.own (202007 : Nat), V.i (256 : Int)]), pv (11 : Nat) (V.b true), pn (4 : Nat) (V.ref (200004 : Nat) (0 : Nat)) (200004 : Nat) (Ob.box (24 : Nat) [V.nil, V.nil, V.i (0 : Int)]), pw ((0 : Nat) + (3 : Nat) ≤ (3 : Nat)) (200004 : Nat) (Ob.box (24 : Nat) [V.own (201007 : Nat), V.own (202007 : Nat), V.i (256 : Int)]), pv (5 : Nat) (V.b true)] (by kernel_rfl) (by kernel_rfl) ⟨(by omega), True.intro⟩ ?_
  refine aops_nil ?_
  refine xt_n ?_
  refine hK _ ?_
  clear hK K
  refine aw_seq_k fun K hK => ?_
  refine aw_seq_k fun K hK => ?_
  refine w_region (n' := 4) (by kernel_rfl) (by kernel_rfl) ?_
  refine aops_n hTT (M := []) (n := 2) [pv (12 : Nat) (V.b true), pv (13 : Nat) (V.b false)] (by kernel_rfl) (by kernel_rfl) True.intro ?_
  refine aops_nil ?_
  refine xt_n ?_
  refine hK _ ?_
  clear hK K
  refine w_false (t := false) (by kernel_rfl) rfl ?_
  refine aw_skip ?_
  refine xt_n ?_
  refine hK _ ?_
  clear hK K
  refine aw_seq_k fun K hK => ?_
  refine w_region (n' := 5) (by kernel_rfl) (by kernel_rfl) ?_
  refine aops_n hTT (M := []) (n := 3) [pc (15 : Nat) ((0 : Nat) ≤ (3 : Nat)) (V.agg [V.own (201007 : Nat), V.own (202007 : Nat), V.i (256 : Int)]), pw ((0 : Nat) + (3 : Nat) ≤ (3 : Nat)) (100002 : Nat) (Ob.box (24 : Nat) [V.own (201007 : Nat), V.own (202007 : Nat), V.i (256 : Int)]), pv (3 : Nat) (V.i (0 : Int))] (by kernel_rfl) (by kernel_rfl) ⟨(by omega), (by omega), True.intro⟩ ?_
  refine aops_nil ?_
  refine xt_n ?_
  refine hK _ ?_
  clear hK K
  refine aw_ret ?_
  refine ret_of_M ?_
  refine retMx (v' := V.tup [V.agg [V.own (0 : Nat), V.own (1 : Nat), V.i (256 : Int)], V.i (0 : Int)]) [(0, 201007), (1, 202007), (100, 100002)] [(2, V.ref (100 : Nat) (0 : Nat)), (3, V.i (0 : Int))] [(100, Ob.box (24 : Nat) [V.own (0 : Nat), V.own (1 : Nat), V.i (256 : Int)])] (.inr rfl) (.cons (by kernel_rfl) (.cons (by kernel_rfl) .nil)) (.cons ⟨Ob.row (2 : Nat) (1 : Nat) (1 : Nat) fun (i : Nat) => V.renL (callG (2 : Nat) (some (7 : Tmp))) [V.i (gi [(64 : Int)] i)], (by kernel_rfl), .row (by kernel_rfl) (fun _ _ => rfl)⟩ (.cons ⟨Ob.row (2 : Nat) (1 : Nat) (1 : Nat) fun (i : Nat) => V.renL (callG (2 : Nat) (some (7 : Tmp))) [V.i (gi [(128 : Int)] i)], (by kernel_rfl), .row (by kernel_rfl) (fun _ _ => rfl)⟩ (.cons ⟨Ob.box (24 : Nat) [V.own (201007 : Nat), V.own (202007 : Nat), V.i (256 : Int)], (by kernel_rfl), .box (by kernel_rfl)⟩ .nil))) (by kernel_rfl) (by kernel_rfl) (by kernel_rfl) (by kernel_rfl) (by kernel_rfl) (by kernel_rfl) (by kernel_rfl)
set_option maxRecDepth 100000 in
theorem NamedB_ac : AC Try.prog 42 [.c (.string nBright)] (.tup [.agg [.own 0, .nil, .i 256], .i 0]) [oRow [-192]] := by
  refine ac_intro hTT hMX (fn := Try.f42) (N := _) ⟨Try.func42, rfl, Try.ntmps42, by kernel_rfl⟩ (by simp) fun C hC hF => ?_
  refine aw_seq_k fun K hK => ?_
  refine w_region (n' := 2) (by kernel_rfl) (by kernel_rfl) ?_
  refine aops_n hTT (M := []) (n := 2) [pn (2 : Nat) (V.ref (100002 : Nat) (0 : Nat)) (100002 : Nat) (Ob.box (24 : Nat) [V.nil, V.nil, V.i (0 : Int)]), pv (3 : Nat) (V.i (0 : Int))] (by kernel_rfl) (by kernel_rfl) True.intro ?_
  refine aops_nil ?_
  refine xt_n ?_
  refine hK _ ?_
  clear hK K
  refine aw_seq_k fun K hK => ?_
  refine w_region (n' := 3) (by kernel_rfl) (by kernel_rfl) ?_
  refine aops_callN (first := []) (caps := []) (v' := V.own (200007 : Nat)) (δ := [(200007, Option.some (Ob.mp (true, (4 : Nat)) (MF.mk [(MK.s nShel, V.agg [V.own (204007 : Nat), V.own (205007 : Nat), V.i (256 : Int)]), (MK.s nBright, V.agg [V.own (203007 : Nat), V.nil, V.i (256 : Int)]), (MK.s nWarm, V.agg [V.own (201007 : Nat), V.own (202007 : Nat), V.i (256 : Int)]), (MK.s nFlat, V.agg [V.nil, V.nil, V.i (1 : Int)])] (MF.rest cuM)))), (201007, Option.some (Ob.row (2 : Nat) (1 : Nat) (1 : Nat) fun (i : Nat) => V.renL (callG (2 : Nat) (some 7)) [V.i (gi [(64 : Int)] i)])), (202007, Option.some (Ob.row (2 : Nat) (1 : Nat) (1 : Nat) fun (i : Nat) => V.renL (callG (2 : Nat) (some 7)) [V.i (gi [(128 : Int)] i)])), (203007, Option.some (Ob.row (2 : Nat) (1 : Nat) (1 : Nat) fun (i : Nat) => V.renL (callG (2 : Nat) (some 7)) [V.i (gi [(-192 : Int)] i)])), (204007, Option.some (Ob.row (2 : Nat) (1 : Nat) (2 : Nat) fun (i : Nat) => V.renL (callG (2 : Nat) (some 7)) [V.i (gi [(32 : Int), (16 : Int)] i)])), (205007, Option.some (Ob.row (2 : Nat) (1 : Nat) (2 : Nat) fun (i : Nat) => V.renL (callG (2 : Nat) (some 7)) [V.i (gi [(96 : Int), (32 : Int)] i)]))]) (curves_ac) (by kernel_rfl) (by kernel_rfl) (by kernel_rfl) (by kernel_rfl) (by kernel_rfl) (by kernel_rfl) (by kernel_rfl) ?_
  refine aops_n hTT (M := []) (n := 8) [pv (8 : Nat) (V.c (Value.string nBright)), pv (9 : Nat) (V.tup [V.agg [V.own (203007 : Nat), V.nil, V.i (256 : Int)], V.b true]), pv (6 : Nat) (V.tup [V.agg [V.own (203007 : Nat), V.nil, V.i (256 : Int)], V.b true]), pv (10 : Nat) (V.agg [V.own (203007 : Nat), V.nil, V.i (256 : Int)]), pv (11 : Nat) (V.b true), pn (4 : Nat) (V.ref (200004 : Nat) (0 : Nat)) (200004 : Nat) (Ob.box (24 : Nat) [V.nil, V.nil, V.i (0 : Int)]), pw ((0 : Nat) + (3 : Nat) ≤ (3 : Nat)) (200004 : Nat) (Ob.box (24 : Nat) [V.own (203007 : Nat), V.nil, V.i (256 : Int)]), pv (5 : Nat) (V.b true)] (by kernel_rfl) (by kernel_rfl) ⟨(by omega), True.intro⟩ ?_
  refine aops_nil ?_
  refine xt_n ?_
  refine hK _ ?_
  clear hK K
  refine aw_seq_k fun K hK => ?_
  refine aw_seq_k fun K hK => ?_
  refine w_region (n' := 4) (by kernel_rfl) (by kernel_rfl) ?_
  refine aops_n hTT (M := []) (n := 2) [pv (12 : Nat) (V.b true), pv (13 : Nat) (V.b false)] (by kernel_rfl) (by kernel_rfl) True.intro ?_
  refine aops_nil ?_
  refine xt_n ?_
  refine hK _ ?_
  clear hK K
  refine w_false (t := false) (by kernel_rfl) rfl ?_
  refine aw_skip ?_
  refine xt_n ?_
  refine hK _ ?_
  clear hK K
  refine aw_seq_k fun K hK => ?_
  refine w_region (n' := 5) (by kernel_rfl) (by kernel_rfl) ?_
  refine aops_n hTT (M := []) (n := 3) [pc (15 : Nat) ((0 : Nat) ≤ (3 : Nat)) (V.agg [V.own (203007 : Nat), V.nil, V.i (256 : Int)]), pw ((0 : Nat) + (3 : Nat) ≤ (3 : Nat)) (100002 : Nat) (Ob.box (24 : Nat) [V.own (203007 : Nat), V.nil, V.i (256 : Int)]), pv (3 : Nat) (V.i (0 : Int))] (by kernel_rfl) (by kernel_rfl) ⟨(by omega), (by omega), True.intro⟩ ?_
  refine aops_nil ?_
  refine xt_n ?_
  refine hK _ ?_
  clear hK K
  refine aw_ret ?_
  refine ret_of_M ?_
  refine retMx (v' := V.tup [V.agg [V.own (0 : Nat), V.nil, V.i (256 : Int)], V.i (0 : Int)]) [(0, 203007), (100, 100002)] [(2, V.ref (100 : Nat) (0 : Nat)), (3, V.i (0 : Int))] [(100, Ob.box (24 : Nat) [V.own (0 : Nat), V.nil, V.i (256 : Int)])] (.inr rfl) (.cons (by kernel_rfl) (.cons (by kernel_rfl) .nil)) (.cons ⟨Ob.row (2 : Nat) (1 : Nat) (1 : Nat) fun (i : Nat) => V.renL (callG (2 : Nat) (some (7 : Tmp))) [V.i (gi [(-192 : Int)] i)], (by kernel_rfl), .row (by kernel_rfl) (fun _ _ => rfl)⟩ (.cons ⟨Ob.box (24 : Nat) [V.own (203007 : Nat), V.nil, V.i (256 : Int)], (by kernel_rfl), .box (by kernel_rfl)⟩ .nil)) (by kernel_rfl) (by kernel_rfl) (by kernel_rfl) (by kernel_rfl) (by kernel_rfl) (by kernel_rfl) (by kernel_rfl)
set_option maxRecDepth 100000 in
theorem NamedS_ac : AC Try.prog 42 [.c (.string nShel)] (.tup [.agg [.own 0, .own 1, .i 256], .i 0]) [oRow [32, 16], oRow [96, 32]] := by
  refine ac_intro hTT hMX (fn := Try.f42) (N := _) ⟨Try.func42, rfl, Try.ntmps42, by kernel_rfl⟩ (by simp) fun C hC hF => ?_
  refine aw_seq_k fun K hK => ?_
  refine w_region (n' := 2) (by kernel_rfl) (by kernel_rfl) ?_
  refine aops_n hTT (M := []) (n := 2) [pn (2 : Nat) (V.ref (100002 : Nat) (0 : Nat)) (100002 : Nat) (Ob.box (24 : Nat) [V.nil, V.nil, V.i (0 : Int)]), pv (3 : Nat) (V.i (0 : Int))] (by kernel_rfl) (by kernel_rfl) True.intro ?_
  refine aops_nil ?_
  refine xt_n ?_
  refine hK _ ?_
  clear hK K
  refine aw_seq_k fun K hK => ?_
  refine w_region (n' := 3) (by kernel_rfl) (by kernel_rfl) ?_
  refine aops_callN (first := []) (caps := []) (v' := V.own (200007 : Nat)) (δ := [(200007, Option.some (Ob.mp (true, (4 : Nat)) (MF.mk [(MK.s nShel, V.agg [V.own (204007 : Nat), V.own (205007 : Nat), V.i (256 : Int)]), (MK.s nBright, V.agg [V.own (203007 : Nat), V.nil, V.i (256 : Int)]), (MK.s nWarm, V.agg [V.own (201007 : Nat), V.own (202007 : Nat), V.i (256 : Int)]), (MK.s nFlat, V.agg [V.nil, V.nil, V.i (1 : Int)])] (MF.rest cuM)))), (201007, Option.some (Ob.row (2 : Nat) (1 : Nat) (1 : Nat) fun (i : Nat) => V.renL (callG (2 : Nat) (some 7)) [V.i (gi [(64 : Int)] i)])), (202007, Option.some (Ob.row (2 : Nat) (1 : Nat) (1 : Nat) fun (i : Nat) => V.renL (callG (2 : Nat) (some 7)) [V.i (gi [(128 : Int)] i)])), (203007, Option.some (Ob.row (2 : Nat) (1 : Nat) (1 : Nat) fun (i : Nat) => V.renL (callG (2 : Nat) (some 7)) [V.i (gi [(-192 : Int)] i)])), (204007, Option.some (Ob.row (2 : Nat) (1 : Nat) (2 : Nat) fun (i : Nat) => V.renL (callG (2 : Nat) (some 7)) [V.i (gi [(32 : Int), (16 : Int)] i)])), (205007, Option.some (Ob.row (2 : Nat) (1 : Nat) (2 : Nat) fun (i : Nat) => V.renL (callG (2 : Nat) (some 7)) [V.i (gi [(96 : Int), (32 : Int)] i)]))]) (curves_ac) (by kernel_rfl) (by kernel_rfl) (by kernel_rfl) (by kernel_rfl) (by kernel_rfl) (by kernel_rfl) (by kernel_rfl) ?_
  refine aops_n hTT (M := []) (n := 8) [pv (8 : Nat) (V.c (Value.string nShel)), pv (9 : Nat) (V.tup [V.agg [V.own (204007 : Nat), V.own (205007 : Nat), V.i (256 : Int)], V.b true]), pv (6 : Nat) (V.tup [V.agg [V.own (204007 : Nat), V.own (205007 : Nat), V.i (256 : Int)], V.b true]), pv (10 : Nat) (V.agg [V.own (204007 : Nat), V.own (205007 : Nat), V.i (256 : Int)]), pv (11 : Nat) (V.b true), pn (4 : Nat) (V.ref (200004 : Nat) (0 : Nat)) (200004 : Nat) (Ob.box (24 : Nat) [V.nil, V.nil, V.i (0 : Int)]), pw ((0 : Nat) + (3 : Nat) ≤ (3 : Nat)) (200004 : Nat) (Ob.box (24 : Nat) [V.own (204007 : Nat), V.own (205007 : Nat), V.i (256 : Int)]), pv (5 : Nat) (V.b true)] (by kernel_rfl) (by kernel_rfl) ⟨(by omega), True.intro⟩ ?_
  refine aops_nil ?_
  refine xt_n ?_
  refine hK _ ?_
  clear hK K
  refine aw_seq_k fun K hK => ?_
  refine aw_seq_k fun K hK => ?_
  refine w_region (n' := 4) (by kernel_rfl) (by kernel_rfl) ?_
  refine aops_n hTT (M := []) (n := 2) [pv (12 : Nat) (V.b true), pv (13 : Nat) (V.b false)] (by kernel_rfl) (by kernel_rfl) True.intro ?_
  refine aops_nil ?_
  refine xt_n ?_
  refine hK _ ?_
  clear hK K
  refine w_false (t := false) (by kernel_rfl) rfl ?_
  refine aw_skip ?_
  refine xt_n ?_
  refine hK _ ?_
  clear hK K
  refine aw_seq_k fun K hK => ?_
  refine w_region (n' := 5) (by kernel_rfl) (by kernel_rfl) ?_
  refine aops_n hTT (M := []) (n := 3) [pc (15 : Nat) ((0 : Nat) ≤ (3 : Nat)) (V.agg [V.own (204007 : Nat), V.own (205007 : Nat), V.i (256 : Int)]), pw ((0 : Nat) + (3 : Nat) ≤ (3 : Nat)) (100002 : Nat) (Ob.box (24 : Nat) [V.own (204007 : Nat), V.own (205007 : Nat), V.i (256 : Int)]), pv (3 : Nat) (V.i (0 : Int))] (by kernel_rfl) (by kernel_rfl) ⟨(by omega), (by omega), True.intro⟩ ?_
  refine aops_nil ?_
  refine xt_n ?_
  refine hK _ ?_
  clear hK K
  refine aw_ret ?_
  refine ret_of_M ?_
  refine retMx (v' := V.tup [V.agg [V.own (0 : Nat), V.own (1 : Nat), V.i (256 : Int)], V.i (0 : Int)]) [(0, 204007), (1, 205007), (100, 100002)] [(2, V.ref (100 : Nat) (0 : Nat)), (3, V.i (0 : Int))] [(100, Ob.box (24 : Nat) [V.own (0 : Nat), V.own (1 : Nat), V.i (256 : Int)])] (.inr rfl) (.cons (by kernel_rfl) (.cons (by kernel_rfl) .nil)) (.cons ⟨Ob.row (2 : Nat) (1 : Nat) (2 : Nat) fun (i : Nat) => V.renL (callG (2 : Nat) (some (7 : Tmp))) [V.i (gi [(32 : Int), (16 : Int)] i)], (by kernel_rfl), .row (by kernel_rfl) (fun _ _ => rfl)⟩ (.cons ⟨Ob.row (2 : Nat) (1 : Nat) (2 : Nat) fun (i : Nat) => V.renL (callG (2 : Nat) (some (7 : Tmp))) [V.i (gi [(96 : Int), (32 : Int)] i)], (by kernel_rfl), .row (by kernel_rfl) (fun _ _ => rfl)⟩ (.cons ⟨Ob.box (24 : Nat) [V.own (204007 : Nat), V.own (205007 : Nat), V.i (256 : Int)], (by kernel_rfl), .box (by kernel_rfl)⟩ .nil))) (by kernel_rfl) (by kernel_rfl) (by kernel_rfl) (by kernel_rfl) (by kernel_rfl) (by kernel_rfl) (by kernel_rfl)
theorem cuM_none {b : ByteArray} (h1 : b ≠ nFlat) (h2 : b ≠ nWarm) (h3 : b ≠ nBright) (h4 : b ≠ nShel) (a1 a2 a3 a4 : V) : MF.look ⟨[(.s nShel, a1), (.s nBright, a2), (.s nWarm, a3), (.s nFlat, a4)], cuM.rest⟩ (.s b) = none := by
  simp [cuM, MF.look, lookL, h1, h2, h3, h4]
theorem mget_none {f : MF} {k : MK} {z : V} (h : f.look k = none) : mget f k z = z := by rw [mget, h]; rfl
theorem mhas_none {f : MF} {k : MK} (h : f.look k = none) : mhas f k = false := by rw [mhas, h]; rfl
set_option maxRecDepth 100000 in
theorem NamedN_ac {b : ByteArray} (h1 : b ≠ nFlat) (h2 : b ≠ nWarm) (h3 : b ≠ nBright) (h4 : b ≠ nShel) : AC Try.prog 42 [.c (.string b)] (.tup [.agg [.nil, .nil, .i 0], .i 5]) [] := by
  have hl := cuM_none h1 h2 h3 h4
  refine ac_intro hTT hMX (fn := Try.f42) (N := _) ⟨Try.func42, rfl, Try.ntmps42, by kernel_rfl⟩ (by simp) fun C hC hF => ?_
  refine aw_seq_k fun K hK => ?_
  refine w_region (n' := 2) (by kernel_rfl) (by kernel_rfl) ?_
  refine aops_n hTT (M := []) (n := 2) [pn (2 : Nat) (V.ref (100002 : Nat) (0 : Nat)) (100002 : Nat) (Ob.box (24 : Nat) [V.nil, V.nil, V.i (0 : Int)]), pv (3 : Nat) (V.i (0 : Int))] (by kernel_rfl) (by kernel_rfl) True.intro ?_
  refine aops_nil ?_
  refine xt_n ?_
  refine hK _ ?_
  clear hK K
  refine aw_seq_k fun K hK => ?_
  refine w_region (n' := 3) (by kernel_rfl) (by kernel_rfl) ?_
  refine aops_callN (first := []) (caps := []) (v' := V.own (200007 : Nat)) (δ := [(200007, Option.some (Ob.mp (true, (4 : Nat)) (MF.mk [(MK.s nShel, V.agg [V.own (204007 : Nat), V.own (205007 : Nat), V.i (256 : Int)]), (MK.s nBright, V.agg [V.own (203007 : Nat), V.nil, V.i (256 : Int)]), (MK.s nWarm, V.agg [V.own (201007 : Nat), V.own (202007 : Nat), V.i (256 : Int)]), (MK.s nFlat, V.agg [V.nil, V.nil, V.i (1 : Int)])] (MF.rest cuM)))), (201007, Option.some (Ob.row (2 : Nat) (1 : Nat) (1 : Nat) fun (i : Nat) => V.renL (callG (2 : Nat) (some 7)) [V.i (gi [(64 : Int)] i)])), (202007, Option.some (Ob.row (2 : Nat) (1 : Nat) (1 : Nat) fun (i : Nat) => V.renL (callG (2 : Nat) (some 7)) [V.i (gi [(128 : Int)] i)])), (203007, Option.some (Ob.row (2 : Nat) (1 : Nat) (1 : Nat) fun (i : Nat) => V.renL (callG (2 : Nat) (some 7)) [V.i (gi [(-192 : Int)] i)])), (204007, Option.some (Ob.row (2 : Nat) (1 : Nat) (2 : Nat) fun (i : Nat) => V.renL (callG (2 : Nat) (some 7)) [V.i (gi [(32 : Int), (16 : Int)] i)])), (205007, Option.some (Ob.row (2 : Nat) (1 : Nat) (2 : Nat) fun (i : Nat) => V.renL (callG (2 : Nat) (some 7)) [V.i (gi [(96 : Int), (32 : Int)] i)]))]) (curves_ac) (by kernel_rfl) (by kernel_rfl) (by kernel_rfl) (by kernel_rfl) (by kernel_rfl) (by kernel_rfl) (by kernel_rfl) ?_
  refine aops_n hTT (M := []) (n := 6) [pv (8 : Nat) (V.c (Value.string b)), pv (9 : Nat) (V.tup [mget (MF.mk [(MK.s nShel, V.agg [V.own (204007 : Nat), V.own (205007 : Nat), V.i (256 : Int)]), (MK.s nBright, V.agg [V.own (203007 : Nat), V.nil, V.i (256 : Int)]), (MK.s nWarm, V.agg [V.own (201007 : Nat), V.own (202007 : Nat), V.i (256 : Int)]), (MK.s nFlat, V.agg [V.nil, V.nil, V.i (1 : Int)])] (MF.rest cuM)) (MK.s b) (V.agg [V.nil, V.nil, V.c (Value.int IntKind.i64 (0 : Int))]), V.b (mhas (MF.mk [(MK.s nShel, V.agg [V.own (204007 : Nat), V.own (205007 : Nat), V.i (256 : Int)]), (MK.s nBright, V.agg [V.own (203007 : Nat), V.nil, V.i (256 : Int)]), (MK.s nWarm, V.agg [V.own (201007 : Nat), V.own (202007 : Nat), V.i (256 : Int)]), (MK.s nFlat, V.agg [V.nil, V.nil, V.i (1 : Int)])] (MF.rest cuM)) (MK.s b))]), pv (6 : Nat) (V.tup [mget (MF.mk [(MK.s nShel, V.agg [V.own (204007 : Nat), V.own (205007 : Nat), V.i (256 : Int)]), (MK.s nBright, V.agg [V.own (203007 : Nat), V.nil, V.i (256 : Int)]), (MK.s nWarm, V.agg [V.own (201007 : Nat), V.own (202007 : Nat), V.i (256 : Int)]), (MK.s nFlat, V.agg [V.nil, V.nil, V.i (1 : Int)])] (MF.rest cuM)) (MK.s b) (V.agg [V.nil, V.nil, V.c (Value.int IntKind.i64 (0 : Int))]), V.b (mhas (MF.mk [(MK.s nShel, V.agg [V.own (204007 : Nat), V.own (205007 : Nat), V.i (256 : Int)]), (MK.s nBright, V.agg [V.own (203007 : Nat), V.nil, V.i (256 : Int)]), (MK.s nWarm, V.agg [V.own (201007 : Nat), V.own (202007 : Nat), V.i (256 : Int)]), (MK.s nFlat, V.agg [V.nil, V.nil, V.i (1 : Int)])] (MF.rest cuM)) (MK.s b))]), pv (10 : Nat) (mget (MF.mk [(MK.s nShel, V.agg [V.own (204007 : Nat), V.own (205007 : Nat), V.i (256 : Int)]), (MK.s nBright, V.agg [V.own (203007 : Nat), V.nil, V.i (256 : Int)]), (MK.s nWarm, V.agg [V.own (201007 : Nat), V.own (202007 : Nat), V.i (256 : Int)]), (MK.s nFlat, V.agg [V.nil, V.nil, V.i (1 : Int)])] (MF.rest cuM)) (MK.s b) (V.agg [V.nil, V.nil, V.c (Value.int IntKind.i64 (0 : Int))])), pv (11 : Nat) (V.b (mhas (MF.mk [(MK.s nShel, V.agg [V.own (204007 : Nat), V.own (205007 : Nat), V.i (256 : Int)]), (MK.s nBright, V.agg [V.own (203007 : Nat), V.nil, V.i (256 : Int)]), (MK.s nWarm, V.agg [V.own (201007 : Nat), V.own (202007 : Nat), V.i (256 : Int)]), (MK.s nFlat, V.agg [V.nil, V.nil, V.i (1 : Int)])] (MF.rest cuM)) (MK.s b))), pn (4 : Nat) (V.ref (200004 : Nat) (0 : Nat)) (200004 : Nat) (Ob.box (24 : Nat) [V.nil, V.nil, V.i (0 : Int)])] (by kernel_rfl) (by kernel_rfl) True.intro ?_
  rw [mget_none (hl _ _ _ _), mhas_none (hl _ _ _ _)]
  refine aops_n hTT (M := []) (n := 2) [pw ((0 : Nat) + (3 : Nat) ≤ (3 : Nat)) (200004 : Nat) (Ob.box (24 : Nat) [V.nil, V.nil, V.i (0 : Int)]), pv (5 : Nat) (V.b false)] (by kernel_rfl) (by kernel_rfl) ⟨(by omega), True.intro⟩ ?_
  refine aops_nil ?_
  refine xt_n ?_
  refine hK _ ?_
  clear hK K
  refine aw_seq_k fun K hK => ?_
  refine aw_seq_k fun K hK => ?_
  refine w_region (n' := 4) (by kernel_rfl) (by kernel_rfl) ?_
  refine aops_n hTT (M := []) (n := 2) [pv (12 : Nat) (V.b false), pv (13 : Nat) (V.b true)] (by kernel_rfl) (by kernel_rfl) True.intro ?_
  refine aops_nil ?_
  refine xt_n ?_
  refine hK _ ?_
  clear hK K
  refine w_true (t := true) (by kernel_rfl) rfl ?_
  refine aw_seq_k fun K hK => ?_
  refine w_region (n' := 5) (by kernel_rfl) (by kernel_rfl) ?_
  refine aops_n hTT (M := []) (n := 3) [pv (14 : Nat) (V.agg [V.nil, V.nil, V.i (0 : Int)]), pw ((0 : Nat) + (3 : Nat) ≤ (3 : Nat)) (100002 : Nat) (Ob.box (24 : Nat) [V.nil, V.nil, V.i (0 : Int)]), pv (3 : Nat) (V.i (5 : Int))] (by kernel_rfl) (by kernel_rfl) ⟨(by omega), True.intro⟩ ?_
  refine aops_nil ?_
  refine xt_n ?_
  refine hK _ ?_
  clear hK K
  refine aw_ret ?_
  refine xt_r ?_
  refine ret_pure (v' := V.tup [V.agg [V.nil, V.nil, V.i (0 : Int)], V.i (5 : Int)]) (.inr rfl) (by kernel_rfl) (by kernel_rfl) (by kernel_rfl)
end Go.Proofs.Ytblipieipldanaa
