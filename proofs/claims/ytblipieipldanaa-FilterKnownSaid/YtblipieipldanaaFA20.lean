/-
  filter.curves and filter.Named: the map of named curves. No condition.
-/
import Derived.Test.YtblipieipldanaaMD
import Derived.Test.YtblipieipldanaaFA11
namespace Go.Proofs.Ytblipieipldanaa
open Go.Ab Go.RowKit Go.Dw Go.Shelf

def nFlat : ByteArray := ⟨#[102, 108, 97, 116]⟩
def nWarm : ByteArray := ⟨#[119, 97, 114, 109]⟩
def nBright : ByteArray := ⟨#[98, 114, 105, 103, 104, 116]⟩
def nShel : ByteArray := ⟨#[115, 104, 101, 108, 108, 97, 99]⟩
def oRow (l : List Int) : Ob := .row 2 1 l.length fun i => [.i (gi l i)]
def cuM : MF := ⟨[(.s nShel, .agg [.own 4, .own 5, .i 256]), (.s nBright, .agg [.own 3, .nil, .i 256]), (.s nWarm, .agg [.own 1, .own 2, .i 256]), (.s nFlat, .agg [.nil, .nil, .i 1])], fun _ => none⟩
theorem r1 {p : Nat → Prop} (h : p 0) : ∀ i, i < 1 → p i := fun i hi => by
  obtain rfl : i = 0 := by omega
  exact h
theorem r2 {p : Nat → Prop} (h : p 0) (k : p 1) : ∀ i, i < 2 → p i := fun i hi => by
  rcases (by omega : i = 0 ∨ i = 1) with rfl | rfl
  · exact h
  · exact k
set_option maxRecDepth 100000 in
theorem curves_ac : AC Try.prog 72 [] (.own 0) [.mp (true, 4) cuM, oRow [64], oRow [128], oRow [-192], oRow [32, 16], oRow [96, 32]] := by
  refine ac_intro hTT hMX (fn := Try.f72) (N := _) ⟨Try.func72, rfl, Try.ntmps72, by kernel_rfl⟩ (by simp) fun C hC hF => ?_
  refine aw_seq_k fun K hK => ?_
  refine w_region (n' := 2) (by kernel_rfl) (by kernel_rfl) ?_
  refine aops_n hTT (M := [3, 4, 6, 8, 9]) (n := 1) [pv (0 : Nat) (V.c (Value.map none))] (by kernel_rfl) (by kernel_rfl) True.intro ?_
  refine aops_nil ?_
  refine xt_n ?_
  refine hK _ ?_
  clear hK K
  refine aw_seq_k fun K hK => ?_
  refine w_region (n' := 3) (by kernel_rfl) (by kernel_rfl) ?_
  refine aops_n hTT (M := [3, 4, 6, 8, 9]) (n := 16) [pn (1 : Nat) (V.own (200001 : Nat)) (200001 : Nat) (Ob.mp (true, (0 : Nat)) (MF.mk [] fun (x : MK) => none)), pv (2 : Nat) (V.agg [V.nil, V.nil, V.i (1 : Int)]), PR.mk none none V.any [((200001 : Nat), some (Ob.mp (true, (1 : Nat)) (MF.mk [(MK.s (ByteArray.mk #[(102 : UInt8), (108 : UInt8), (97 : UInt8), (116 : UInt8)]), V.agg [V.nil, V.nil, V.i (1 : Int)])] (MF.rest (MF.mk [] fun (x : MK) => none)))))] false, pn (3 : Nat) (V.own (200003 : Nat)) (200003 : Nat) (Ob.row (2 : Nat) (1 : Nat) (1 : Nat) fun (i : Nat) => List.take (1 : Nat) (List.drop (i * (1 : Nat)) [V.i (64 : Int)])), pn (4 : Nat) (V.own (200004 : Nat)) (200004 : Nat) (Ob.row (2 : Nat) (1 : Nat) (1 : Nat) fun (i : Nat) => List.take (1 : Nat) (List.drop (i * (1 : Nat)) [V.i (128 : Int)])), pv (5 : Nat) (V.agg [V.own (200003 : Nat), V.own (200004 : Nat), V.i (256 : Int)]), PR.mk none none V.any [((200001 : Nat), some (Ob.mp (true, (2 : Nat)) (MF.mk [(MK.s (ByteArray.mk #[(119 : UInt8), (97 : UInt8), (114 : UInt8), (109 : UInt8)]), V.agg [V.own (200003 : Nat), V.own (200004 : Nat), V.i (256 : Int)]), (MK.s (ByteArray.mk #[(102 : UInt8), (108 : UInt8), (97 : UInt8), (116 : UInt8)]), V.agg [V.nil, V.nil, V.i (1 : Int)])] (MF.rest (MF.mk [(MK.s (ByteArray.mk #[(102 : UInt8), (108 : UInt8), (97 : UInt8), (116 : UInt8)]), V.agg [V.nil, V.nil, V.i (1 : Int)])] (MF.rest (MF.mk [] fun (x : MK) => none)))))))] false, pn (6 : Nat) (V.own (200006 : Nat)) (200006 : Nat) (Ob.row (2 : Nat) (1 : Nat) (1 : Nat) fun (i : Nat) => List.take (1 : Nat) (List.drop (i * (1 : Nat)) [V.i (-192 : Int)])), pv (7 : Nat) (V.agg [V.own (200006 : Nat), V.nil, V.i (256 : Int)]), PR.mk none none V.any [((200001 : Nat), some (Ob.mp (true, (3 : Nat)) (MF.mk [(MK.s (ByteArray.mk #[(98 : UInt8), (114 : UInt8), (105 : UInt8), (103 : UInt8), (104 : UInt8), (116 : UInt8)]), V.agg [V.own (200006 : Nat), V.nil, V.i (256 : Int)]), (MK.s (ByteArray.mk #[(119 : UInt8), (97 : UInt8), (114 : UInt8), (109 : UInt8)]), V.agg [V.own (200003 : Nat), V.own (200004 : Nat), V.i (256 : Int)]), (MK.s (ByteArray.mk #[(102 : UInt8), (108 : UInt8), (97 : UInt8), (116 : UInt8)]), V.agg [V.nil, V.nil, V.i (1 : Int)])] (MF.rest (MF.mk [(MK.s (ByteArray.mk #[(119 : UInt8), (97 : UInt8), (114 : UInt8), (109 : UInt8)]), V.agg [V.own (200003 : Nat), V.own (200004 : Nat), V.i (256 : Int)]), (MK.s (ByteArray.mk #[(102 : UInt8), (108 : UInt8), (97 : UInt8), (116 : UInt8)]), V.agg [V.nil, V.nil, V.i (1 : Int)])] (MF.rest (MF.mk [(MK.s (ByteArray.mk #[(102 : UInt8), (108 : UInt8), (97 : UInt8), (116 : UInt8)]), V.agg [V.nil, V.nil, V.i (1 : Int)])] (MF.rest (MF.mk [] fun (x : MK) => none)))))))))] false, pn (8 : Nat) (V.own (200008 : Nat)) (200008 : Nat) (Ob.row (2 : Nat) (1 : Nat) (2 : Nat) fun (i : Nat) => List.take (1 : Nat) (List.drop (i * (1 : Nat)) [V.i (32 : Int), V.i (16 : Int)])), pn (9 : Nat) (V.own (200009 : Nat)) (200009 : Nat) (Ob.row (2 : Nat) (1 : Nat) (2 : Nat) fun (i : Nat) => List.take (1 : Nat) (List.drop (i * (1 : Nat)) [V.i (96 : Int), V.i (32 : Int)])), pv (10 : Nat) (V.agg [V.own (200008 : Nat), V.own (200009 : Nat), V.i (256 : Int)]), PR.mk none none V.any [((200001 : Nat), some (Ob.mp (true, (4 : Nat)) (MF.mk [(MK.s (ByteArray.mk #[(115 : UInt8), (104 : UInt8), (101 : UInt8), (108 : UInt8), (108 : UInt8), (97 : UInt8), (99 : UInt8)]), V.agg [V.own (200008 : Nat), V.own (200009 : Nat), V.i (256 : Int)]), (MK.s (ByteArray.mk #[(98 : UInt8), (114 : UInt8), (105 : UInt8), (103 : UInt8), (104 : UInt8), (116 : UInt8)]), V.agg [V.own (200006 : Nat), V.nil, V.i (256 : Int)]), (MK.s (ByteArray.mk #[(119 : UInt8), (97 : UInt8), (114 : UInt8), (109 : UInt8)]), V.agg [V.own (200003 : Nat), V.own (200004 : Nat), V.i (256 : Int)]), (MK.s (ByteArray.mk #[(102 : UInt8), (108 : UInt8), (97 : UInt8), (116 : UInt8)]), V.agg [V.nil, V.nil, V.i (1 : Int)])] (MF.rest (MF.mk [(MK.s (ByteArray.mk #[(98 : UInt8), (114 : UInt8), (105 : UInt8), (103 : UInt8), (104 : UInt8), (116 : UInt8)]), V.agg [V.own (200006 : Nat), V.nil, V.i (256 : Int)]), (MK.s (ByteArray.mk #[(119 : UInt8), (97 : UInt8), (114 : UInt8), (109 : UInt8)]), V.agg [V.own (200003 : Nat), V.own (200004 : Nat), V.i (256 : Int)]), (MK.s (ByteArray.mk #[(102 : UInt8), (108 : UInt8), (97 : UInt8), (116 : UInt8)]), V.agg [V.nil, V.nil, V.i (1 : Int)])] (MF.rest (MF.mk [(MK.s (ByteArray.mk #[(119 : UInt8), (97 : UInt8), (114 : UInt8), (109 : UInt8)]), V.agg [V.own (200003 : Nat), V.own (200004 : Nat), V.i (256 : Int)]), (MK.s (ByteArray.mk #[(102 : UInt8), (108 : UInt8), (97 : UInt8), (116 : UInt8)]), V.agg [V.nil, V.nil, V.i (1 : Int)])] (MF.rest (MF.mk [(MK.s (ByteArray.mk #[(102 : UInt8), (108 : UInt8), (97 : UInt8), (116 : UInt8)]), V.agg [V.nil, V.nil, V.i (1 : Int)])] (MF.rest (MF.mk [] fun (x : MK) => none)))))))))))] false, pv (11 : Nat) (V.own (200001 : Nat)), pv (0 : Nat) (V.own (200001 : Nat))] (by kernel_rfl) (by kernel_rfl) True.intro ?_
  refine aops_nil ?_
  refine xt_n ?_
  refine hK _ ?_
  clear hK K
  refine aw_ret ?_
  refine ret_of_M ?_
  refine retM (v' := V.own (0 : Nat)) [(0, 200001), (4, 200008), (5, 200009), (3, 200006), (1, 200003), (2, 200004)] [(0, V.own (0 : Nat))] (.inr rfl) (.cons (by kernel_rfl) .nil) (.cons ⟨Ob.mp (true, (4 : Nat)) (MF.mk [(MK.s (ByteArray.mk #[(115 : UInt8), (104 : UInt8), (101 : UInt8), (108 : UInt8), (108 : UInt8), (97 : UInt8), (99 : UInt8)]), V.agg [V.own (200008 : Nat), V.own (200009 : Nat), V.i (256 : Int)]), (MK.s (ByteArray.mk #[(98 : UInt8), (114 : UInt8), (105 : UInt8), (103 : UInt8), (104 : UInt8), (116 : UInt8)]), V.agg [V.own (200006 : Nat), V.nil, V.i (256 : Int)]), (MK.s (ByteArray.mk #[(119 : UInt8), (97 : UInt8), (114 : UInt8), (109 : UInt8)]), V.agg [V.own (200003 : Nat), V.own (200004 : Nat), V.i (256 : Int)]), (MK.s (ByteArray.mk #[(102 : UInt8), (108 : UInt8), (97 : UInt8), (116 : UInt8)]), V.agg [V.nil, V.nil, V.i (1 : Int)])] (MF.rest (MF.mk [(MK.s (ByteArray.mk #[(98 : UInt8), (114 : UInt8), (105 : UInt8), (103 : UInt8), (104 : UInt8), (116 : UInt8)]), V.agg [V.own (200006 : Nat), V.nil, V.i (256 : Int)]), (MK.s (ByteArray.mk #[(119 : UInt8), (97 : UInt8), (114 : UInt8), (109 : UInt8)]), V.agg [V.own (200003 : Nat), V.own (200004 : Nat), V.i (256 : Int)]), (MK.s (ByteArray.mk #[(102 : UInt8), (108 : UInt8), (97 : UInt8), (116 : UInt8)]), V.agg [V.nil, V.nil, V.i (1 : Int)])] (MF.rest (MF.mk [(MK.s (ByteArray.mk #[(119 : UInt8), (97 : UInt8), (114 : UInt8), (109 : UInt8)]), V.agg [V.own (200003 : Nat), V.own (200004 : Nat), V.i (256 : Int)]), (MK.s (ByteArray.mk #[(102 : UInt8), (108 : UInt8), (97 : UInt8), (116 : UInt8)]), V.agg [V.nil, V.nil, V.i (1 : Int)])] (MF.rest (MF.mk [(MK.s (ByteArray.mk #[(102 : UInt8), (108 : UInt8), (97 : UInt8), (116 : UInt8)]), V.agg [V.nil, V.nil, V.i (1 : Int)])] (MF.rest (MF.mk [] fun (x : MK) => none))))))))), (by kernel_rfl), .mp (fun _ => rfl)⟩ (.cons ⟨Ob.row (2 : Nat) (1 : Nat) (1 : Nat) fun (i : Nat) => List.take (1 : Nat) (List.drop (i * (1 : Nat)) [V.i (64 : Int)]), (by kernel_rfl), .row (by kernel_rfl) ?_⟩ (.cons ⟨Ob.row (2 : Nat) (1 : Nat) (1 : Nat) fun (i : Nat) => List.take (1 : Nat) (List.drop (i * (1 : Nat)) [V.i (128 : Int)]), (by kernel_rfl), .row (by kernel_rfl) ?_⟩ (.cons ⟨Ob.row (2 : Nat) (1 : Nat) (1 : Nat) fun (i : Nat) => List.take (1 : Nat) (List.drop (i * (1 : Nat)) [V.i (-192 : Int)]), (by kernel_rfl), .row (by kernel_rfl) ?_⟩ (.cons ⟨Ob.row (2 : Nat) (1 : Nat) (2 : Nat) fun (i : Nat) => List.take (1 : Nat) (List.drop (i * (1 : Nat)) [V.i (32 : Int), V.i (16 : Int)]), (by kernel_rfl), .row (by kernel_rfl) ?_⟩ (.cons ⟨Ob.row (2 : Nat) (1 : Nat) (2 : Nat) fun (i : Nat) => List.take (1 : Nat) (List.drop (i * (1 : Nat)) [V.i (96 : Int), V.i (32 : Int)]), (by kernel_rfl), .row (by kernel_rfl) ?_⟩ .nil)))))) (by kernel_rfl) (by kernel_rfl) (by kernel_rfl) (by kernel_rfl) (by kernel_rfl) (by kernel_rfl) (by kernel_rfl)
  · exact r1 rfl
  · exact r1 rfl
  · exact r1 rfl
  · exact r2 rfl rfl
  · exact r2 rfl rfl
set_option maxRecDepth 100000 in
theorem NamedF_ac : AC Try.prog 42 [.c (.string nFlat)] (.tup [.agg [.nil, .nil, .i 1], .i 0]) [] := by
  refine ac_intro hTT hMX (fn := Try.f42) (N := _) ⟨Try.func42, rfl, Try.ntmps42, by kernel_rfl⟩ (by simp) fun C hC hF => ?_
  refine aw_seq_k fun K hK => ?_
  refine w_region (n' := 2) (by kernel_rfl) (by kernel_rfl) ?_
  refine aops_n hTT (M := []) (n := 2) [pn (2 : Nat) (V.ref (100002 : Nat) (0 : Nat)) (100002 : Nat) (Ob.box (24 : Nat) [V.nil, V.nil, V.i (0 : Int)]), pv (3 : Nat) (V.i (0 : Int))] (by kernel_rfl) (by kernel_rfl) True.intro ?_
  refine aops_nil ?_
  refine xt_n ?_
  refine hK _ ?_
  clear hK K
  refine aw_seq_k fun K hK => ?_
  refine w_region (n' := 3) (by kernel_rfl) (by kernel_rfl) ?_
  refine aops_callN (first := []) (caps := []) (v' := V.own (200007 : Nat)) (δ := [(200007, Option.some (Ob.mp (true, (4 : Nat)) (MF.mk [(MK.s nShel, V.agg [V.own (204007 : Nat), V.own (205007 : Nat), V.i (256 : Int)]), (MK.s nBright, V.agg [V.own (203007 : Nat), V.nil, V.i (256 : Int)]), (MK.s nWarm, V.agg [V.own (201007 : Nat), V.own (202007 : Nat), V.i (256 : Int)]), (MK.s nFlat, V.agg [V.nil, V.nil, V.i (1 : Int)])] (MF.rest cuM)))), (201007, Option.some (Ob.row (2 : Nat) (1 : Nat) (1 : Nat) fun (i : Nat) => V.renL (callG (2 : Nat) (some 7)) [V.i (gi [(64 : Int)] i)])), (202007, Option.some (Ob.row (2 : Nat) (1 : Nat) (1 : Nat) fun (i : Nat) => V.renL (callG (2 : Nat) (some 7)) [V.i (gi [(128 : Int)] i)])), (203007, Option.some (Ob.row (2 : Nat) (1 : Nat) (1 : Nat) fun (i : Nat) => V.renL (callG (2 : Nat) (some 7)) [V.i (gi [(-192 : Int)] i)])), (204007, Option.some (Ob.row (2 : Nat) (1 : Nat) (2 : Nat) fun (i : Nat) => V.renL (callG (2 : Nat) (some 7)) [V.i (gi [(32 : Int), (16 : Int)] i)])), (205007, Option.some (Ob.row (2 : Nat) (1 : Nat) (2 : Nat) fun (i : Nat) => V.renL (callG (2 : Nat) (some 7)) [V.i (gi [(96 : Int), (32 : Int)] i)]))]) (curves_ac) (by kernel_rfl) (by kernel_rfl) (by kernel_rfl) (by kernel_rfl) (by kernel_rfl) (by kernel_rfl) (by kernel_rfl) ?_
  refine aops_n hTT (M := []) (n := 8) [pv (8 : Nat) (V.c (Value.string nFlat)), pv (9 : Nat) (V.tup [V.agg [V.nil, V.nil, V.i (1 : Int)], V.b true]), pv (6 : Nat) (V.tup [V.agg [V.nil, V.nil, V.i (1 : Int)], V.b true]), pv (10 : Nat) (V.agg [V.nil, V.nil, V.i (1 : Int)]), pv (11 : Nat) (V.b true), pn (4 : Nat) (V.ref (200004 : Nat) (0 : Nat)) (200004 : Nat) (Ob.box (24 : Nat) [V.nil, V.nil, V.i (0 : Int)]), pw ((0 : Nat) + (3 : Nat) ≤ (3 : Nat)) (200004 : Nat) (Ob.box (24 : Nat) [V.nil, V.nil, V.i (1 : Int)]), pv (5 : Nat) (V.b true)] (by kernel_rfl) (by kernel_rfl) ⟨(by omega), True.intro⟩ ?_
  refine aops_nil ?_
  refine xt_n ?_
  refine hK _ ?_
  clear hK K
  refine aw_seq_k fun K hK => ?_
  refine aw_seq_k fun K hK => ?_
  refine w_region (n' := 4) (by kernel_rfl) (by kernel_rfl) ?_
  refine aops_n hTT (M := []) (n := 2) [pv (12 : Nat) (V.b true), pv (13 : Nat) (V.b false)] (by kernel_rfl) (by kernel_rfl) True.intro ?_
  refine aops_nil ?_
  refine xt_n ?_
  refine hK _ ?_
  clear hK K
  refine w_false (t := false) (by kernel_rfl) rfl ?_
  refine aw_skip ?_
  refine xt_n ?_
  refine hK _ ?_
  clear hK K
  refine aw_seq_k fun K hK => ?_
  refine w_region (n' := 5) (by kernel_rfl) (by kernel_rfl) ?_
  refine aops_n hTT (M := []) (n := 3) [pc (15 : Nat) ((0 : Nat) ≤ (3 : Nat)) (V.agg [V.nil, V.nil, V.i (1 : Int)]), pw ((0 : Nat) + (3 : Nat) ≤ (3 : Nat)) (100002 : Nat) (Ob.box (24 : Nat) [V.nil, V.nil, V.i (1 : Int)]), pv (3 : Nat) (V.i (0 : Int))] (by kernel_rfl) (by kernel_rfl) ⟨(by omega), (by omega), True.intro⟩ ?_
  refine aops_nil ?_
  refine xt_n ?_
  refine hK _ ?_
  clear hK K
  refine aw_ret ?_
  refine ret_pure (v' := V.tup [V.agg [V.nil, V.nil, V.i (1 : Int)], V.i (0 : Int)]) (.inr rfl) (by kernel_rfl) (by kernel_rfl) (by kernel_rfl)
end Go.Proofs.Ytblipieipldanaa
