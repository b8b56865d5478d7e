/-
  Several texts in one: What a tip misses: the reference's copy, and both exported functions. No condition. .. TopMissed: the walk of the law. No condition.
-/
import Derived.Test.YtofjmklmnlcekaaGreatDoorX06
import Derived.Test.YtofjmklmnlcekaaGreatDoorX04
import Derived.Test.YtofjmklmnlcekaaGreatDoorX05
import Derived.Test.YtofjmklmnlcekaaGreatDoorX00
import Derived.Test.YtofjmklmnlcekaaGreatDoorAbs42
import Derived.Test.YtofjmklmnlcekaaGreatDoorX01
import Derived.Test.YtofjmklmnlcekaaGreatDoorMC
namespace Go.Proofs.YtofjmklmnlcekaaGreatDoor
open Go.Ab Go.RowKit Go.Dw Go.Shelf
end Go.Proofs.YtofjmklmnlcekaaGreatDoor

namespace Go.Proofs.YtofjmklmnlcekaaGreatDoor
open Go.Ab Go.RowKit Go.Dw Go.Shelf
end Go.Proofs.YtofjmklmnlcekaaGreatDoor

namespace Go.Proofs.YtofjmklmnlcekaaGreatDoor
open Go.Ab Go.RowKit Go.Dw Go.Shelf
end Go.Proofs.YtofjmklmnlcekaaGreatDoor

namespace Go.Proofs.YtofjmklmnlcekaaGreatDoor
open Go.Ab Go.RowKit Go.Dw Go.Shelf
def w6L : List Pt := [(-100, 100), (-100, 90), (-95, 100)]
theorem w6R : AC Tryz.prog 24 [.agg [V.ints [0, 2, 10]], V.pts w6L] (.tup [V.pts [(-100, 92), (-97, 90), (-95, 92)], .i 0]) [] := by
 have A := Read_ac [0, 2, 10] w6L (by decide) (by decide)
 rw [show wallsR [0, 2, 10] w6L = [(-100, 92), (-97, 90), (-95, 92)] by decide +kernel, show checkBoth [0, 2, 10] w6L = 0 by decide +kernel] at A
 exact A
theorem w6_lt {i : Nat} (h : i < 3) : i = 0 ∨ i = 1 ∨ i = 2 := by omega
def w6T : List V := [.agg [evR1 [0, 2, 10]], evR2 w6L]
def w6V : V := .tup [V.pts [(-100, 92), (-97, 90), (-95, 92)], .i 0]
theorem w6_read : AC Tryz.prog 24 w6T w6V [] := w6R.conv ⟨RImp.aggs ⟨RImp.rows rfl fun i hi => by rcases w6_lt hi with rfl | rfl | rfl <;> rfl, trivial⟩, RImp.rows rfl fun i hi => by rcases w6_lt hi with rfl | rfl | rfl <;> rfl, trivial⟩
end Go.Proofs.YtofjmklmnlcekaaGreatDoor

namespace Go.Proofs.YtofjmklmnlcekaaGreatDoor
open Go.Ab Go.RowKit Go.Dw Go.Shelf
def w5T : List V := [.agg [.i 2, .i 1000, .i 100, .i 10, .i 1, .i 100], evR2 [(-20, 20), (-20, 20), (-20, 20), (-20, 50), (-20, 20)]]
set_option maxRecDepth 100000 in
theorem w5_out0 : AM Tryz.prog 45 w5T [] (.tup [.own 0, .i 0]) [] [.row 2 1 5 (rowOf [[.i 980], [.i 979], [.i 930], [.i 899], [.i 880]])] := cAM' hTT hMX [] [] kR kR
theorem w5_out : AC Tryz.prog 45 w5T (.tup [evQ1 [980, 979, 930, 899, 880], .i 0]) [] := AC.shut1 (w5_out0.ac (by decide)) rfl (fun _ _ => rfl) (evIdf _ rfl) rfl rfl
def w5K : List (FuncId × List V × V) := [(45, w5T, .tup [evQ1 [980, 979, 930, 899, 880], .i 0]), (46, [evFmt [1000, 400, 10, 0, 0, 0, 0], .agg [.i 95, .i 20, .i 0]], .tup [.i 200, .i 0]), (47, [], .b true)]
theorem w5_ok : OrcOk2 Tryz.prog w5K := orc2_cons w5_out rfl rfl (orc2_cons ev_Wid5 rfl rfl (orc2_cons works03_ac rfl rfl orc2_nil))
set_option maxRecDepth 100000 in
theorem works05_ac : AC Tryz.prog 28 [] (.b true) [] := AM.ac (cAMO (O := orc2 w5K) hTT hMX [] [] (fun _ => orc2_ok w5_ok) kR kR) (by decide)
end Go.Proofs.YtofjmklmnlcekaaGreatDoor

namespace Go.Proofs.YtofjmklmnlcekaaGreatDoor
open Go.Ab Go.RowKit Go.Dw Go.Shelf
def w7Mu : List Nat := [26, 33, 35, 36, 37, 55, 41, 59]
def w7M : ML := [(25, [12]), (27, [5]), (42, [3])]
def w7K : List (FuncId × List V × V) := [(24, w6T, w6V), (28, [], .b true)]
theorem w7_ok : OrcOk2 Tryz.prog w7K := orc2_cons w6_read rfl rfl (orc2_cons works05_ac rfl rfl orc2_nil)
set_option maxRecDepth 100000 in
theorem works07_ac : AC Tryz.prog 15 [] (.b true) [] := AM.ac (cAMO (O := orc2 w7K) hTT hMX w7M w7Mu (fun _ => orc2_ok w7_ok) kR kR) (by decide)
end Go.Proofs.YtofjmklmnlcekaaGreatDoor

namespace Go.Proofs.YtofjmklmnlcekaaGreatDoor
open Go.Ab Go.RowKit Go.Dw Go.Shelf
theorem w9_smp : AC Tryz.prog 9 [.i 10, .i 0, .i 5, .i 0, .i 100] (.tup [.i 3, .i 0, .i 0]) [] := by
 have A := Sampling_ac 10 5 0 100 (by decide) (by decide) (by decide) (by decide)
 rw [show smpS 10 5 0 100 = 3 by decide +kernel] at A
 rw [show smpM 10 5 0 100 (3 : Int).toNat = 0 by decide +kernel] at A
 exact A
def w9K : List (FuncId × List V × V) := [(9, [.i 10, .i 0, .i 5, .i 0, .i 100], .tup [.i 3, .i 0, .i 0]), (15, [], .b true)]
theorem w9_ok : OrcOk2 Tryz.prog w9K := orc2_cons w9_smp rfl rfl (orc2_cons works07_ac rfl rfl orc2_nil)
set_option maxRecDepth 100000 in
theorem works09_ac : AC Tryz.prog 6 [] (.b true) [] := AM.ac (cAMO (O := orc2 w9K) hTT hMX [] [] (fun _ => orc2_ok w9_ok) kR kR) (by decide)
end Go.Proofs.YtofjmklmnlcekaaGreatDoor

namespace Go.Proofs.YtofjmklmnlcekaaGreatDoor
open Go.Ab Go.RowKit Go.Dw Go.Shelf
abbrev yyWMissed0 (a : List Int) : V := V.sl 1 (List.length a) fun (k : Nat) => [V.c (Value.int IntKind.u8 (gi a k))]
abbrev yyWMissed1 (b : List Int) : V := V.sl 1 (List.length b) fun (k : Nat) => [V.c (Value.int IntKind.u8 (gi b k))]
abbrev yyWMissed2 := ((false == false) = true → (false == false) = true)
abbrev yyWMissed3 := ((true == true) = true → (true == true) = true)
set_option maxHeartbeats 4000000 in
set_option maxRecDepth 100000 in
theorem missed_law (a b : List Int) (many which sample re ac : Int) (ha : a.length ≤ 4611686018427387904) (hau : ∀ x ∈ a, 0 ≤ x ∧ x ≤ 255) (hb : b.length ≤ 4611686018427387904) (hbu : ∀ x ∈ b, 0 ≤ x ∧ x ≤ 255)
  (hm : 0 ≤ many ∧ many ≤ 255) (hw : 0 ≤ which ∧ which ≤ 255) (hs : 0 ≤ sample ∧ sample ≤ 255) (hre : 0 ≤ re ∧ re ≤ 65535) (hac : 0 ≤ ac ∧ ac ≤ 65535) :
  AC Tryz.prog 3 [V.u8m a, V.u8m b, .c (.int .u8 many), .c (.int .u8 which), .c (.int .u8 sample), .c (.int .u16 re), .c (.int .u16 ac)] (.b true) [] := by
 refine acI hTT hMX Tryz.func3 Tryz.ntmps3 fun C hC hF => ?_
 refine sK fun K hK => wR 2 ?_
 refine aops_n hTT (M := []) (n := 1) [pv 14 (V.b false)] kR kR tI ?_
 refine nK hK ?_; clear hK K; refine sK fun K hK => wR 3 ?_
 refine aops_n hTT (M := []) (n := 2) [pv 15 V.nil, pv 16 V.nil] kR kR tI ?_
 refine nK hK ?_; clear hK K; refine sK fun K hK => ?_; refine sK fun K hK => wR 4 ?_
 refine aops_n hTT (M := []) (n := 1) [pv 17 (V.i 0)] kR kR tI ?_
 refine nK hK ?_; clear hK K
 refine aw_block ?_
 refine w_le (le_open 15 2 1 (fun k => [.i (gi (xL a) k)]) kR rfl) ?_
 refine w_loop (ι := Nat) (fun k => [(0, V.u8m a), (1, V.u8m b), (2, .c (.int .u8 many)), (3, .c (.int .u8 which)), (4, .c (.int .u8 sample)), (5, .c (.int .u16 re)), (6, .c (.int .u16 ac)), (15, .own 1), (16, .nil), (17, .i k)]) (fun k => [(1, .row 2 1 k fun k => [.i (gi (xL a) k)])]) (fun k => k ≤ a.length ∧ k ≤ 8) (fun k => 8 - k) 0 ⟨Nat.zero_le _, Nat.zero_le _⟩ ?_ ?_
 ·
  refine le_ren (sl := [(1, Ob.row 2 1 0 fun (k : Nat) => [V.i (gi (xL a) k)])]) [(1, 400015)] (.cons kR (.cons kR (.cons kR (.cons kR (.cons kR (.cons kR (.cons kR (.cons kR (.cons kR (.cons kR .nil)))))))))) (.cons ⟨Ob.row 2 1 0 fun (k : Nat) => [V.i (gi (xL a) k)], kR, .row kR (fun _ _ => rfl)⟩ .nil) kR kR
 rintro k ⟨hk, hk8⟩
 refine sK fun K hK => ?_; refine sK fun K hK => wR 2 ?_
 refine aops_n hTT (M := []) (n := 8) [pv 38 (V.i (↑k : Int)), pv 39 ((yyWMissed0 a)), pv 40 (V.i (↑(List.length a) : Int)), pv 41 (V.b (decide ((↑k : Int) < (↑(List.length a) : Int)))), pv 42 (V.b (decide ((↑k : Int) < (↑(List.length a) : Int)))), pc 43 ((True ∧ True) ∧ ((decide ((↑k : Int) < (↑(List.length a) : Int)) == true) = true → True)) (V.gd (decide ((↑k : Int) < (↑(List.length a) : Int)) == true) (V.i (↑k : Int))), pc 44 ((((decide ((↑k : Int) < (↑(List.length a) : Int)) == true) = true → (decide ((↑k : Int) < (↑(List.length a) : Int)) == true) = true) ∧ True ∧ True) ∧ ((decide ((↑k : Int) < (↑(List.length a) : Int)) == true) = true → True)) (V.gd (decide ((↑k : Int) < (↑(List.length a) : Int)) == true) (V.b (decide ((↑k : Int) < 8)))), pc 45 ((decide ((↑k : Int) < (↑(List.length a) : Int)) = true → (decide ((↑k : Int) < (↑(List.length a) : Int)) == true) = true) ∧ True) (V.b (decide ((↑k : Int) < (↑(List.length a) : Int)) && decide ((↑k : Int) < 8)))] kR kR ⟨⟨⟨tI, tI⟩, (fun _ => tI)⟩, ⟨⟨(by (exact fun h => h)), ⟨tI, tI⟩⟩, (fun _ => tI)⟩, ⟨(by (intro h; rw [h]; rfl)), tI⟩, tI⟩ ?_
 refine nK hK ?_; clear hK K
 refine w_cond (t := decide ((↑k : Int) < (↑(List.length a) : Int)) && decide ((↑k : Int) < 8)) kR (fun c1 => ?_) (fun c1 => ?_)
 ·
  have h1 : k < a.length ∧ k < 8 := by simp at c1; omega
  have h2 := hau _ (gi_memM h1.1)
  refine aw_skip ?_
  refine xt_n (hK _ ?_); clear hK K; refine sK fun K hK => ?_
  refine aw_block ?_
  refine wR 3 ?_
  refine aops_n hTT (M := []) (n := 10) [pv 48 (V.own 1), pv 49 ((yyWMissed0 a)), pv 50 (V.i (↑k : Int)), pc 51 ((0 : Int) ≤ (↑k : Int) ∧ (↑k : Int) < (↑(List.length a) : Int)) (V.ptr [V.c (Value.int IntKind.u8 (gi a k))]), pv 52 (V.c (Value.int IntKind.u8 (gi a k))), pc 53 ((-9223372036854775808 : Int) ≤ gi a k ∧ gi a k ≤ 9223372036854775807) (V.i (gi a k)), pc 54 ((21 : Int) ≠ (0 : Int)) (V.i (Int.tmod (gi a k) (21 : Int))), pv 55 (V.sl 1 1 fun (i : Nat) => List.take (1 : Nat) (List.drop (i * 1) [V.i (Int.tmod (gi a k) (21 : Int))])), PR.mk (some (56 : Nat)) (some (k + 1 ≤ (1099511627776 : Nat))) (V.own 200056) [((1 : Nat), none), ((200056 : Nat), some (Ob.row 2 1 (k + 1) (appRow k (fun (k : Nat) => [V.i (gi (xL a) k)]) fun (i : Nat) => List.take (1 : Nat) (List.drop (i * 1) [V.i (Int.tmod (gi a k) (21 : Int))]))))] false, pv 15 (V.own 200056)] kR kR ⟨oM, oM, oM, oM, tI⟩ ?_
  refine aops_nil ?_; refine xb_n ?_; refine xt_n (hK _ ?_); clear hK K; refine wR 4 ?_
  refine aops_n hTT (M := []) (n := 3) [pv 46 (V.i (↑k : Int)), pc 47 ((-9223372036854775808 : Int) ≤ (↑k : Int) + 1 ∧ (↑k : Int) + 1 ≤ (9223372036854775807 : Int)) (V.i ((↑k : Int) + 1)), pv 17 (V.i ((↑k : Int) + 1))] kR kR ⟨oM, tI⟩ ?_
  refine aops_nil ?_; refine xt_n ?_
  refine ⟨k + 1, ⟨by omega, by omega⟩, ?_, by omega⟩
  refine le_ren (tl := [(0, (yyWMissed0 a)), (1, (yyWMissed1 b)), (2, V.c (Value.int IntKind.u8 many)), (3, V.c (Value.int IntKind.u8 which)), (4, V.c (Value.int IntKind.u8 sample)), (5, V.c (Value.int IntKind.u16 re)), (6, V.c (Value.int IntKind.u16 ac)), (15, V.own 1), (16, V.nil), (17, V.i (↑(k + 1) : Int))]) (sl := [(1, Ob.row 2 1 (k + 1) fun (k : Nat) => [V.i (gi (xL a) k)])]) [(1, 200056)] (.cons kR (.cons kR (.cons kR (.cons kR (.cons kR (.cons kR (.cons kR (.cons kR (.cons kR (.cons kR .nil)))))))))) (.cons ⟨Ob.row 2 1 (k + 1) (appRow k (fun (k : Nat) => [V.i (gi (xL a) k)]) fun (i : Nat) => List.take (1 : Nat) (List.drop (i * 1) [V.i (Int.tmod (gi a k) (21 : Int))])), kR, .row kR ?_⟩ .nil) kR kR
  exact appRow_i rfl (xL_at h1.1 h1.2).symm
 obtain rfl : k = (xL a).length := by rw [xL_len]; simp at c1; omega
 refine w_le (le_shut 15 1 (e := (2 : Nat)) (sz := (1 : Nat)) (n := List.length (xL a)) (n' := (xL a).length) (row := fun (k : Nat) => [V.i (gi (xL a) k)]) (row' := (fun k => [.i (gi (xL a) k)])) kR kR (fun _ _ => rfl) ?_ ?_) ?_
 ·
  rfl
 ·
  exact fun _ _ => rfl
 refine aw_exit ?_
 refine xt_x ?_; refine xt_x ?_
 refine xb_same ?_
 refine xt_n ?_; clear hK K; refine hK _ ?_; clear hK K; refine sK fun K hK => ?_; refine sK fun K hK => wR 3 ?_
 refine aops_n hTT (M := []) (n := 1) [pv 18 (V.i 0)] kR kR tI ?_
 refine nK hK ?_; clear hK K
 refine aw_block ?_
 refine w_le (le_open 16 2 1 (fun k => [.i (gi (xL b) k)]) kR rfl) ?_
 refine w_loop (ι := Nat) (fun k => [(1, V.u8m b), (2, .c (.int .u8 many)), (3, .c (.int .u8 which)), (4, .c (.int .u8 sample)), (5, .c (.int .u16 re)), (6, .c (.int .u16 ac)), (15, V.ints (xL a)), (16, .own 1), (18, .i k)]) (fun k => [(1, .row 2 1 k fun k => [.i (gi (xL b) k)])]) (fun k => k ≤ b.length ∧ k ≤ 8) (fun k => 8 - k) 0 ⟨Nat.zero_le _, Nat.zero_le _⟩ ?_ ?_
 ·
  refine le_ren (sl := [(1, Ob.row 2 1 0 fun (k : Nat) => [V.i (gi (xL b) k)])]) [(1, 300016)] (.cons kR (.cons kR (.cons kR (.cons kR (.cons kR (.cons kR (.cons kR (.cons kR (.cons kR .nil))))))))) (.cons ⟨Ob.row 2 1 0 fun (k : Nat) => [V.i (gi (xL b) k)], kR, .row kR (fun _ _ => rfl)⟩ .nil) kR kR
 rintro k ⟨hk, hk8⟩
 refine sK fun K hK => ?_; refine sK fun K hK => wR 2 ?_
 refine aops_n hTT (M := []) (n := 8) [pv 57 (V.i (↑k : Int)), pv 58 ((yyWMissed1 b)), pv 59 (V.i (↑(List.length b) : Int)), pv 60 (V.b (decide ((↑k : Int) < (↑(List.length b) : Int)))), pv 61 (V.b (decide ((↑k : Int) < (↑(List.length b) : Int)))), pc 62 ((True ∧ True) ∧ ((decide ((↑k : Int) < (↑(List.length b) : Int)) == true) = true → True)) (V.gd (decide ((↑k : Int) < (↑(List.length b) : Int)) == true) (V.i (↑k : Int))), pc 63 ((((decide ((↑k : Int) < (↑(List.length b) : Int)) == true) = true → (decide ((↑k : Int) < (↑(List.length b) : Int)) == true) = true) ∧ True ∧ True) ∧ ((decide ((↑k : Int) < (↑(List.length b) : Int)) == true) = true → True)) (V.gd (decide ((↑k : Int) < (↑(List.length b) : Int)) == true) (V.b (decide ((↑k : Int) < 8)))), pc 64 ((decide ((↑k : Int) < (↑(List.length b) : Int)) = true → (decide ((↑k : Int) < (↑(List.length b) : Int)) == true) = true) ∧ True) (V.b (decide ((↑k : Int) < (↑(List.length b) : Int)) && decide ((↑k : Int) < 8)))] kR kR ⟨⟨⟨tI, tI⟩, (fun _ => tI)⟩, ⟨⟨(by (exact fun h => h)), ⟨tI, tI⟩⟩, (fun _ => tI)⟩, ⟨(by (intro h; rw [h]; rfl)), tI⟩, tI⟩ ?_
 refine nK hK ?_; clear hK K
 refine w_cond (t := decide ((↑k : Int) < (↑(List.length b) : Int)) && decide ((↑k : Int) < 8)) kR (fun c2 => ?_) (fun c2 => ?_)
 ·
  have h1 : k < b.length ∧ k < 8 := by simp at c2; omega
  have h2 := hbu _ (gi_memM h1.1)
  refine aw_skip ?_
  refine xt_n (hK _ ?_); clear hK K; refine sK fun K hK => ?_
  refine aw_block ?_
  refine wR 3 ?_
  refine aops_n hTT (M := []) (n := 10) [pv 67 (V.own 1), pv 68 ((yyWMissed1 b)), pv 69 (V.i (↑k : Int)), pc 70 ((0 : Int) ≤ (↑k : Int) ∧ (↑k : Int) < (↑(List.length b) : Int)) (V.ptr [V.c (Value.int IntKind.u8 (gi b k))]), pv 71 (V.c (Value.int IntKind.u8 (gi b k))), pc 72 ((-9223372036854775808 : Int) ≤ gi b k ∧ gi b k ≤ 9223372036854775807) (V.i (gi b k)), pc 73 ((21 : Int) ≠ (0 : Int)) (V.i (Int.tmod (gi b k) (21 : Int))), pv 74 (V.sl 1 1 fun (i : Nat) => List.take (1 : Nat) (List.drop (i * 1) [V.i (Int.tmod (gi b k) (21 : Int))])), PR.mk (some (75 : Nat)) (some (k + 1 ≤ (1099511627776 : Nat))) (V.own 200075) [((1 : Nat), none), ((200075 : Nat), some (Ob.row 2 1 (k + 1) (appRow k (fun (k : Nat) => [V.i (gi (xL b) k)]) fun (i : Nat) => List.take (1 : Nat) (List.drop (i * 1) [V.i (Int.tmod (gi b k) (21 : Int))]))))] false, pv 16 (V.own 200075)] kR kR ⟨oM, oM, oM, oM, tI⟩ ?_
  refine aops_nil ?_; refine xb_n ?_; refine xt_n (hK _ ?_); clear hK K; refine wR 4 ?_
  refine aops_n hTT (M := []) (n := 3) [pv 65 (V.i (↑k : Int)), pc 66 ((-9223372036854775808 : Int) ≤ (↑k : Int) + 1 ∧ (↑k : Int) + 1 ≤ (9223372036854775807 : Int)) (V.i ((↑k : Int) + 1)), pv 18 (V.i ((↑k : Int) + 1))] kR kR ⟨oM, tI⟩ ?_
  refine aops_nil ?_; refine xt_n ?_
  refine ⟨k + 1, ⟨by omega, by omega⟩, ?_, by omega⟩
  refine le_ren (tl := [(1, (yyWMissed1 b)), (2, V.c (Value.int IntKind.u8 many)), (3, V.c (Value.int IntKind.u8 which)), (4, V.c (Value.int IntKind.u8 sample)), (5, V.c (Value.int IntKind.u16 re)), (6, V.c (Value.int IntKind.u16 ac)), (15, V.sl 1 (List.length (xL a)) fun (k : Nat) => [V.i (gi (xL a) k)]), (16, V.own 1), (18, V.i (↑(k + 1) : Int))]) (sl := [(1, Ob.row 2 1 (k + 1) fun (k : Nat) => [V.i (gi (xL b) k)])]) [(1, 200075)] (.cons kR (.cons kR (.cons kR (.cons kR (.cons kR (.cons kR (.cons kR (.cons kR (.cons kR .nil))))))))) (.cons ⟨Ob.row 2 1 (k + 1) (appRow k (fun (k : Nat) => [V.i (gi (xL b) k)]) fun (i : Nat) => List.take (1 : Nat) (List.drop (i * 1) [V.i (Int.tmod (gi b k) (21 : Int))])), kR, .row kR ?_⟩ .nil) kR kR
  exact appRow_i rfl (xL_at h1.1 h1.2).symm
 obtain rfl : k = (xL b).length := by rw [xL_len]; simp at c2; omega
 refine w_le (le_shut 16 1 (e := (2 : Nat)) (sz := (1 : Nat)) (n := List.length (xL b)) (n' := (xL b).length) (row := fun (k : Nat) => [V.i (gi (xL b) k)]) (row' := (fun k => [.i (gi (xL b) k)])) kR kR (fun _ _ => rfl) ?_ ?_) ?_
 ·
  rfl
 ·
  exact fun _ _ => rfl
 have hx : St8 (xL a) := ⟨by rw [xL_len]; omega, xL_bd hau⟩
 have hy : St8 (xL b) := ⟨by rw [xL_len]; omega, xL_bd hbu⟩
 clear c1 c2
 generalize xL a = x at hx ⊢
 generalize xL b = y at hy ⊢
 have lx := hx.len
 have ly := hy.len
 obtain ⟨n, hn, hn51⟩ := tmod_nat hm.1 (m := 51) (by decide)
 have hn50 : n ≤ 50 := by omega
 have hn' : many.tmod 51 = n := hn
 have P1 := pMounts_ac x y n hx hy oM
 have P2 := rMounts_loop x y n hx hy oM
 by_cases h0 : mtE x y n = 0
 ·
  rw [mtV, if_pos h0] at P1
  rw [rmtV, if_pos h0] at P2
  obtain ⟨e1, e2⟩ := mtE_ok.1 h0
  have G : MGood (mntL (x.length + y.length) x y 0 0 n) x y 0 n := many_all _ _ _ _ _ _ ⟨hx.nn, hy.nn, by omega, by simpa [sumF] using e1, by simpa [sumF] using e2, by simp⟩
  have hlen := mntL_len (x.length + y.length) x y 0 0 n
  generalize mntL (x.length + y.length) x y 0 0 n = L at P1 G hlen
  obtain ⟨g1, g2, g3⟩ := G
  have g4 : ∀ z ∈ L, 0 < z.m := fun z hz => (g3 z hz).1
  refine aw_exit ?_
  refine xt_x ?_; refine xt_x ?_
  refine xb_same ?_
  refine xt_n ?_; clear hK K; refine hK _ ?_; clear hK K; refine sK fun K hK => wR 3 ?_
  refine aops_n hTT (M := []) (n := 4) [pv 76 (V.c (Value.int IntKind.u8 many)), pc 77 ((-9223372036854775808 : Int) ≤ many ∧ many ≤ 9223372036854775807) (V.i many), pc 78 ((51 : Int) ≠ (0 : Int)) (V.i (Int.tmod many (51 : Int))), pv 19 (V.i (Int.tmod many (51 : Int)))] kR kR ⟨oM, oM, tI⟩ ?_
  refine nK hK ?_; clear hK K; refine sK fun K hK => wR 4 ?_
  refine aops_n hTT (M := []) (n := 3) [pv 80 (V.sl 1 (List.length x) fun (k : Nat) => [V.i (gi x k)]), pv 81 (V.sl 1 (List.length y) fun (k : Nat) => [V.i (gi y k)]), pv 82 (V.i (Int.tmod many (51 : Int)))] kR kR tI ?_
  rw [hn']
  refine eC (P1) ?_
  refine aops_n hTT (M := []) (n := 5) [pv 79 (V.tup [V.sl 3 (List.length L) fun (k : Nat) => Mt.c (gmt L k), V.i 0]), pv 84 (V.sl 3 (List.length L) fun (k : Nat) => Mt.c (gmt L k)), pv 85 (V.i 0), pv 20 (V.sl 3 (List.length L) fun (k : Nat) => Mt.c (gmt L k)), pv 21 (V.i 0)] kR kR tI ?_
  refine nK hK ?_; clear hK K; refine sK fun K hK => wR 5 ?_
  refine aops_n hTT (M := []) (n := 3) [pv 87 (V.sl 1 (List.length x) fun (k : Nat) => [V.i (gi x k)]), pv 88 (V.sl 1 (List.length y) fun (k : Nat) => [V.i (gi y k)]), pv 89 (V.i (↑n : Int))] kR kR tI ?_
  refine eC (P2) ?_
  refine aops_n hTT (M := []) (n := 5) [pv 86 (V.tup [V.sl 3 (List.length (rmtL (List.length x + List.length y + n) x y (0 : Nat) (0 : Nat) (↑n : Int))) fun (k : Nat) => Mt.c (gmt (rmtL (List.length x + List.length y + n) x y (0 : Nat) (0 : Nat) (↑n : Int)) k), V.i 0]), pv 91 (V.sl 3 (List.length (rmtL (List.length x + List.length y + n) x y (0 : Nat) (0 : Nat) (↑n : Int))) fun (k : Nat) => Mt.c (gmt (rmtL (List.length x + List.length y + n) x y (0 : Nat) (0 : Nat) (↑n : Int)) k)), pv 92 (V.i 0), pv 22 (V.sl 3 (List.length (rmtL (List.length x + List.length y + n) x y (0 : Nat) (0 : Nat) (↑n : Int))) fun (k : Nat) => Mt.c (gmt (rmtL (List.length x + List.length y + n) x y (0 : Nat) (0 : Nat) (↑n : Int)) k)), pv 23 (V.i 0)] kR kR tI ?_
  refine nK hK ?_; clear hK K; refine sK fun K hK => ?_; refine sK fun K hK => wR 6 ?_
  refine aops_n hTT (M := []) (n := 3) [pv 93 (V.i 0), pv 94 (V.i 0), pv 95 (V.b false)] kR kR tI ?_
  refine nK hK ?_; clear hK K; refine w_false (t := false) kR rfl ?_
  refine aw_skip ?_
  refine xt_n (hK _ ?_); clear hK K; refine sK fun K hK => ?_; refine sK fun K hK => wR 7 ?_
  refine aops_n hTT (M := []) (n := 7) [pv 96 (V.i 0), pv 97 (V.b false), pv 98 (V.b false), pc 99 ((True ∧ True) ∧ ((false == false) = true → True)) (V.gd (false == false) (V.sl 1 (List.length x) fun (k : Nat) => [V.i (gi x k)])), pc 100 ((yyWMissed2 ∧ True) ∧ ((false == false) = true → True)) (V.gd (false == false) (V.i (↑(List.length x) : Int))), pc 101 ((yyWMissed2 ∧ True ∧ True) ∧ ((false == false) = true → True)) (V.gd (false == false) (V.b (decide ((↑(List.length x) : Int) = 0)))), pc 102 (True ∧ (false = false → (false == false) = true)) (V.b (decide ((↑(List.length x) : Int) = 0)))] kR kR ⟨⟨⟨tI, tI⟩, (fun _ => tI)⟩, ⟨⟨(by (exact fun h => h)), tI⟩, (fun _ => tI)⟩, ⟨⟨(by (exact fun h => h)), ⟨tI, tI⟩⟩, (fun _ => tI)⟩, ⟨tI, (by (intro h; rw [h]; rfl))⟩, tI⟩ ?_
  refine nK hK ?_; clear hK K
  refine w_cond (t := decide ((↑(List.length x) : Int) = 0)) kR (fun c3 => ?_) (fun c3 => ?_)
  ·
   refine sK fun K hK => ?_
   refine wR 8 ?_
   refine eC (works09_ac) ?_
   refine aops_n hTT (M := []) (n := 1) [pv 14 (V.b true)] kR kR tI ?_
   refine nK hK ?_; clear hK K
   refine aw_ret ?_
   refine xt_r ?_
   refine rP (V.b true)
  have px : 0 < x.length := by
   have : ¬ ((x.length : Int) = 0) := of_decide_eq_false c3
   omega
  obtain ⟨w, hw1, hw2⟩ := tmod_nat hw.1 px
  refine aw_skip ?_
  refine xt_n (hK _ ?_); clear hK K; refine sK fun K hK => wR 8 ?_
  refine aops_n hTT (M := []) (n := 6) [pv 104 (V.c (Value.int IntKind.u8 which)), pc 105 ((-9223372036854775808 : Int) ≤ which ∧ which ≤ 9223372036854775807) (V.i which), pv 106 (V.sl 1 (List.length x) fun (k : Nat) => [V.i (gi x k)]), pv 107 (V.i (↑(List.length x) : Int)), pc 108 ((↑(List.length x) : Int) ≠ 0) (V.i (Int.tmod which (↑(List.length x) : Int))), pv 24 (V.i (Int.tmod which (↑(List.length x) : Int)))] kR kR ⟨oM, oM, tI⟩ ?_
  refine nK hK ?_; clear hK K; refine sK fun K hK => wR 9 ?_
  refine aops_n hTT (M := []) (n := 2) [pv 25 (V.i 0), pv 26 (V.i 0)] kR kR tI ?_
  refine nK hK ?_; clear hK K; refine sK fun K hK => ?_; refine sK fun K hK => wR 10 ?_
  refine aops_n hTT (M := []) (n := 1) [pv 27 (V.i 0)] kR kR tI ?_
  refine nK hK ?_; clear hK K
  refine aw_block ?_
  rw [hw1]
  refine w_loop (ι := Nat) (fun i => [(4, .c (.int .u8 sample)), (5, .c (.int .u16 re)), (6, .c (.int .u16 ac)), (15, V.ints x), (19, .i n), (20, V.mts L), (24, .i w), (25, .i (manyL (L.take i))), (26, .i (manyA (L.take i) w)), (27, .i i)]) (fun _ => []) (fun i => i ≤ L.length) (fun i => L.length - i) 0 (Nat.zero_le _) ?_ ?_
  ·
   refine le_ren [] (.cons kR (.cons kR (.cons kR (.cons kR (.cons kR (.cons kR (.cons kR (.cons kR (.cons kR (.cons kR .nil)))))))))) .nil kR kR
  intro i hi
  have q1 := many_bd g4 i w
  rw [g1] at q1
  refine sK fun K hK => ?_; refine sK fun K hK => wR 2 ?_
  refine aops_n hTT (M := []) (n := 4) [pv 109 (V.i (↑i : Int)), pv 110 (V.sl 3 (List.length L) fun (k : Nat) => Mt.c (gmt L k)), pv 111 (V.i (↑(List.length L) : Int)), pv 112 (V.b (decide ((↑i : Int) < (↑(List.length L) : Int))))] kR kR tI ?_
  refine nK hK ?_; clear hK K
  refine w_cond (t := decide ((↑i : Int) < (↑(List.length L) : Int))) kR (fun c4 => ?_) (fun c4 => ?_)
  ·
   have hi1 : i < L.length := by simp at c4; omega
   have q2 := many_bd g4 (i + 1) w
   rw [g1, manyL_at hi1, manyA_at hi1] at q2
   have q3 := g3 _ (gmt_mem hi1)
   refine aw_skip ?_
   refine xt_n (hK _ ?_); clear hK K; refine sK fun K hK => ?_
   refine aw_block ?_
   refine sK fun K hK => wR 3 ?_
   refine aops_n hTT (M := []) (n := 8) [pv 115 (V.i (manyL (List.take i L))), pv 116 (V.sl 3 (List.length L) fun (k : Nat) => Mt.c (gmt L k)), pv 117 (V.i (↑i : Int)), pc 118 ((0 : Int) ≤ (↑i : Int) ∧ (↑i : Int) < (↑(List.length L) : Int)) (V.ptr [V.i (↑(Mt.a (gmt L i)) : Int), V.i (↑(Mt.b (gmt L i)) : Int), V.i (Mt.m (gmt L i))]), pv 119 (V.ptr [V.i (Mt.m (gmt L i))]), pv 120 (V.i (Mt.m (gmt L i))), pc 121 ((-9223372036854775808 : Int) ≤ manyL (List.take i L) + Mt.m (gmt L i) ∧ manyL (List.take i L) + Mt.m (gmt L i) ≤ 9223372036854775807) (V.i (manyL (List.take i L) + Mt.m (gmt L i))), pv 25 (V.i (manyL (List.take i L) + Mt.m (gmt L i)))] kR kR ⟨oM, oM, tI⟩ ?_
   refine nK hK ?_; clear hK K; refine sK fun K hK => wR 4 ?_
   refine aops_n hTT (M := []) (n := 7) [pv 122 (V.sl 3 (List.length L) fun (k : Nat) => Mt.c (gmt L k)), pv 123 (V.i (↑i : Int)), pc 124 ((0 : Int) ≤ (↑i : Int) ∧ (↑i : Int) < (↑(List.length L) : Int)) (V.ptr [V.i (↑(Mt.a (gmt L i)) : Int), V.i (↑(Mt.b (gmt L i)) : Int), V.i (Mt.m (gmt L i))]), pv 125 (V.ptr [V.i (↑(Mt.a (gmt L i)) : Int), V.i (↑(Mt.b (gmt L i)) : Int), V.i (Mt.m (gmt L i))]), pv 126 (V.i (↑(Mt.a (gmt L i)) : Int)), pv 127 (V.i (↑w : Int)), pv 128 (V.b (decide ((↑(Mt.a (gmt L i)) : Int) = (↑w : Int))))] kR kR ⟨oM, tI⟩ ?_
   refine nK hK ?_; clear hK K
   refine w_cond (t := decide ((↑(Mt.a (gmt L i)) : Int) = (↑w : Int))) kR (fun c5 => ?_) (fun c5 => ?_)
   ·
    have c6 : (gmt L i).a = w := by simp at c5; omega
    rw [if_pos c6] at q2
    refine wR 5 ?_
    refine aops_n hTT (M := []) (n := 8) [pv 129 (V.i (manyA (List.take i L) w)), pv 130 (V.sl 3 (List.length L) fun (k : Nat) => Mt.c (gmt L k)), pv 131 (V.i (↑i : Int)), pc 132 ((0 : Int) ≤ (↑i : Int) ∧ (↑i : Int) < (↑(List.length L) : Int)) (V.ptr [V.i (↑(Mt.a (gmt L i)) : Int), V.i (↑(Mt.b (gmt L i)) : Int), V.i (Mt.m (gmt L i))]), pv 133 (V.ptr [V.i (Mt.m (gmt L i))]), pv 134 (V.i (Mt.m (gmt L i))), pc 135 ((-9223372036854775808 : Int) ≤ manyA (List.take i L) w + Mt.m (gmt L i) ∧ manyA (List.take i L) w + Mt.m (gmt L i) ≤ 9223372036854775807) (V.i (manyA (List.take i L) w + Mt.m (gmt L i))), pv 26 (V.i (manyA (List.take i L) w + Mt.m (gmt L i)))] kR kR ⟨oM, oM, tI⟩ ?_
    refine aops_nil ?_; refine xb_n ?_; refine xt_n (hK _ ?_); clear hK K; refine wR 6 ?_
    refine aops_n hTT (M := []) (n := 3) [pv 113 (V.i (↑i : Int)), pc 114 ((-9223372036854775808 : Int) ≤ (↑i : Int) + 1 ∧ (↑i : Int) + 1 ≤ (9223372036854775807 : Int)) (V.i ((↑i : Int) + 1)), pv 27 (V.i ((↑i : Int) + 1))] kR kR ⟨oM, tI⟩ ?_
    refine aops_nil ?_; refine xt_n ?_
    refine ⟨i + 1, by omega, ?_, by omega⟩
    rw [manyL_at hi1, manyA_at hi1, if_pos c6]
    refine le_ren [] (.cons kR (.cons kR (.cons kR (.cons kR (.cons kR (.cons kR (.cons kR (.cons kR (.cons kR (.cons kR .nil)))))))))) .nil kR kR
   ·
    have c6 : ¬ (gmt L i).a = w := by simp at c5; omega
    refine aw_skip ?_
    refine xb_n ?_; refine xt_n (hK _ ?_); clear hK K; refine wR 5 ?_
    refine aops_n hTT (M := []) (n := 3) [pv 113 (V.i (↑i : Int)), pc 114 ((-9223372036854775808 : Int) ≤ (↑i : Int) + 1 ∧ (↑i : Int) + 1 ≤ (9223372036854775807 : Int)) (V.i ((↑i : Int) + 1)), pv 27 (V.i ((↑i : Int) + 1))] kR kR ⟨oM, tI⟩ ?_
    refine aops_nil ?_; refine xt_n ?_
    refine ⟨i + 1, by omega, ?_, by omega⟩
    rw [manyL_at hi1, manyA_at hi1, if_neg c6, Int.add_zero]
    refine le_ren [] (.cons kR (.cons kR (.cons kR (.cons kR (.cons kR (.cons kR (.cons kR (.cons kR (.cons kR (.cons kR .nil)))))))))) .nil kR kR
  obtain rfl : i = L.length := by simp at c4; omega
  rw [List.take_length] at q1 ⊢
  obtain ⟨b1, b2, b3, _⟩ := g2 w
  have b3 := b3 (Nat.zero_le _)
  rw [g1] at b2 ⊢
  generalize manyA L w = o' at q1 b1 b2 b3 ⊢
  obtain ⟨o, rfl⟩ : ∃ o : Nat, o' = o := ⟨o'.toNat, by omega⟩
  obtain ⟨s, hs1, hs2⟩ := tmod_nat hs.1 (m := n + 1) oM
  have hs1 : sample.tmod ((n : Int) + 1) = s := hs1
  refine aw_exit ?_
  refine xt_x ?_; refine xt_x ?_
  refine xb_same ?_
  refine xt_n ?_; clear hK K; refine hK _ ?_; clear hK K; refine sK fun K hK => ?_; refine sK fun K hK => wR 3 ?_
  refine aops_n hTT (M := []) (n := 20) [pv 136 (V.i (↑n : Int)), pv 137 (V.i (↑n : Int)), pv 138 (V.b !decide ((↑n : Int) = (↑n : Int))), pv 139 (V.b !decide ((↑n : Int) = (↑n : Int))), pc 140 ((True ∧ True) ∧ (((!decide ((↑n : Int) = (↑n : Int))) == false) = true → True)) (V.gd ((!decide ((↑n : Int) = (↑n : Int))) == false) (V.i (↑o : Int))), pc 141 (((((!decide ((↑n : Int) = (↑n : Int))) == false) = true → ((!decide ((↑n : Int) = (↑n : Int))) == false) = true) ∧ True ∧ True) ∧ (((!decide ((↑n : Int) = (↑n : Int))) == false) = true → True)) (V.gd ((!decide ((↑n : Int) = (↑n : Int))) == false) (V.b (decide ((↑o : Int) < 0)))), pc 142 (True ∧ ((!decide ((↑n : Int) = (↑n : Int))) = false → ((!decide ((↑n : Int) = (↑n : Int))) == false) = true)) (V.b (!decide ((↑n : Int) = (↑n : Int)) || decide ((↑o : Int) < 0))), pv 143 (V.b (!decide ((↑n : Int) = (↑n : Int)) || decide ((↑o : Int) < 0))), pc 144 ((True ∧ True) ∧ (((!decide ((↑n : Int) = (↑n : Int)) || decide ((↑o : Int) < 0)) == false) = true → True)) (V.gd ((!decide ((↑n : Int) = (↑n : Int)) || decide ((↑o : Int) < 0)) == false) (V.i (↑o : Int))), pc 145 ((True ∧ True) ∧ (((!decide ((↑n : Int) = (↑n : Int)) || decide ((↑o : Int) < 0)) == false) = true → True)) (V.gd ((!decide ((↑n : Int) = (↑n : Int)) || decide ((↑o : Int) < 0)) == false) (V.sl 1 (List.length x) fun (k : Nat) => [V.i (gi x k)])), pc 146 ((True ∧ True) ∧ (((!decide ((↑n : Int) = (↑n : Int)) || decide ((↑o : Int) < 0)) == false) = true → True)) (V.gd ((!decide ((↑n : Int) = (↑n : Int)) || decide ((↑o : Int) < 0)) == false) (V.i (↑w : Int))), pc 147 (((((!decide ((↑n : Int) = (↑n : Int)) || decide ((↑o : Int) < 0)) == false) = true → ((!decide ((↑n : Int) = (↑n : Int)) || decide ((↑o : Int) < 0)) == false) = true) ∧ (((!decide ((↑n : Int) = (↑n : Int)) || decide ((↑o : Int) < 0)) == false) = true → ((!decide ((↑n : Int) = (↑n : Int)) || decide ((↑o : Int) < 0)) == false) = true) ∧ True) ∧ (((!decide ((↑n : Int) = (↑n : Int)) || decide ((↑o : Int) < 0)) == false) = true → (0 : Int) ≤ (↑w : Int) ∧ (↑w : Int) < (↑(List.length x) : Int))) (V.gd ((!decide ((↑n : Int) = (↑n : Int)) || decide ((↑o : Int) < 0)) == false) (V.ptr [V.i (gi x w)])), pc 148 (((((!decide ((↑n : Int) = (↑n : Int)) || decide ((↑o : Int) < 0)) == false) = true → ((!decide ((↑n : Int) = (↑n : Int)) || decide ((↑o : Int) < 0)) == false) = true) ∧ True) ∧ (((!decide ((↑n : Int) = (↑n : Int)) || decide ((↑o : Int) < 0)) == false) = true → True)) (V.gd ((!decide ((↑n : Int) = (↑n : Int)) || decide ((↑o : Int) < 0)) == false) (V.i (gi x w))), pc 149 (((((!decide ((↑n : Int) = (↑n : Int)) || decide ((↑o : Int) < 0)) == false) = true → ((!decide ((↑n : Int) = (↑n : Int)) || decide ((↑o : Int) < 0)) == false) = true) ∧ (((!decide ((↑n : Int) = (↑n : Int)) || decide ((↑o : Int) < 0)) == false) = true → ((!decide ((↑n : Int) = (↑n : Int)) || decide ((↑o : Int) < 0)) == false) = true) ∧ True) ∧ (((!decide ((↑n : Int) = (↑n : Int)) || decide ((↑o : Int) < 0)) == false) = true → True)) (V.gd ((!decide ((↑n : Int) = (↑n : Int)) || decide ((↑o : Int) < 0)) == false) (V.b (decide (gi x w < (↑o : Int))))), pc 150 (True ∧ ((!decide ((↑n : Int) = (↑n : Int)) || decide ((↑o : Int) < 0)) = false → ((!decide ((↑n : Int) = (↑n : Int)) || decide ((↑o : Int) < 0)) == false) = true)) (V.b (!decide ((↑n : Int) = (↑n : Int)) || decide ((↑o : Int) < 0) || decide (gi x w < (↑o : Int)))), pv 151 (V.b (!decide ((↑n : Int) = (↑n : Int)) || decide ((↑o : Int) < 0) || decide (gi x w < (↑o : Int)))), pc 152 ((True ∧ True) ∧ (((!decide ((↑n : Int) = (↑n : Int)) || decide ((↑o : Int) < 0) || decide (gi x w < (↑o : Int))) == false) = true → True)) (V.gd ((!decide ((↑n : Int) = (↑n : Int)) || decide ((↑o : Int) < 0) || decide (gi x w < (↑o : Int))) == false) (V.i (↑o : Int))), pc 153 ((True ∧ True) ∧ (((!decide ((↑n : Int) = (↑n : Int)) || decide ((↑o : Int) < 0) || decide (gi x w < (↑o : Int))) == false) = true → True)) (V.gd ((!decide ((↑n : Int) = (↑n : Int)) || decide ((↑o : Int) < 0) || decide (gi x w < (↑o : Int))) == false) (V.i (↑n : Int))), pc 154 (((((!decide ((↑n : Int) = (↑n : Int)) || decide ((↑o : Int) < 0) || decide (gi x w < (↑o : Int))) == false) = true → ((!decide ((↑n : Int) = (↑n : Int)) || decide ((↑o : Int) < 0) || decide (gi x w < (↑o : Int))) == false) = true) ∧ (((!decide ((↑n : Int) = (↑n : Int)) || decide ((↑o : Int) < 0) || decide (gi x w < (↑o : Int))) == false) = true → ((!decide ((↑n : Int) = (↑n : Int)) || decide ((↑o : Int) < 0) || decide (gi x w < (↑o : Int))) == false) = true) ∧ True) ∧ (((!decide ((↑n : Int) = (↑n : Int)) || decide ((↑o : Int) < 0) || decide (gi x w < (↑o : Int))) == false) = true → True)) (V.gd ((!decide ((↑n : Int) = (↑n : Int)) || decide ((↑o : Int) < 0) || decide (gi x w < (↑o : Int))) == false) (V.b (decide ((↑n : Int) < (↑o : Int))))), pc 155 (True ∧ ((!decide ((↑n : Int) = (↑n : Int)) || decide ((↑o : Int) < 0) || decide (gi x w < (↑o : Int))) = false → ((!decide ((↑n : Int) = (↑n : Int)) || decide ((↑o : Int) < 0) || decide (gi x w < (↑o : Int))) == false) = true)) (V.b (!decide ((↑n : Int) = (↑n : Int)) || decide ((↑o : Int) < 0) || decide (gi x w < (↑o : Int)) || decide ((↑n : Int) < (↑o : Int))))] kR kR ⟨⟨⟨tI, tI⟩, (fun _ => tI)⟩, ⟨⟨(by (exact fun h => h)), ⟨tI, tI⟩⟩, (fun _ => tI)⟩, ⟨tI, (by (intro h; rw [h]; rfl))⟩, ⟨⟨tI, tI⟩, (fun _ => tI)⟩, ⟨⟨tI, tI⟩, (fun _ => tI)⟩, ⟨⟨tI, tI⟩, (fun _ => tI)⟩, ⟨⟨(by (exact fun h => h)), ⟨(by (exact fun h => h)), tI⟩⟩, (by (simp only [inR]; omega))⟩, ⟨⟨(by (exact fun h => h)), tI⟩, (fun _ => tI)⟩, ⟨⟨(by (exact fun h => h)), ⟨(by (exact fun h => h)), tI⟩⟩, (fun _ => tI)⟩, ⟨tI, (by (intro h; rw [h]; rfl))⟩, ⟨⟨tI, tI⟩, (fun _ => tI)⟩, ⟨⟨tI, tI⟩, (fun _ => tI)⟩, ⟨⟨(by (exact fun h => h)), ⟨(by (exact fun h => h)), tI⟩⟩, (fun _ => tI)⟩, ⟨tI, (by (intro h; rw [h]; rfl))⟩, tI⟩ ?_
  refine nK hK ?_; clear hK K
  refine w_cond (t := !decide ((↑n : Int) = (↑n : Int)) || decide ((↑o : Int) < 0) || decide (gi x w < (↑o : Int)) || decide ((↑n : Int) < (↑o : Int))) kR (fun c5 => ?_) (fun c5 => ?_)
  ·
   simp at c5
   omega
  refine aw_skip ?_
  refine xt_n (hK _ ?_); clear hK K; refine sK fun K hK => wR 4 ?_
  refine aops_n hTT (M := []) (n := 6) [pv 156 (V.c (Value.int IntKind.u8 sample)), pc 157 ((-9223372036854775808 : Int) ≤ sample ∧ sample ≤ 9223372036854775807) (V.i sample), pv 158 (V.i (↑n : Int)), pc 159 ((-9223372036854775808 : Int) ≤ (↑n : Int) + 1 ∧ (↑n : Int) + 1 ≤ (9223372036854775807 : Int)) (V.i ((↑n : Int) + 1)), pc 160 ((↑n : Int) + 1 ≠ (0 : Int)) (V.i (Int.tmod sample ((↑n : Int) + 1))), pv 28 (V.i (Int.tmod sample ((↑n : Int) + 1)))] kR kR ⟨oM, oM, oM, tI⟩ ?_
  refine nK hK ?_; clear hK K; refine sK fun K hK => wR 5 ?_
  refine aops_n hTT (M := []) (n := 3) [pv 162 (V.i (↑n : Int)), pv 163 (V.i (↑o : Int)), pv 164 (V.i (Int.tmod sample ((↑n : Int) + 1)))] kR kR tI ?_
  rw [hs1]
  have W1 := Ways_ac n o s 1 hn50 oM oM oM
  rw [wys_first] at W1
  have h50 := chN_50 (n := n - o) oM s
  refine eC (W1) ?_
  refine aops_n hTT (M := []) (n := 5) [pv 161 (V.tup [V.i (↑(chN (n - o) s) : Int), V.i 0]), pv 166 (V.i (↑(chN (n - o) s) : Int)), pv 167 (V.i 0), pv 29 (V.i (↑(chN (n - o) s) : Int)), pv 21 (V.i 0)] kR kR tI ?_
  refine nK hK ?_; clear hK K; refine sK fun K hK => ?_; refine sK fun K hK => wR 6 ?_
  refine aops_n hTT (M := []) (n := 2) [pv 168 (V.i 0), pv 169 (V.b false)] kR kR tI ?_
  refine nK hK ?_; clear hK K; refine w_false (t := false) kR rfl ?_
  refine aw_skip ?_
  refine xt_n (hK _ ?_); clear hK K; refine sK fun K hK => ?_; refine sK fun K hK => wR 7 ?_
  refine aops_n hTT (M := []) (n := 5) [pv 170 (V.i (↑s : Int)), pv 171 (V.i (↑n : Int)), pv 172 (V.i (↑o : Int)), pc 173 ((-9223372036854775808 : Int) ≤ (↑n : Int) - (↑o : Int) ∧ (↑n : Int) - (↑o : Int) ≤ 9223372036854775807) (V.i ((↑n : Int) - (↑o : Int))), pv 174 (V.b (decide ((↑s : Int) ≤ (↑n : Int) - (↑o : Int))))] kR kR ⟨oM, tI⟩ ?_
  refine nK hK ?_; clear hK K
  refine join_m (by assumption) ⟨mkT [(5, .c (.int .u16 re)), (6, .c (.int .u16 ac)), (19, .i n), (26, .i o)], mkS [], 1⟩ ?_ ?_
  rotate_left
  ·
   refine w_cond (t := decide ((↑s : Int) ≤ (↑n : Int) - (↑o : Int))) kR (fun c6 => ?_) (fun c6 => ?_)
   ·
    refine sK fun K hK => ?_
    refine wR 8 ?_
    refine aops_n hTT (M := []) (n := 4) [pv 176 (V.i (↑n : Int)), pv 177 (V.i (↑o : Int)), pc 178 ((-9223372036854775808 : Int) ≤ (↑n : Int) - (↑o : Int) ∧ (↑n : Int) - (↑o : Int) ≤ 9223372036854775807) (V.i ((↑n : Int) - (↑o : Int))), pv 179 (V.i (↑s : Int))] kR kR ⟨oM, tI⟩ ?_
    refine eC (AC.conv (Choose_ac (n - o) s oM (by simp at c6; omega)) (args' := [V.i ((↑n : Int) - (↑o : Int)), V.i (↑s : Int)]) ⟨?_, RImp.refl _, trivial⟩) ?_
    ·
     exact int_seen oM
    refine aops_n hTT (M := []) (n := 5) [pv 175 (V.tup [V.i (↑(chN (n - o) s) : Int), V.i 0]), pv 181 (V.i (↑(chN (n - o) s) : Int)), pv 182 (V.i 0), pv 30 (V.i (↑(chN (n - o) s) : Int)), pv 31 (V.i 0)] kR kR tI ?_
    refine nK hK ?_; clear hK K; refine sK fun K hK => wR 9 ?_
    refine aops_n hTT (M := []) (n := 7) [pv 183 (V.i 0), pv 184 (V.b false), pv 185 (V.b false), pc 186 ((True ∧ True) ∧ ((false == false) = true → True)) (V.gd (false == false) (V.i (↑(chN (n - o) s) : Int))), pc 187 ((True ∧ True) ∧ ((false == false) = true → True)) (V.gd (false == false) (V.i (↑(chN (n - o) s) : Int))), pc 188 ((yyWMissed2 ∧ yyWMissed2 ∧ True) ∧ ((false == false) = true → True)) (V.gd (false == false) (V.b !decide ((↑(chN (n - o) s) : Int) = (↑(chN (n - o) s) : Int)))), pc 189 (True ∧ (false = false → (false == false) = true)) (V.b !decide ((↑(chN (n - o) s) : Int) = (↑(chN (n - o) s) : Int)))] kR kR ⟨⟨⟨tI, tI⟩, (fun _ => tI)⟩, ⟨⟨tI, tI⟩, (fun _ => tI)⟩, ⟨⟨(by (exact fun h => h)), ⟨(by (exact fun h => h)), tI⟩⟩, (fun _ => tI)⟩, ⟨tI, (by (intro h; rw [h]; rfl))⟩, tI⟩ ?_
    refine nK hK ?_; clear hK K
    refine w_cond (t := !decide ((↑(chN (n - o) s) : Int) = (↑(chN (n - o) s) : Int))) kR (fun c7 => ?_) (fun c7 => ?_)
    ·
     simp at c7
    ·
     refine aw_skip ?_
     refine xt_n ?_
     refine ⟨(), rfl, ?_⟩
     refine le_ren [] (.cons kR (.cons kR (.cons kR (.cons kR .nil)))) .nil kR kR
   ·
    refine sK fun K hK => ?_
    refine wR 8 ?_
    refine aops_n hTT (M := []) (n := 2) [pv 190 (V.i (↑(chN (n - o) s) : Int)), pv 191 (V.b !decide ((↑(chN (n - o) s) : Int) = 0))] kR kR tI ?_
    refine nK hK ?_; clear hK K
    refine w_cond (t := !decide ((↑(chN (n - o) s) : Int) = 0)) kR (fun c7 => ?_) (fun c7 => ?_)
    ·
     rw [chN_gt (n - o) s (by simp at c6; omega)] at c7
     simp at c7
    ·
     refine aw_skip ?_
     refine xt_n ?_
     refine ⟨(), rfl, ?_⟩
     refine le_ren [] (.cons kR (.cons kR (.cons kR (.cons kR .nil)))) .nil kR kR
  refine sK fun K hK => ?_; refine sK fun K hK => wR 2 ?_
  refine aops_n hTT (M := []) (n := 2) [pv 192 (V.i (↑o : Int)), pv 193 (V.b (decide ((↑o : Int) = 0)))] kR kR tI ?_
  refine nK hK ?_; clear hK K
  refine w_cond (t := decide ((↑o : Int) = 0)) kR (fun c8 => ?_) (fun c8 => ?_)
  ·
   refine sK fun K hK => ?_
   refine wR 3 ?_
   refine eC (works09_ac) ?_
   refine aops_n hTT (M := []) (n := 1) [pv 14 (V.b true)] kR kR tI ?_
   refine nK hK ?_; clear hK K
   refine aw_ret ?_
   refine xt_r ?_
   refine rP (V.b true)
  have po : 0 < o := by
   have : ¬ ((o : Int) = 0) := of_decide_eq_false c8
   omega
  have hre' : 0 ≤ re.tmod 1001 ∧ re.tmod 1001 ≤ 1000 := by
   rw [Int.tmod_eq_emod_of_nonneg hre.1]; omega
  have hac' : 0 ≤ ac.tmod 1001 ∧ ac.tmod 1001 ≤ 1000 := by
   rw [Int.tmod_eq_emod_of_nonneg hac.1]; omega
  refine aw_skip ?_
  refine xt_n (hK _ ?_); clear hK K; refine sK fun K hK => wR 3 ?_
  refine aops_n hTT (M := []) (n := 8) [pv 196 (V.i (↑n : Int)), pv 197 (V.i (↑o : Int)), pv 198 (V.c (Value.int IntKind.u16 re)), pc 199 ((-9223372036854775808 : Int) ≤ re ∧ re ≤ 9223372036854775807) (V.i re), pc 200 ((1001 : Int) ≠ (0 : Int)) (V.i (Int.tmod re (1001 : Int))), pv 201 (V.c (Value.int IntKind.u16 ac)), pc 202 ((-9223372036854775808 : Int) ≤ ac ∧ ac ≤ 9223372036854775807) (V.i ac), pc 203 ((1001 : Int) ≠ (0 : Int)) (V.i (Int.tmod ac (1001 : Int)))] kR kR ⟨oM, oM, oM, oM, tI⟩ ?_
  generalize re.tmod 1001 = re' at hre' ⊢
  obtain ⟨t, m, t1, t2, t3, t4, t5, _, _⟩ := smp_at (n := n) (b := o) (re := re') (ac := ac.tmod 1001) po oM hre'.1 hac'.1
  have S1 := Sampling_ac n o re' (ac.tmod 1001) hn50 ⟨po, by omega⟩ hre' hac'
  rw [t1, show ((t : Int)).toNat = t from Int.toNat_natCast t, t2] at S1
  refine eC (S1) ?_
  refine aops_n hTT (M := []) (n := 7) [pv 195 (V.tup [V.i (↑t : Int), V.i (↑m : Int), V.i 0]), pv 205 (V.i (↑t : Int)), pv 206 (V.i (↑m : Int)), pv 207 (V.i 0), pv 32 (V.i (↑t : Int)), pv 33 (V.i (↑m : Int)), pv 21 (V.i 0)] kR kR tI ?_
  refine nK hK ?_; clear hK K; refine sK fun K hK => ?_; refine sK fun K hK => wR 4 ?_
  refine aops_n hTT (M := []) (n := 20) [pv 208 (V.i 0), pv 209 (V.b false), pv 210 (V.b false), pc 211 ((True ∧ True) ∧ ((false == false) = true → True)) (V.gd (false == false) (V.i (↑t : Int))), pc 212 ((yyWMissed2 ∧ True ∧ True) ∧ ((false == false) = true → True)) (V.gd (false == false) (V.b (decide ((↑t : Int) < 0)))), pc 213 (True ∧ (false = false → (false == false) = true)) (V.b (decide ((↑t : Int) < 0))), pv 214 (V.b (decide ((↑t : Int) < 0))), pc 215 ((True ∧ True) ∧ ((decide ((↑t : Int) < 0) == false) = true → True)) (V.gd (decide ((↑t : Int) < 0) == false) (V.i (↑t : Int))), pc 216 ((True ∧ True) ∧ ((decide ((↑t : Int) < 0) == false) = true → True)) (V.gd (decide ((↑t : Int) < 0) == false) (V.i (↑n : Int))), pc 217 ((((decide ((↑t : Int) < 0) == false) = true → (decide ((↑t : Int) < 0) == false) = true) ∧ ((decide ((↑t : Int) < 0) == false) = true → (decide ((↑t : Int) < 0) == false) = true) ∧ True) ∧ ((decide ((↑t : Int) < 0) == false) = true → True)) (V.gd (decide ((↑t : Int) < 0) == false) (V.b (decide ((↑n : Int) < (↑t : Int))))), pc 218 (True ∧ (decide ((↑t : Int) < 0) = false → (decide ((↑t : Int) < 0) == false) = true)) (V.b (decide ((↑t : Int) < 0) || decide ((↑n : Int) < (↑t : Int)))), pv 219 (V.b (decide ((↑t : Int) < 0) || decide ((↑n : Int) < (↑t : Int)))), pc 220 ((True ∧ True) ∧ (((decide ((↑t : Int) < 0) || decide ((↑n : Int) < (↑t : Int))) == false) = true → True)) (V.gd ((decide ((↑t : Int) < 0) || decide ((↑n : Int) < (↑t : Int))) == false) (V.i (↑m : Int))), pc 221 (((((decide ((↑t : Int) < 0) || decide ((↑n : Int) < (↑t : Int))) == false) = true → ((decide ((↑t : Int) < 0) || decide ((↑n : Int) < (↑t : Int))) == false) = true) ∧ True ∧ True) ∧ (((decide ((↑t : Int) < 0) || decide ((↑n : Int) < (↑t : Int))) == false) = true → True)) (V.gd ((decide ((↑t : Int) < 0) || decide ((↑n : Int) < (↑t : Int))) == false) (V.b (decide ((↑m : Int) < 0)))), pc 222 (True ∧ ((decide ((↑t : Int) < 0) || decide ((↑n : Int) < (↑t : Int))) = false → ((decide ((↑t : Int) < 0) || decide ((↑n : Int) < (↑t : Int))) == false) = true)) (V.b (decide ((↑t : Int) < 0) || decide ((↑n : Int) < (↑t : Int)) || decide ((↑m : Int) < 0))), pv 223 (V.b (decide ((↑t : Int) < 0) || decide ((↑n : Int) < (↑t : Int)) || decide ((↑m : Int) < 0))), pc 224 ((True ∧ True) ∧ (((decide ((↑t : Int) < 0) || decide ((↑n : Int) < (↑t : Int)) || decide ((↑m : Int) < 0)) == false) = true → True)) (V.gd ((decide ((↑t : Int) < 0) || decide ((↑n : Int) < (↑t : Int)) || decide ((↑m : Int) < 0)) == false) (V.i (↑m : Int))), pc 225 ((True ∧ True) ∧ (((decide ((↑t : Int) < 0) || decide ((↑n : Int) < (↑t : Int)) || decide ((↑m : Int) < 0)) == false) = true → True)) (V.gd ((decide ((↑t : Int) < 0) || decide ((↑n : Int) < (↑t : Int)) || decide ((↑m : Int) < 0)) == false) (V.i (↑n : Int))), pc 226 (((((decide ((↑t : Int) < 0) || decide ((↑n : Int) < (↑t : Int)) || decide ((↑m : Int) < 0)) == false) = true → ((decide ((↑t : Int) < 0) || decide ((↑n : Int) < (↑t : Int)) || decide ((↑m : Int) < 0)) == false) = true) ∧ (((decide ((↑t : Int) < 0) || decide ((↑n : Int) < (↑t : Int)) || decide ((↑m : Int) < 0)) == false) = true → ((decide ((↑t : Int) < 0) || decide ((↑n : Int) < (↑t : Int)) || decide ((↑m : Int) < 0)) == false) = true) ∧ True) ∧ (((decide ((↑t : Int) < 0) || decide ((↑n : Int) < (↑t : Int)) || decide ((↑m : Int) < 0)) == false) = true → True)) (V.gd ((decide ((↑t : Int) < 0) || decide ((↑n : Int) < (↑t : Int)) || decide ((↑m : Int) < 0)) == false) (V.b (decide ((↑n : Int) < (↑m : Int))))), pc 227 (True ∧ ((decide ((↑t : Int) < 0) || decide ((↑n : Int) < (↑t : Int)) || decide ((↑m : Int) < 0)) = false → ((decide ((↑t : Int) < 0) || decide ((↑n : Int) < (↑t : Int)) || decide ((↑m : Int) < 0)) == false) = true)) (V.b (decide ((↑t : Int) < 0) || decide ((↑n : Int) < (↑t : Int)) || decide ((↑m : Int) < 0) || decide ((↑n : Int) < (↑m : Int))))] kR kR ⟨⟨⟨tI, tI⟩, (fun _ => tI)⟩, ⟨⟨(by (exact fun h => h)), ⟨tI, tI⟩⟩, (fun _ => tI)⟩, ⟨tI, (by (intro h; rw [h]; rfl))⟩, ⟨⟨tI, tI⟩, (fun _ => tI)⟩, ⟨⟨tI, tI⟩, (fun _ => tI)⟩, ⟨⟨(by (exact fun h => h)), ⟨(by (exact fun h => h)), tI⟩⟩, (fun _ => tI)⟩, ⟨tI, (by (intro h; rw [h]; rfl))⟩, ⟨⟨tI, tI⟩, (fun _ => tI)⟩, ⟨⟨(by (exact fun h => h)), ⟨tI, tI⟩⟩, (fun _ => tI)⟩, ⟨tI, (by (intro h; rw [h]; rfl))⟩, ⟨⟨tI, tI⟩, (fun _ => tI)⟩, ⟨⟨tI, tI⟩, (fun _ => tI)⟩, ⟨⟨(by (exact fun h => h)), ⟨(by (exact fun h => h)), tI⟩⟩, (fun _ => tI)⟩, ⟨tI, (by (intro h; rw [h]; rfl))⟩, tI⟩ ?_
  refine nK hK ?_; clear hK K
  refine w_cond (t := decide ((↑t : Int) < 0) || decide ((↑n : Int) < (↑t : Int)) || decide ((↑m : Int) < 0) || decide ((↑n : Int) < (↑m : Int))) kR (fun c9 => ?_) (fun c9 => ?_)
  ·
   simp at c9
   omega
  have h51 := wys_le o (n - o) t (m + 1)
  rw [show o + (n - o) = n by omega] at h51
  have h52 := chN_50 hn50 t
  have h53 : 0 ≤ ac.tmod 1001 * (chN n t : Int) ∧ ac.tmod 1001 * (chN n t : Int) ≤ 1000 * 1125899906842624 := ⟨Int.mul_nonneg hac'.1 oM, Int.mul_le_mul hac'.2 oM oM (by decide)⟩
  have h54 := smp_pass t5
  refine aw_skip ?_
  refine xt_n (hK _ ?_); clear hK K; refine sK fun K hK => wR 5 ?_
  refine aops_n hTT (M := []) (n := 4) [pv 229 (V.i (↑n : Int)), pv 230 (V.i (↑o : Int)), pv 231 (V.i (↑t : Int)), pv 232 (V.i (↑m : Int))] kR kR tI ?_
  refine eC (AC.conv (Ways_ac n o t (m + 1) hn50 oM t3 oM) (args' := [V.i (↑n : Int), V.i (↑o : Int), V.i (↑t : Int), V.i (↑m : Int)]) ⟨RImp.refl _, RImp.refl _, RImp.refl _, ?_, trivial⟩) ?_
  ·
   exact int_seen oM
  refine aops_n hTT (M := []) (n := 5) [pv 228 (V.tup [V.i (↑(wysN o (n - o) t (m + 1)) : Int), V.i 0]), pv 234 (V.i (↑(wysN o (n - o) t (m + 1)) : Int)), pv 235 (V.i 0), pv 34 (V.i (↑(wysN o (n - o) t (m + 1)) : Int)), pv 35 (V.i 0)] kR kR tI ?_
  refine nK hK ?_; clear hK K; refine sK fun K hK => wR 6 ?_
  refine aops_n hTT (M := []) (n := 2) [pv 237 (V.i (↑n : Int)), pv 238 (V.i (↑t : Int))] kR kR tI ?_
  refine eC (Choose_ac n t hn50 t3) ?_
  refine aops_n hTT (M := []) (n := 5) [pv 236 (V.tup [V.i (↑(chN n t) : Int), V.i 0]), pv 240 (V.i (↑(chN n t) : Int)), pv 241 (V.i 0), pv 36 (V.i (↑(chN n t) : Int)), pv 37 (V.i 0)] kR kR tI ?_
  refine nK hK ?_; clear hK K; refine sK fun K hK => wR 7 ?_
  refine aops_n hTT (M := []) (n := 17) [pv 242 (V.i 0), pv 243 (V.b true), pv 244 (V.b true), pc 245 ((True ∧ True) ∧ ((true == true) = true → True)) (V.gd (true == true) (V.i 0)), pc 246 ((yyWMissed3 ∧ True ∧ True) ∧ ((true == true) = true → True)) (V.gd (true == true) (V.b true)), pc 247 ((true = true → (true == true) = true) ∧ True) (V.b true), pv 248 (V.b true), pc 249 ((True ∧ True) ∧ ((true == true) = true → True)) (V.gd (true == true) (V.i (↑(wysN o (n - o) t (m + 1)) : Int))), pc 250 ((True ∧ yyWMissed3 ∧ True) ∧ ((true == true) = true → (-9223372036854775808 : Int) ≤ (1000 : Int) * (↑(wysN o (n - o) t (m + 1)) : Int) ∧ (1000 : Int) * (↑(wysN o (n - o) t (m + 1)) : Int) ≤ 9223372036854775807)) (V.gd (true == true) (V.i ((1000 : Int) * (↑(wysN o (n - o) t (m + 1)) : Int)))), pc 251 ((True ∧ True) ∧ ((true == true) = true → True)) (V.gd (true == true) (V.c (Value.int IntKind.u16 ac))), pc 252 ((yyWMissed3 ∧ True) ∧ ((true == true) = true → (-9223372036854775808 : Int) ≤ ac ∧ ac ≤ 9223372036854775807)) (V.gd (true == true) (V.i ac)), pc 253 ((yyWMissed3 ∧ True ∧ True) ∧ ((true == true) = true → (1001 : Int) ≠ (0 : Int))) (V.gd (true == true) (V.i (Int.tmod ac (1001 : Int)))), pc 254 ((True ∧ True) ∧ ((true == true) = true → True)) (V.gd (true == true) (V.i (↑(chN n t) : Int))), pc 255 ((yyWMissed3 ∧ yyWMissed3 ∧ True) ∧ ((true == true) = true → (-9223372036854775808 : Int) ≤ Int.tmod ac (1001 : Int) * (↑(chN n t) : Int) ∧ Int.tmod ac (1001 : Int) * (↑(chN n t) : Int) ≤ 9223372036854775807)) (V.gd (true == true) (V.i (Int.tmod ac (1001 : Int) * (↑(chN n t) : Int)))), pc 256 ((yyWMissed3 ∧ yyWMissed3 ∧ True) ∧ ((true == true) = true → True)) (V.gd (true == true) (V.b (decide ((1000 : Int) * (↑(wysN o (n - o) t (m + 1)) : Int) ≤ Int.tmod ac (1001 : Int) * (↑(chN n t) : Int))))), pc 257 ((true = true → (true == true) = true) ∧ True) (V.b (decide ((1000 : Int) * (↑(wysN o (n - o) t (m + 1)) : Int) ≤ Int.tmod ac (1001 : Int) * (↑(chN n t) : Int)))), pv 258 (V.b (decide ((1000 : Int) * (↑(wysN o (n - o) t (m + 1)) : Int) ≤ Int.tmod ac (1001 : Int) * (↑(chN n t) : Int))))] kR kR ⟨⟨⟨tI, tI⟩, (fun _ => tI)⟩, ⟨⟨(by (exact fun h => h)), ⟨tI, tI⟩⟩, (fun _ => tI)⟩, ⟨(by (exact fun h => h)), tI⟩, ⟨⟨tI, tI⟩, (fun _ => tI)⟩, ⟨⟨tI, ⟨(by (exact fun h => h)), tI⟩⟩, (by (intro hg; simp at hg; omega))⟩, ⟨⟨tI, tI⟩, (fun _ => tI)⟩, ⟨⟨(by (exact fun h => h)), tI⟩, (by (intro hg; simp at hg; omega))⟩, ⟨⟨(by (exact fun h => h)), ⟨tI, tI⟩⟩, (by (intro _; simp; done))⟩, ⟨⟨tI, tI⟩, (fun _ => tI)⟩, ⟨⟨(by (exact fun h => h)), ⟨(by (exact fun h => h)), tI⟩⟩, (by (intro hg; simp at hg; omega))⟩, ⟨⟨(by (exact fun h => h)), ⟨(by (exact fun h => h)), tI⟩⟩, (fun _ => tI)⟩, ⟨(by (exact fun h => h)), tI⟩, tI⟩ ?_
  refine eG 0 (g := decide ((1000 : Int) * (↑(wysN o (n - o) t (m + 1)) : Int) ≤ Int.tmod ac (1001 : Int) * (↑(chN n t) : Int)) == true) (fun h => works09_ac) ?_
  refine aops_n hTT (M := []) (n := 2) [pc 260 ((decide ((1000 : Int) * (↑(wysN o (n - o) t (m + 1)) : Int) ≤ Int.tmod ac (1001 : Int) * (↑(chN n t) : Int)) = true → (decide ((1000 : Int) * (↑(wysN o (n - o) t (m + 1)) : Int) ≤ Int.tmod ac (1001 : Int) * (↑(chN n t) : Int)) == true) = true) ∧ True) (V.b (decide ((1000 : Int) * (↑(wysN o (n - o) t (m + 1)) : Int) ≤ Int.tmod ac (1001 : Int) * (↑(chN n t) : Int)) && true)), pv 14 (V.b (decide ((1000 : Int) * (↑(wysN o (n - o) t (m + 1)) : Int) ≤ Int.tmod ac (1001 : Int) * (↑(chN n t) : Int)) && true))] kR kR ⟨⟨(by (intro h; rw [h]; rfl)), tI⟩, tI⟩ ?_
  refine nK hK ?_; clear hK K
  refine aw_ret ?_
  rw [show (V.b true) = V.b (decide (1000 * (wysN o (n - o) t (m + 1) : Int) ≤ ac.tmod 1001 * (chN n t : Int)) && true) by rw [decide_eq_true h54]; rfl]
  refine rP (V.b (decide ((1000 : Int) * (↑(wysN o (n - o) t (m + 1)) : Int) ≤ Int.tmod ac (1001 : Int) * (↑(chN n t) : Int)) && true))
 ·
  rw [mtV, if_neg h0] at P1
  rw [rmtV, if_neg h0] at P2
  refine aw_exit ?_
  refine xt_x ?_; refine xt_x ?_
  refine xb_same ?_
  refine xt_n ?_; clear hK K; refine hK _ ?_; clear hK K; refine sK fun K hK => wR 3 ?_
  refine aops_n hTT (M := []) (n := 4) [pv 76 (V.c (Value.int IntKind.u8 many)), pc 77 ((-9223372036854775808 : Int) ≤ many ∧ many ≤ 9223372036854775807) (V.i many), pc 78 ((51 : Int) ≠ (0 : Int)) (V.i (Int.tmod many (51 : Int))), pv 19 (V.i (Int.tmod many (51 : Int)))] kR kR ⟨oM, oM, tI⟩ ?_
  refine nK hK ?_; clear hK K; refine sK fun K hK => wR 4 ?_
  refine aops_n hTT (M := []) (n := 3) [pv 80 (V.sl 1 (List.length x) fun (k : Nat) => [V.i (gi x k)]), pv 81 (V.sl 1 (List.length y) fun (k : Nat) => [V.i (gi y k)]), pv 82 (V.i (Int.tmod many (51 : Int)))] kR kR tI ?_
  rw [hn']
  refine eC (P1) ?_
  refine aops_n hTT (M := []) (n := 5) [pv 79 (V.tup [V.nil, V.i 15]), pv 84 V.nil, pv 85 (V.i 15), pv 20 V.nil, pv 21 (V.i 15)] kR kR tI ?_
  refine nK hK ?_; clear hK K; refine sK fun K hK => wR 5 ?_
  refine aops_n hTT (M := []) (n := 3) [pv 87 (V.sl 1 (List.length x) fun (k : Nat) => [V.i (gi x k)]), pv 88 (V.sl 1 (List.length y) fun (k : Nat) => [V.i (gi y k)]), pv 89 (V.i (↑n : Int))] kR kR tI ?_
  refine eC (P2) ?_
  refine aops_n hTT (M := []) (n := 5) [pv 86 (V.tup [V.nil, V.i 15]), pv 91 V.nil, pv 92 (V.i 15), pv 22 V.nil, pv 23 (V.i 15)] kR kR tI ?_
  refine nK hK ?_; clear hK K; refine sK fun K hK => ?_; refine sK fun K hK => wR 6 ?_
  refine aops_n hTT (M := []) (n := 3) [pv 93 (V.i 15), pv 94 (V.i 15), pv 95 (V.b false)] kR kR tI ?_
  refine nK hK ?_; clear hK K; refine w_false (t := false) kR rfl ?_
  refine aw_skip ?_
  refine xt_n (hK _ ?_); clear hK K; refine sK fun K hK => ?_; refine sK fun K hK => wR 7 ?_
  refine aops_n hTT (M := []) (n := 7) [pv 96 (V.i 15), pv 97 (V.b true), pv 98 (V.b true), pc 99 ((True ∧ True) ∧ ((true == false) = true → True)) (V.gd (true == false) (V.sl 1 (List.length x) fun (k : Nat) => [V.i (gi x k)])), pc 100 ((((true == false) = true → (true == false) = true) ∧ True) ∧ ((true == false) = true → True)) (V.gd (true == false) (V.i (↑(List.length x) : Int))), pc 101 ((((true == false) = true → (true == false) = true) ∧ True ∧ True) ∧ ((true == false) = true → True)) (V.gd (true == false) (V.b (decide ((↑(List.length x) : Int) = 0)))), pc 102 (True ∧ (true = false → (true == false) = true)) (V.b true)] kR kR ⟨⟨⟨tI, tI⟩, (fun _ => tI)⟩, ⟨⟨(by (exact fun h => h)), tI⟩, (fun _ => tI)⟩, ⟨⟨(by (exact fun h => h)), ⟨tI, tI⟩⟩, (fun _ => tI)⟩, ⟨tI, (by (intro h; simp at h; done))⟩, tI⟩ ?_
  refine nK hK ?_; clear hK K; refine w_true (t := true) kR rfl ?_; refine sK fun K hK => wR 8 ?_
  refine eC (works09_ac) ?_
  refine aops_n hTT (M := []) (n := 1) [pv 14 (V.b true)] kR kR tI ?_
  refine nK hK ?_; clear hK K
  refine aw_ret ?_
  refine xt_r ?_
  refine rP (V.b true)
def missedSh : List Sh := [(.sl (.int .u8)), (.sl (.int .u8)), (.int .u8), (.int .u8), (.int .u8), (.int .u16), (.int .u16)]
theorem missed_all (x : TL missedSh) (hx : wfL missedSh x) : AC Tryz.prog 3 (valL missedSh x) (V.b true) [] := by
 obtain ⟨a, b, m, w, s, r, c, _⟩ := x
 obtain ⟨⟨h1, h2⟩, ⟨h3, h4⟩, hm, hw, hs, hr, hc, _⟩ := hx
 exact missed_law a b m w s r c h1 (fun x hx => wf_u8 (h2 x hx)) h3 (fun x hx => wf_u8 (h4 x hx)) (wf_u8 hm) (wf_u8 hw) (wf_u8 hs) (wf_u16 hr) (wf_u16 hc)
end Go.Proofs.YtofjmklmnlcekaaGreatDoor
