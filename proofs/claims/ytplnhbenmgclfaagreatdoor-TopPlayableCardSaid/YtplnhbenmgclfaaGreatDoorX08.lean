/-
  Several texts in one: The chapter's few examples hold. No condition. .. Faults of grooves that are turned round, mirrored, moved, cut to parts, or held to milder limits, in plain Lean. Conditions: told in each theorem.
-/
import Derived.Test.YtplnhbenmgclfaaGreatDoorX07
import Derived.Test.YtplnhbenmgclfaaGreatDoorAbs42
import Derived.Test.YtplnhbenmgclfaaGreatDoorX03
import Derived.Test.YtplnhbenmgclfaaGreatDoorX01
import Derived.Test.YtplnhbenmgclfaaGreatDoorMD
import Derived.Test.YtplnhbenmgclfaaGreatDoorMC
import Derived.Test.YtplnhbenmgclfaaGreatDoorX06
import Derived.Test.YtplnhbenmgclfaaGreatDoorX00
import Derived.Test.YtplnhbenmgclfaaGreatDoorX02
import Derived.Test.YtplnhbenmgclfaaGreatDoorX04
namespace Go.Proofs.YtplnhbenmgclfaaGreatDoor
open Go.Ab Go.RowKit Go.Dw Go.Shelf
theorem RImp.agg {us' us : List V} (h : A2 us' us) : RImp (.agg us') (.agg us) := by
 intro w L x hx
 obtain ⟨xs, rfl, hl⟩ := hx.agg_inv
 have hv := h.rv hl.rv
 exact .agg' ⟨hv.1, fun i u x hu hx => ⟨hv.2 i u x hu hx, hl.one x (List.mem_of_getElem? hx)⟩⟩
theorem RImp.lit1 (l : List Int) : RImp (.sl 1 l.length fun i => ((l.map V.i).drop (i * 1)).take 1) (V.ints l) := by
 refine .rows rfl fun i hi => ?_
 rw [Nat.mul_one, List.drop_eq_getElem_cons (by simpa using hi)]
 simp [gi_eq hi]
end Go.Proofs.YtplnhbenmgclfaaGreatDoor

namespace Go.Proofs.YtplnhbenmgclfaaGreatDoor
open Go.Ab Go.RowKit Go.Dw Go.Shelf
def nA : ByteArray := ⟨#[97]⟩
def lett : ByteArray := ⟨#[97, 98, 99, 100, 101, 102, 103, 104, 105, 106, 107, 108, 109, 110, 111, 112, 113, 114, 115, 116, 117, 118, 119, 120, 121, 122, 48, 49, 50, 51, 52, 53, 54, 55, 56, 57]⟩
def arrB (F : Nat → Bool) : List V := (List.range 256).map fun k => V.b (F k)
theorem arrB_len (F : Nat → Bool) : (arrB F).length = 256 := by simp [arrB]
theorem arrB_ren (g : Nat → Nat) (F : Nat → Bool) : V.renL g (arrB F) = arrB F := by kernel_rfl
theorem arrB_set {F G : Nat → Bool} {i : Nat} (h : i < 256) (hx : G i = true) (hG : ∀ k, k ≠ i → G k = F k) : (arrB F).set i (V.b true) = arrB G := by
 refine List.ext_getElem (by simp [arrB]) fun k h1 h2 => ?_
 by_cases hk : k = i
 ·
  subst hk; simp [arrB, hx]
 ·
  rw [List.getElem_set_ne (Ne.symm hk)]; simp [arrB, hG k hk]
def setB (i : Nat) (c : Nat) : Bool := (List.range i).any fun j => strB lett j == (c : Int)
theorem setB_succ {i c : Nat} (h : strB lett i ≠ c) : setB (i + 1) c = setB i c := by
 unfold setB
 rw [List.range_succ, List.any_append]
 simp [h]
theorem setB_same {i c : Nat} (h : strB lett i = c) : setB (i + 1) c = true := by
 unfold setB
 rw [List.range_succ, List.any_append]
 simp [h]
theorem lett_lt : ∀ i : Nat, i < 36 → 0 ≤ strB lett i ∧ strB lett i < 128 := by decide +kernel
set_option maxRecDepth 100000 in
theorem mkSet_ac : AC Tryz.prog 189 [.c (.string lett)] (.tup [.agg (arrB (setB 36)), .b true]) [] := by
 refine acI hTT hMX Tryz.func189 Tryz.ntmps189 fun C hC hF => ?_
 refine aw_seq_k fun K hK => wR 2 ?_
 refine aops_n hTT (M := []) (n := 2) [pn 2 (V.ref 100002 0) (100002 : Nat) (Ob.box 302 (List.replicate 256 (V.b false))), pv 3 (V.b false)] kR kR tI ?_
 refine aops_nil (xt_n (hK _ ?_)); clear hK K; refine aw_seq_k fun K hK => ?_; refine aw_seq_k fun K hK => wR 3 ?_
 refine aops_n hTT (M := []) (n := 1) [pv 4 (V.i 0)] kR kR tI ?_
 refine aops_nil (xt_n (hK _ ?_)); clear hK K
 refine aw_block ?_
 refine w_loop (ι := Nat × List V) (fun x => [(0, .c (.string lett)), (2, .ref 2 0), (4, .i x.1)]) (fun x => [(2, .box 302 x.2)]) (fun x => x.1 ≤ 36 ∧ x.2 = arrB (setB x.1)) (fun x => 36 - x.1) (0, arrB (setB 0)) ⟨by simp, rfl⟩ ?_ ?_
 ·
  show Le _ ⟨mkT [(0, .c (.string lett)), (2, .ref 2 0), (4, .i 0)], mkS [(2, .box 302 (arrB fun _ => false))], 1⟩
  refine le_ren (sl := [(2, Ob.box 302 (List.replicate 256 (V.b false)))]) [(2, 100002)] (.cons kR (.cons kR (.cons kR .nil))) (.cons ⟨Ob.box 302 (List.replicate 256 (V.b false)), kR, .box kR⟩ .nil) kR kR
 rintro ⟨k, cs⟩ ⟨hk, hcs⟩
 simp only at hk hcs ⊢
 have hlen : cs.length = 256 := by rw [hcs, arrB_len]
 have hs36 : lett.size = 36 := rfl
 refine aw_seq_k fun K hK => ?_; refine aw_seq_k fun K hK => wR 2 ?_
 refine aops_n hTT (M := []) (n := 4) [pv 6 (V.i (↑k : Int)), pv 7 (V.c (Value.string lett)), pv 8 (V.i 36), pv 9 (V.b (decide ((↑k : Int) < (36 : Int))))] kR kR tI ?_
 refine aops_nil (xt_n (hK _ ?_)); clear hK K
 refine w_cond (t := decide ((↑k : Int) < (36 : Int))) kR (fun c2 => ?_) (fun c2 => ?_)
 ·
  simp at c2
  have hb := lett_lt k oM
  obtain ⟨x, hx⟩ : ∃ x : Nat, strB lett k = x := ⟨(strB lett k).toNat, by omega⟩
  refine aw_skip ?_
  refine xt_n (hK _ ?_); clear hK K; refine aw_seq_k fun K hK => ?_
  refine aw_block ?_
  refine aw_seq_k fun K hK => wR 3 ?_
  refine aops_n hTT (M := []) (n := 4) [pv 12 (V.c (Value.string lett)), pv 13 (V.i (↑k : Int)), pc 14 ((0 : Int) ≤ (↑k : Int) ∧ (↑k : Int) < (↑(ByteArray.size lett) : Int)) (V.c (Value.int IntKind.u8 (strB lett k))), pv 5 (V.c (Value.int IntKind.u8 (strB lett k)))] kR kR ⟨oM, tI⟩ ?_
  refine aops_nil (xt_n (hK _ ?_)); clear hK K; refine aw_seq_k fun K hK => ?_; refine aw_seq_k fun K hK => wR 4 ?_
  refine aops_n hTT (M := []) (n := 2) [pv 15 (V.c (Value.int IntKind.u8 (strB lett k))), pv 16 (V.b (decide ((128 : Int) ≤ strB lett k)))] kR kR tI ?_
  refine aops_nil (xt_n (hK _ ?_)); clear hK K
  refine w_cond (t := decide ((128 : Int) ≤ strB lett k)) kR (fun c3 => ?_) (fun c3 => ?_)
  ·
   simp at c3
   omega
  rw [hx]
  have hset : cs.set x (V.b true) = arrB (setB (k + 1)) := by
   rw [hcs]
   exact arrB_set oM (setB_same hx) fun j hj => setB_succ oM
  refine aw_skip ?_
  refine xt_n (hK _ ?_); clear hK K; refine wR 5 ?_
  refine aops_n hTT (M := []) (n := 3) [pv 18 (V.c (Value.int IntKind.u8 (↑x : Int))), pc 19 ((0 : Int) ≤ (↑x : Int) ∧ (↑x : Int) < (↑(256 : Nat) : Int)) (V.ref 2 ((0 : Nat) + x * (1 : Nat))), pw ((0 : Nat) + x * (1 : Nat) + (1 : Nat) ≤ List.length cs) (2 : Nat) (Ob.box 302 (setCells cs ((0 : Nat) + x * (1 : Nat)) [V.c (Value.bool true)]))] kR kR ⟨oM, oM, tI⟩ ?_
  refine aops_nil ?_; refine xb_n ?_; refine xt_n (hK _ ?_); clear hK K; refine wR 6 ?_
  refine aops_n hTT (M := []) (n := 3) [pv 10 (V.i (↑k : Int)), pc 11 ((-9223372036854775808 : Int) ≤ (↑k : Int) + (1 : Int) ∧ (↑k : Int) + (1 : Int) ≤ (9223372036854775807 : Int)) (V.i ((↑k : Int) + (1 : Int))), pv 4 (V.i ((↑k : Int) + (1 : Int)))] kR kR ⟨oM, tI⟩ ?_
  refine aops_nil ?_; refine xt_n ?_
  refine ⟨(k + 1, cs.set x (V.b true)), ⟨by simp only; omega, hset⟩, ?_, by simp only; omega⟩
  show Le _ ⟨mkT [(0, .c (.string lett)), (2, .ref 2 0), (4, .i ((k + 1 : Nat) : Int))], mkS [(2, .box 302 (cs.set x (V.b true)))], 1⟩
  refine le_ren (tl := [(0, V.c (Value.string lett)), (2, V.ref 2 0), (4, V.i (↑(k + (1 : Nat)) : Int))]) (sl := [(2, Ob.box 302 (List.set cs x (V.b true)))]) [(2, 2)] (.cons kR (.cons kR (.cons kR .nil))) (.cons ⟨Ob.box 302 (setCells cs ((0 : Nat) + x * (1 : Nat)) [V.c (Value.bool true)]), kR, .box ?_⟩ .nil) kR kR
  rw [hset, arrB_ren, ← hset, Nat.zero_add, Nat.mul_one]
  rfl
 ·
  simp at c2
  obtain rfl : k = 36 := by omega
  rw [hcs]
  refine aw_exit ?_
  refine xt_x ?_; refine xt_x ?_
  refine xb_same ?_
  refine xt_n ?_; clear hK K; refine hK _ ?_; clear hK K; refine aw_seq_k fun K hK => wR 3 ?_
  refine aops_n hTT (M := []) (n := 3) [pc 20 ((0 : Nat) ≤ (256 : Nat)) (V.agg (arrB (setB 36))), pw ((0 : Nat) + (256 : Nat) ≤ (256 : Nat)) (2 : Nat) (Ob.box 302 (arrB (setB 36))), pv 3 (V.b true)] kR kR ⟨oM, oM, tI⟩ ?_
  refine aops_nil (xt_n (hK _ ?_)); clear hK K
  refine aw_ret ?_
  refine rP (V.tup [V.agg (arrB (setB 36)), V.b true])
set_option maxRecDepth 100000 in
theorem cont_ac : AC Tryz.prog 199 [.ptr (arrB (setB 36)), .c (.int .u8 97)] (.b true) [] := by
 refine acI hTT hMX Tryz.func199 Tryz.ntmps199 fun C hC hF => ?_
 refine aw_seq_k fun K hK => wR 2 ?_; refine aX hTT 1 [] tI ?_; refine aops_nil (xt_n (hK _ ?_)); clear hK K; refine aw_seq_k fun K hK => wR 3 ?_; refine aX hTT 6 [(3, .c ((0 : Int) ≤ (97 : Int) ∧ (97 : Int) < (↑(256 : Nat) : Int)))] ⟨oM, tI⟩ ?_; refine aops_nil (xt_n (hK _ ?_)); clear hK K
 refine aw_ret ?_
 refine rP (V.b (setB (36 : Nat) 97))
set_option maxRecDepth 100000 in
theorem trimR_ac : AC Tryz.prog 191 [.c (.string nA), .ptr (arrB (setB 36))] (.c (.string ⟨#[]⟩)) [] := by
 refine acI hTT hMX Tryz.func191 Tryz.ntmps191 fun C hC hF => ?_
 refine aw_seq_k fun K hK => wR 2 ?_; refine aX hTT 1 [] tI ?_; refine aops_nil (xt_n (hK _ ?_)); clear hK K; refine aw_seq_k fun K hK => ?_
 refine aw_block ?_
 refine aw_rounds 3 ?_
 refine awr_succ (m := 2) fun K hK => ?_
 refine aw_seq_k fun K hK => ?_; refine aw_seq_k fun K hK => wR 3 ?_; refine aX hTT 3 [] tI ?_; refine aops_nil (xt_n (hK _ ?_)); clear hK K; refine w_true (t := true) kR rfl ?_
 refine aw_skip ?_
 refine xt_n (hK _ ?_); clear hK K
 refine aw_block ?_
 refine aw_seq_k fun K hK => ?_; refine aw_seq_k fun K hK => wR 4 ?_; refine aX hTT 6 [(4, .i ((1 : Int) - (1 : Int))), (5, .c ((0 : Int) ≤ (0 : Int) ∧ (0 : Int) < (↑(ByteArray.size nA) : Int)))] ⟨oM, ⟨oM, (by decide +kernel)⟩, tI⟩ ?_
 refine eC (cont_ac) ?_
 refine aX hTT 1 [] tI ?_; refine aops_nil (xt_n (hK _ ?_)); clear hK K; refine w_false (t := false) kR rfl ?_
 refine aw_skip ?_
 refine xt_n (hK _ ?_); clear hK K; refine wR 5 ?_; refine aX hTT 6 [(3, .i ((1 : Int) - (1 : Int))), (4, .c ((0 : Int) ≤ (0 : Int) ∧ (0 : Int) ≤ (0 : Int) ∧ (0 : Int) ≤ (↑(ByteArray.size nA) : Int)))] ⟨oM, ⟨oM, oM⟩, tI⟩ ?_; refine aops_nil ?_; refine xb_n ?_; refine xt_n (hK _ ?_); clear hK K
 refine awr_succ (m := 1) fun K hK => ?_
 refine aw_seq_k fun K hK => ?_; refine aw_seq_k fun K hK => wR 6 ?_; refine aX hTT 3 [] tI ?_; refine aops_nil (xt_n (hK _ ?_)); clear hK K; refine w_false (t := false) kR rfl ?_
 refine aw_exit ?_
 refine xt_x ?_; refine xt_x ?_
 refine xb_same ?_
 refine xt_n ?_; clear hK K; clear hK K; refine hK _ ?_; clear hK K; refine aw_seq_k fun K hK => wR 7 ?_; refine aX hTT 2 [] tI ?_; refine aops_nil (xt_n (hK _ ?_)); clear hK K
 refine aw_ret ?_
 refine rP (V.c (Value.string (ByteArray.extract nA (0 : Nat) (0 : Nat))))
set_option maxRecDepth 100000 in
theorem trimL_ac : AC Tryz.prog 190 [.c (.string ⟨#[]⟩), .ptr (arrB (setB 36))] (.c (.string ⟨#[]⟩)) [] := by
 refine acI hTT hMX Tryz.func190 Tryz.ntmps190 fun C hC hF => ?_
 refine aw_seq_k fun K hK => wR 2 ?_; refine aX hTT 1 [] tI ?_; refine aops_nil (xt_n (hK _ ?_)); clear hK K; refine aw_seq_k fun K hK => ?_
 refine aw_block ?_
 refine aw_rounds 3 ?_
 refine awr_succ (m := 2) fun K hK => ?_
 refine aw_seq_k fun K hK => ?_; refine aw_seq_k fun K hK => wR 3 ?_; refine aX hTT 3 [] tI ?_; refine aops_nil (xt_n (hK _ ?_)); clear hK K; refine w_false (t := false) kR rfl ?_
 refine aw_exit ?_
 refine xt_x ?_; refine xt_x ?_
 refine xb_same ?_
 refine xt_n ?_; clear hK K; clear hK K; refine hK _ ?_; clear hK K; refine aw_seq_k fun K hK => wR 4 ?_; refine aX hTT 2 [] tI ?_; refine aops_nil (xt_n (hK _ ?_)); clear hK K
 refine aw_ret ?_
 refine rP (V.c (Value.string (ByteArray.mk #[])))
set_option maxRecDepth 100000 in
theorem Trim_ac : AC Tryz.prog 179 [.c (.string nA), .c (.string lett)] (.c (.string ⟨#[]⟩)) [] := by
 refine acI hTT hMX Tryz.func179 Tryz.ntmps179 fun C hC hF => ?_
 refine aw_seq_k fun K hK => wR 2 ?_; refine aX hTT 1 [] tI ?_; refine aops_nil (xt_n (hK _ ?_)); clear hK K; refine aw_seq_k fun K hK => ?_; refine aw_seq_k fun K hK => wR 3 ?_; refine aX hTT 6 [(3, .c (gA (false == false) True)), (4, .c (gD (false == false) True)), (5, .c (True ∧ (false = false → (false == false) = true)))] ⟨⟨⟨tI, tI⟩, (fun _ => tI)⟩, ⟨⟨(by (exact fun h => h)), ⟨tI, tI⟩⟩, (fun _ => tI)⟩, ⟨tI, (by (intro h; rw [h]; rfl))⟩, tI⟩ ?_; refine aops_nil (xt_n (hK _ ?_)); clear hK K; refine w_false (t := false) kR rfl ?_
 refine aw_skip ?_
 refine xt_n (hK _ ?_); clear hK K; refine aw_seq_k fun K hK => ?_; refine aw_seq_k fun K hK => wR 4 ?_; refine aX hTT 8 [(4, .c (gA (false == true) True)), (5, .c (gD (false == true) ((0 : Int) ≤ (0 : Int) ∧ (0 : Int) < (↑(ByteArray.size lett) : Int)))), (6, .c (gD (false == true) True)), (7, .c ((false = true → (false == true) = true) ∧ True))] ⟨⟨⟨tI, tI⟩, (fun _ => tI)⟩, ⟨⟨(by (exact fun h => h)), ⟨tI, tI⟩⟩, (by (intro h; simp at h; done))⟩, ⟨⟨(by (exact fun h => h)), ⟨tI, tI⟩⟩, (fun _ => tI)⟩, ⟨(by (exact fun h => h)), tI⟩, tI⟩ ?_; refine aops_nil (xt_n (hK _ ?_)); clear hK K; refine w_false (t := false) kR rfl ?_
 refine aw_skip ?_
 refine xt_n (hK _ ?_); clear hK K; refine aw_seq_k fun K hK => ?_; refine aw_seq_k fun K hK => wR 5 ?_; refine aX hTT 1 [] tI ?_
 refine eC (mkSet_ac) ?_
 refine aX hTT 6 [(3, .r (pn 5 (V.ref 400005 0) (400005 : Nat) (Ob.box 302 (List.replicate 256 (V.b false))))), (4, .r (pw ((0 : Nat) + (256 : Nat) ≤ (256 : Nat)) (400005 : Nat) (Ob.box 302 (arrB (setB 36)))))] ⟨oM, tI⟩ ?_; refine aops_nil (xt_n (hK _ ?_)); clear hK K; refine aw_seq_k fun K hK => wR 6 ?_; refine aX hTT 1 [] tI ?_; refine aops_nil (xt_n (hK _ ?_)); clear hK K; refine w_true (t := true) kR rfl ?_; refine aw_seq_k fun K hK => ?_
 refine w_le (le_freezeBox (t := (302 : Nat)) (cs := (arrB (setB 36))) 400005 kR kR) ?_
 refine wR 7 ?_; refine aX hTT 1 [] tI ?_
 refine eC (trimR_ac) ?_
 skip
 refine eC (trimL_ac) ?_
 refine aX hTT 1 [] tI ?_; refine aops_nil (xt_n (hK _ ?_)); clear hK K
 refine aw_ret ?_
 refine xt_r ?_
 refine rP (V.c (Value.string (ByteArray.mk #[])))
set_option maxRecDepth 100000 in
theorem tIsName_ac : AC Tryz.prog 166 [.c (.string nA)] (.b true) [] := by
 refine acI hTT hMX Tryz.func166 Tryz.ntmps166 fun C hC hF => ?_
 refine aw_seq_k fun K hK => wR 2 ?_; refine aX hTT 1 [] tI ?_; refine aops_nil (xt_n (hK _ ?_)); clear hK K; refine aw_seq_k fun K hK => wR 3 ?_; refine aX hTT 9 [(3, .c (gA (true == true) True)), (4, .c (gB (true == true) True)), (5, .c (gD (true == true) True)), (6, .c ((true = true → (true == true) = true) ∧ True)), (8, .c (gA (true == true) True))] ⟨⟨⟨tI, tI⟩, (fun _ => tI)⟩, ⟨⟨(by (exact fun h => h)), tI⟩, (fun _ => tI)⟩, ⟨⟨(by (exact fun h => h)), ⟨tI, tI⟩⟩, (fun _ => tI)⟩, ⟨(by (exact fun h => h)), tI⟩, ⟨⟨tI, tI⟩, (fun _ => tI)⟩, tI⟩ ?_
 refine eG 1 (g := true == true) (fun _ => Trim_ac) ?_
 refine aX hTT 3 [(0, .c (gD (true == true) True)), (1, .c ((true = true → (true == true) = true) ∧ True))] ⟨⟨⟨(by (exact fun h => h)), ⟨tI, tI⟩⟩, (fun _ => tI)⟩, ⟨(by (exact fun h => h)), tI⟩, tI⟩ ?_; refine aops_nil (xt_n (hK _ ?_)); clear hK K
 refine aw_ret ?_
 refine rP (V.b true)
def datV : V := .sl 2 2 fun i => List.take 2 (List.drop (i * 2) [.i 10, .i (-10), .i 5, .i 0])
abbrev zzT20 : V := V.sl 2 2 fun (i : Nat) => List.take (2 : Nat) (List.drop (i * (2 : Nat)) [V.i 10, V.i (-10), V.i 5, V.i 0])
set_option maxRecDepth 100000 in
theorem checkTake_ac : AC Tryz.prog 138 [.agg [.c (.string nA), datV]] (.i 0) [] := by
 refine acI hTT hMX Tryz.func138 Tryz.ntmps138 fun C hC hF => ?_
 refine aw_seq_k fun K hK => wR 2 ?_; refine aX hTT 2 [] tI ?_; refine aops_nil (xt_n (hK _ ?_)); clear hK K; refine aw_seq_k fun K hK => wR 3 ?_; refine aX hTT 2 [] tI ?_
 refine eC (AC.conv (tCheckSamples_ac [(10, -10), (5, 0)] (by decide)) (args' := [zzT20]) ⟨?_, trivial⟩) ?_
 ·
  exact RImp.rows rfl fun i hi => by
   have hi : i < 2 := hi
   rcases (by omega : i = 0 ∨ i = 1) with rfl | rfl <;> rfl
 refine aX hTT 1 [] tI ?_; refine aops_nil (xt_n (hK _ ?_)); clear hK K; refine aw_seq_k fun K hK => ?_; refine aw_seq_k fun K hK => wR 4 ?_; refine aX hTT 5 [(3, .c (gA (true == true) True)), (4, .c (gB (true == true) True))] ⟨⟨⟨tI, tI⟩, (fun _ => tI)⟩, ⟨⟨(by (exact fun h => h)), tI⟩, (fun _ => tI)⟩, tI⟩ ?_
 refine eG 1 (g := true == true) (fun h => tIsName_ac) ?_
 refine aX hTT 8 [(0, .c (gB (true == true) True)), (1, .c (gB (true == true) True)), (2, .c (gA (true == true && false == false) True)), (3, .c (gB (true == true && false == false) True)), (4, .c (gB (true == true && false == false) True)), (5, .c (gD (true == true && false == false) True)), (6, .c (((true == true) = true → (true == true) = true) ∧ ((true == true) = true → True) ∧ ((true == true) = true → false = false → (true == true && false == false) = true))), (7, .c ((true = true → (true == true) = true) ∧ True))] ⟨⟨⟨(by (exact fun h => h)), tI⟩, (fun _ => tI)⟩, ⟨⟨(by (exact fun h => h)), tI⟩, (fun _ => tI)⟩, ⟨⟨tI, tI⟩, (fun _ => tI)⟩, ⟨⟨(by (exact fun h => h)), tI⟩, (fun _ => tI)⟩, ⟨⟨(by (exact fun h => h)), tI⟩, (fun _ => tI)⟩, ⟨⟨(by (exact fun h => h)), ⟨tI, tI⟩⟩, (fun _ => tI)⟩, ⟨(by (exact fun h => h)), ⟨(fun _ => tI), (by (intro _; simp; done))⟩⟩, ⟨(by (exact fun h => h)), tI⟩, tI⟩ ?_; refine aops_nil (xt_n (hK _ ?_)); clear hK K; refine w_false (t := false) kR rfl ?_
 refine aw_skip ?_
 refine xt_n (hK _ ?_); clear hK K; refine aw_seq_k fun K hK => wR 5 ?_; refine aX hTT 2 [] tI ?_; refine aops_nil (xt_n (hK _ ?_)); clear hK K
 refine aw_ret ?_
 refine rP (V.i (sChk [((10 : Int), (-10 : Int)), ((5 : Int), (0 : Int))]))
def tksV : V := .sl 2 1 fun _ => [.c (.string nA), datV]
set_option maxRecDepth 100000 in
theorem CheckTakes_ac : AC Tryz.prog 100 [tksV] (.i 0) [] := by
 refine acI hTT hMX Tryz.func100 Tryz.ntmps100 fun C hC hF => ?_
 refine aw_seq_k fun K hK => wR 2 ?_; refine aX hTT 1 [] tI ?_; refine aops_nil (xt_n (hK _ ?_)); clear hK K; refine aw_seq_k fun K hK => ?_; refine aw_seq_k fun K hK => wR 3 ?_; refine aX hTT 8 [(4, .c (gA (false == false) True)), (5, .c (gB (false == false) True)), (6, .c (gD (false == false) True)), (7, .c (True ∧ (false = false → (false == false) = true)))] ⟨⟨⟨tI, tI⟩, (fun _ => tI)⟩, ⟨⟨(by (exact fun h => h)), tI⟩, (fun _ => tI)⟩, ⟨⟨(by (exact fun h => h)), ⟨tI, tI⟩⟩, (fun _ => tI)⟩, ⟨tI, (by (intro h; rw [h]; rfl))⟩, tI⟩ ?_; refine aops_nil (xt_n (hK _ ?_)); clear hK K; refine w_false (t := false) kR rfl ?_
 refine aw_skip ?_
 refine xt_n (hK _ ?_); clear hK K; refine aw_seq_k fun K hK => wR 4 ?_; refine aX hTT 1 [] tI ?_; refine aops_nil (xt_n (hK _ ?_)); clear hK K; refine aw_seq_k fun K hK => wR 5 ?_; refine aX hTT 2 [(0, .r (pn 16 (V.own 400016) (400016 : Nat) (Ob.mp (true, (0 : Nat)) (MF.mk [] fun (x : MK) => none))))] tI ?_; refine aops_nil (xt_n (hK _ ?_)); clear hK K; refine aw_seq_k fun K hK => ?_; refine aw_seq_k fun K hK => wR 6 ?_; refine aX hTT 3 [] tI ?_; refine aops_nil (xt_n (hK _ ?_)); clear hK K
 refine aw_block ?_
 refine aw_rounds 3 ?_
 refine awr_succ (m := 2) fun K hK => ?_
 refine aw_seq_k fun K hK => wR 7 ?_; refine aX hTT 1 [] tI ?_; refine aops_nil (xt_n (hK _ ?_)); clear hK K; refine aw_seq_k fun K hK => ?_; refine w_true (t := true) kR rfl ?_
 refine aw_skip ?_
 refine xt_n (hK _ ?_); clear hK K; refine aw_seq_k fun K hK => ?_
 refine aw_block ?_
 refine aw_seq_k fun K hK => wR 8 ?_; refine aX hTT 4 [(0, .c ((0 : Int) ≤ (0 : Int) ∧ (0 : Int) < (↑(1 : Nat) : Int))), (2, .r (pn 6 (V.ref 700006 0) (700006 : Nat) (Ob.box 195 [V.c (Value.string (ByteArray.mk #[])), V.nil]))), (3, .r (pw ((0 : Nat) + (2 : Nat) ≤ (2 : Nat)) (700006 : Nat) (Ob.box 195 [V.c (Value.string nA), zzT20])))] ⟨oM, oM, tI⟩ ?_; refine aops_nil (xt_n (hK _ ?_)); clear hK K; refine aw_seq_k fun K hK => ?_; refine aw_seq_k fun K hK => wR 9 ?_; refine aX hTT 1 [(0, .c ((0 : Nat) ≤ (2 : Nat)))] ⟨oM, tI⟩ ?_
 refine eC (checkTake_ac) ?_
 refine aX hTT 1 [] tI ?_; refine aops_nil (xt_n (hK _ ?_)); clear hK K
 refine aw_block ?_
 refine aw_seq_k fun K hK => wR 10 ?_; refine aX hTT 3 [] tI ?_; refine aops_nil (xt_n (hK _ ?_)); clear hK K; refine w_false (t := false) kR rfl ?_; refine aw_seq_k fun K hK => wR 11 ?_; refine aX hTT 3 [] tI ?_; refine aops_nil (xt_n (hK _ ?_)); clear hK K; refine w_false (t := false) kR rfl ?_
 refine aw_skip ?_
 refine xb_n ?_; refine xt_n (hK _ ?_); clear hK K; refine wR 12 ?_; refine aX hTT 6 [(2, .c ((0 : Nat) ≤ (2 : Nat))), (3, .c (mget (MF.mk [] fun (x : MK) => none) (MK.s nA) (V.c (Value.int IntKind.i64 0)) = V.c (Value.int IntKind.i64 (mgetI (MF.mk [] fun (x : MK) => none) (MK.s nA))))), (4, .i ((0 : Int) + (1 : Int))), (5, .r (PR.mk none none V.any [((400016 : Nat), some (Ob.mp (true, (1 : Nat)) (MF.mk [(MK.s nA, V.i 1)] (MF.rest (MF.mk [] fun (x : MK) => none)))))] false))] ⟨oM, ?_, oM, tI⟩ ?_
 ·
  rfl
 refine aops_nil ?_; refine xb_n ?_; refine xt_n (hK _ ?_); clear hK K; refine wR 13 ?_; refine aX hTT 2 [(0, .i ((0 : Int) + (1 : Int)))] ⟨oM, tI⟩ ?_; refine aops_nil (xt_n (hK _ ?_)); clear hK K
 refine awr_succ (m := 1) fun K hK => ?_
 refine aw_seq_k fun K hK => wR 14 ?_; refine aX hTT 1 [] tI ?_; refine aops_nil (xt_n (hK _ ?_)); clear hK K; refine aw_seq_k fun K hK => ?_; refine w_false (t := false) kR rfl ?_
 refine aw_exit ?_
 refine xt_x ?_; refine xt_x ?_
 refine xb_same ?_
 refine xt_n ?_; clear hK K; clear hK K; refine hK _ ?_; clear hK K; refine aw_seq_k fun K hK => ?_; refine aw_seq_k fun K hK => wR 15 ?_; refine aX hTT 9 [(3, .c (gA (true == true) True)), (4, .c (gB (true == true) True)), (5, .c (gA (true == true) True)), (6, .c (gB (true == true) True)), (7, .c (gC (true == true) True)), (8, .c ((true = true → (true == true) = true) ∧ True))] ⟨⟨⟨tI, tI⟩, (fun _ => tI)⟩, ⟨⟨(by (exact fun h => h)), tI⟩, (fun _ => tI)⟩, ⟨⟨tI, tI⟩, (fun _ => tI)⟩, ⟨⟨(by (exact fun h => h)), tI⟩, (fun _ => tI)⟩, ⟨⟨(by (exact fun h => h)), ⟨(by (exact fun h => h)), tI⟩⟩, (fun _ => tI)⟩, ⟨(by (exact fun h => h)), tI⟩, tI⟩ ?_; refine aops_nil (xt_n (hK _ ?_)); clear hK K; refine w_false (t := false) kR rfl ?_
 refine aw_skip ?_
 refine xt_n (hK _ ?_); clear hK K; refine aw_seq_k fun K hK => wR 16 ?_; refine aX hTT 2 [] tI ?_; refine aops_nil (xt_n (hK _ ?_)); clear hK K
 refine aw_ret ?_
 refine rP (V.i 0)
def ptC : List V := [.i 0, .i 0, .i 2, .i 0, .i 0, .i 0, .i 500]
def ptsV : V := .sl 7 1 fun _ => ptC
abbrev yyT20 := (betB (0 : Int) (-4096 : Int) (4096 : Int) && betB (0 : Int) (0 : Int) (1000 : Int) && betB (0 : Int) (0 : Int) (1000 : Int) && betB (500 : Int) (0 : Int) (4000 : Int))
abbrev yyT22 := (betB (0 : Int) (-4096 : Int) (4096 : Int) && betB (0 : Int) (0 : Int) (1000 : Int) && betB (0 : Int) (0 : Int) (1000 : Int))
abbrev yyT21 := (yyT22 == true)
abbrev yyT24 := (betB (0 : Int) (-4096 : Int) (4096 : Int) && betB (0 : Int) (0 : Int) (1000 : Int))
abbrev yyT23 := (yyT24 == true)
set_option maxRecDepth 100000 in
theorem good_ac : AM Tryz.prog 101 [.ref 500 0, .agg ptC] [.box 122 [tksV, .nil, .i 0]] (.b true) [some (.box 122 [tksV, .nil, .i 0])] [] := by
 refine am_intro hTT hMX (fn := Tryz.f101) (N := _) ⟨Tryz.func101, rfl, Tryz.ntmps101, kR⟩ (by simp) rfl (by simp) (by simp) fun C hF => ?_
 refine aw_seq_k fun K hK => wR 2 ?_; refine aX hTT 2 [] tI ?_; refine aops_nil (xt_n (hK _ ?_)); clear hK K; refine aw_seq_k fun K hK => ?_; refine aw_seq_k fun K hK => wD 3 ?_; refine aX hTT 40 ((4, .c (gA (false == false) True)) :: (5, .c (gB (false == false) True)) :: (6, .c (gA (false == false) True)) :: (7, .c (gB (false == false) True)) :: (8, .c (gB (false == false) True)) :: (9, .c (gB (false == false) ((0 : Nat) ≤ (3 : Nat)))) :: (10, .c (gB (false == false) True)) :: (11, .c (gC (false == false) True)) :: (12, .c (True ∧ (false = false → (false == false) = true))) :: (14, .c (gA (false == false) True)) :: (15, .c (gB (false == false) True)) :: (16, .c (gD (false == false) True)) :: (17, .c (True ∧ (false = false → (false == false) = true))) :: (19, .c (gA (false == false) True)) :: (20, .c (gB (false == false) True)) :: (21, .c (gA (false == false) True)) :: (22, .c (gB (false == false) True)) :: (23, .c (gC (false == false) True)) :: (24, .c (True ∧ (false = false → (false == false) = true))) :: (26, .c (gA (false == false) True)) :: (27, .c (gB (false == false) True)) :: (28, .c (gA (false == false) True)) :: (29, .c (gB (false == false) True)) :: (30, .c (gB (false == false) True)) :: (31, .c (gB (false == false) ((0 : Nat) ≤ (3 : Nat)))) :: (32, .c (gA (false == false) True)) :: (33, .c (gB (false == false) True)) :: (34, .c (gC (false == false) ((0 : Int) ≤ (0 : Int) ∧ (0 : Int) < (↑(1 : Nat) : Int)))) :: (35, .c (gB (false == false) True)) :: (36, .c (gB (false == false) True)) :: (37, .c (gB (false == false) True)) :: (38, .c (gC (false == false) True)) :: (39, .c (True ∧ (false = false → (false == false) = true))) :: []) ⟨⟨⟨tI, tI⟩, (fun _ => tI)⟩, ⟨⟨(by (exact fun h => h)), tI⟩, (fun _ => tI)⟩, ⟨⟨tI, tI⟩, (fun _ => tI)⟩, ⟨⟨(by (exact fun h => h)), tI⟩, (fun _ => tI)⟩, ⟨⟨(by (exact fun h => h)), tI⟩, (fun _ => tI)⟩, ⟨⟨(by (exact fun h => h)), tI⟩, (by (intro _; simp; done))⟩, ⟨⟨(by (exact fun h => h)), tI⟩, (fun _ => tI)⟩, ⟨⟨(by (exact fun h => h)), ⟨(by (exact fun h => h)), tI⟩⟩, (fun _ => tI)⟩, ⟨tI, (by (intro h; rw [h]; rfl))⟩, ⟨⟨tI, tI⟩, (fun _ => tI)⟩, ⟨⟨(by (exact fun h => h)), tI⟩, (fun _ => tI)⟩, ⟨⟨(by (exact fun h => h)), ⟨tI, tI⟩⟩, (fun _ => tI)⟩, ⟨tI, (by (intro h; rw [h]; rfl))⟩, ⟨⟨tI, tI⟩, (fun _ => tI)⟩, ⟨⟨(by (exact fun h => h)), tI⟩, (fun _ => tI)⟩, ⟨⟨tI, tI⟩, (fun _ => tI)⟩, ⟨⟨(by (exact fun h => h)), tI⟩, (fun _ => tI)⟩, ⟨⟨(by (exact fun h => h)), ⟨(by (exact fun h => h)), tI⟩⟩, (fun _ => tI)⟩, ⟨tI, (by (intro h; rw [h]; rfl))⟩, ⟨⟨tI, tI⟩, (fun _ => tI)⟩, ⟨⟨(by (exact fun h => h)), tI⟩, (fun _ => tI)⟩, ⟨⟨tI, tI⟩, (fun _ => tI)⟩, ⟨⟨(by (exact fun h => h)), tI⟩, (fun _ => tI)⟩, ⟨⟨(by (exact fun h => h)), tI⟩, (fun _ => tI)⟩, ⟨⟨(by (exact fun h => h)), tI⟩, (by (intro _; simp; done))⟩, ⟨⟨tI, tI⟩, (fun _ => tI)⟩, ⟨⟨(by (exact fun h => h)), tI⟩, (fun _ => tI)⟩, ⟨⟨(by (exact fun h => h)), ⟨(by (exact fun h => h)), tI⟩⟩, (by (intro _; simp; done))⟩, ⟨⟨(by (exact fun h => h)), tI⟩, (fun _ => tI)⟩, ⟨⟨(by (exact fun h => h)), tI⟩, (fun _ => tI)⟩, ⟨⟨(by (exact fun h => h)), tI⟩, (fun _ => tI)⟩, ⟨⟨(by (exact fun h => h)), ⟨(by (exact fun h => h)), tI⟩⟩, (fun _ => tI)⟩, ⟨tI, (by (intro h; rw [h]; rfl))⟩, tI⟩ ?_; refine aops_nil ⟨kR, ?_⟩; refine xt_n (hK _ ?_); clear hK K; refine w_false (t := false) kR rfl ?_
 refine aw_skip ?_
 refine xt_n (hK _ ?_); clear hK K; refine aw_seq_k fun K hK => wR 4 ?_; refine aX hTT 2 [] tI ?_
 refine eC (tBetween_ac 0 (-4096) 4096) ?_
 refine aX hTT 3 [(1, .c (gA (betB (0 : Int) (-4096 : Int) (4096 : Int) == true) True)), (2, .c (gB (betB (0 : Int) (-4096 : Int) (4096 : Int) == true) True))] ⟨⟨⟨tI, tI⟩, (fun _ => tI)⟩, ⟨⟨(by (exact fun h => h)), tI⟩, (fun _ => tI)⟩, tI⟩ ?_
 refine eG 1 (g := betB (0 : Int) (-4096 : Int) (4096 : Int) == true) (fun h => tBetween_ac 0 0 1000) ?_
 refine aX hTT 4 [(0, .c ((betB (0 : Int) (-4096 : Int) (4096 : Int) = true → (betB (0 : Int) (-4096 : Int) (4096 : Int) == true) = true) ∧ True)), (2, .c (gA yyT23 True)), (3, .c (gB yyT23 True))] ⟨⟨(by (exact fun h => h)), tI⟩, ⟨⟨tI, tI⟩, (fun _ => tI)⟩, ⟨⟨(by (exact fun h => h)), tI⟩, (fun _ => tI)⟩, tI⟩ ?_
 refine eG 1 (g := yyT24 == true) (fun h => tBetween_ac 0 0 1000) ?_
 refine aX hTT 4 [(0, .c ((yyT24 = true → yyT23 = true) ∧ True)), (2, .c (gA yyT21 True)), (3, .c (gB yyT21 True))] ⟨⟨(by (exact fun h => h)), tI⟩, ⟨⟨tI, tI⟩, (fun _ => tI)⟩, ⟨⟨(by (exact fun h => h)), tI⟩, (fun _ => tI)⟩, tI⟩ ?_
 refine eG 1 (g := yyT22 == true) (fun h => tBetween_ac 500 0 4000) ?_
 refine aX hTT 2 [(0, .c ((yyT22 = true → yyT21 = true) ∧ True))] ⟨⟨(by (exact fun h => h)), tI⟩, tI⟩ ?_; refine aops_nil (xt_n (hK _ ?_)); clear hK K
 refine aw_ret ?_
 refine retM (v' := V.b yyT20) [] [(4, V.b yyT20)] (.inr rfl) (.cons kR .nil) (.cons ⟨Ob.box 122 [V.sl 2 1 fun (x : Nat) => [V.c (Value.string nA), datV], V.nil, V.i 0], kR, .box kR⟩ .nil) kR kR kR kR kR kR kR
end Go.Proofs.YtplnhbenmgclfaaGreatDoor

namespace Go.Proofs.YtplnhbenmgclfaaGreatDoor
open Go.Ab Go.RowKit Go.Dw Go.Shelf
def plR : Nat → List V := fun _ => ptC ++ [.i 0, .i 0, .i 2]
set_option maxRecDepth 100000 in
theorem pl1 : mkS [(7, .box 122 [tksV, .own 8, .i 2]), (8, .row 126 10 1 plR)] 8 = some (.row 126 10 1 plR) := by kernel_rfl
set_option maxRecDepth 100000 in
theorem pl2 (i : Nat) : V.idfL (plR i) = true := by kernel_rfl
set_option maxRecDepth 100000 in
theorem pl3 : Le ⟨mkT [(7, .ref 7 0)], mkS [(7, .box 122 [tksV, .own 8, .i 2]), (8, .row 126 10 1 plR)], 1⟩ ⟨fun t => V.fz 8 (.sl 10 1 plR) (mkT [(7, .ref 7 0)] t), fzS (mkS [(7, .box 122 [tksV, .own 8, .i 2]), (8, .row 126 10 1 plR)]) 8 (.sl 10 1 plR), 1⟩ := le_freezeIn 8 pl1 pl2 rfl (fun _ _ => rfl)
abbrev zzT30 : V := V.sl 2 1 fun (x : Nat) => [V.c (Value.string nA), datV]
abbrev qT30 : Prop := (0 : Int) ≤ (0 : Int) ∧ (0 : Int) < (↑(1 : Nat) : Int)
theorem qT30_ : qT30 := oM
abbrev qT31 : Prop := (8 : Nat) ≤ (10 : Nat)
theorem qT31_ : qT31 := oM
abbrev qT32 : Prop := (9 : Nat) ≤ (10 : Nat)
theorem qT32_ : qT32 := oM
abbrev qT33 : Prop := (0 : Int) ≤ (0 : Int) ∧ (0 : Int) < (↑(2 : Nat) : Int)
theorem qT33_ : qT33 := oM
abbrev qT34 : Prop := (0 : Int) ≤ (1 : Int) ∧ (1 : Int) < (↑(2 : Nat) : Int)
theorem qT34_ : qT34 := oM
abbrev yyT32 : List V := [V.i 0, V.i 0, V.i 2, V.i 0, V.i 0, V.i 0, V.i 500, V.i 0, V.i 0, V.i 2]
abbrev yyT30 : Ob := Ob.row 126 10 1 fun (i : Nat) => List.take (10 : Nat) (List.drop (i * (10 : Nat)) yyT32)
abbrev yyT31 := ((false == true && false == false) = true → (false == true && false == false) = true)
abbrev yyT33 := ((false == true) = true → (false == true) = true)
set_option maxRecDepth 100000 in
theorem newP_ac : AC Tryz.prog 48 [tksV, ptsV] (.tup [.ptr [tksV, .sl 10 1 fun _ => ptC ++ [.i 0, .i 0, .i 2], .i 2], .i 0]) [] := by
 refine acI hTT hMX Tryz.func48 Tryz.ntmps48 fun C hC hF => ?_
 refine aw_seq_k fun K hK => wR 2 ?_
 refine aops_x (M := [24]) hTT 2 [] tI ?_
 refine aops_nil (xt_n (hK _ ?_)); clear hK K; refine aw_seq_k fun K hK => ?_; refine aw_seq_k fun K hK => wR 3 ?_
 refine aops_x (M := [24]) hTT 1 [] tI ?_
 refine eC (CheckTakes_ac) ?_
 refine aops_x (M := [24]) hTT 1 [] tI ?_
 refine aops_nil (xt_n (hK _ ?_)); clear hK K; refine aw_seq_k fun K hK => wR 4 ?_
 refine aops_x (M := [24]) hTT 2 [] tI ?_
 refine aops_nil (xt_n (hK _ ?_)); clear hK K; refine w_false (t := false) kR rfl ?_
 refine aw_skip ?_
 refine xt_n (hK _ ?_); clear hK K; refine aw_seq_k fun K hK => ?_; refine aw_seq_k fun K hK => wR 5 ?_
 refine aops_x (M := [24]) hTT 3 [] tI ?_
 refine aops_nil (xt_n (hK _ ?_)); clear hK K; refine w_false (t := false) kR rfl ?_
 refine aw_skip ?_
 refine xt_n (hK _ ?_); clear hK K; refine aw_seq_k fun K hK => wR 6 ?_
 refine aops_x (M := [24]) hTT 4 [(2, .r (pn 24 (V.ref 500024 0) (500024 : Nat) (Ob.box 122 [zzT30, V.nil, V.i 0])))] tI ?_
 refine aops_nil (xt_n (hK _ ?_)); clear hK K; refine aw_seq_k fun K hK => ?_; refine aw_seq_k fun K hK => wR 7 ?_
 refine aops_x (M := [24]) hTT 3 [] tI ?_
 refine aops_nil (xt_n (hK _ ?_)); clear hK K
 refine aw_block ?_
 refine aw_rounds 3 ?_
 refine awr_succ (m := 2) fun K hK => ?_
 refine aw_seq_k fun K hK => wR 8 ?_
 refine aops_x (M := [24]) hTT 1 [] tI ?_
 refine aops_nil (xt_n (hK _ ?_)); clear hK K; refine aw_seq_k fun K hK => ?_; refine w_true (t := true) kR rfl ?_
 refine aw_skip ?_
 refine xt_n (hK _ ?_); clear hK K; refine aw_seq_k fun K hK => ?_
 refine aw_block ?_
 refine aw_seq_k fun K hK => wR 9 ?_
 refine aops_x (M := [24]) hTT 6 [(1, .c qT30), (3, .r (pn 9 (V.ref 800009 0) (800009 : Nat) (Ob.box 124 [V.i 0, V.i 0, V.i 0, V.i 0, V.i 0, V.i 0, V.i 0]))), (5, .r (pw ((0 : Nat) + (7 : Nat) ≤ (7 : Nat)) (800009 : Nat) (Ob.box 124 [V.i 0, V.i 0, V.i 2, V.i 0, V.i 0, V.i 0, V.i 500])))] ⟨qT30_, oM, tI⟩ ?_
 refine aops_nil (xt_n (hK _ ?_)); clear hK K; refine aw_seq_k fun K hK => ?_; refine aw_seq_k fun K hK => wR 10 ?_
 refine aops_x (M := [24]) hTT 2 [(1, .c ((0 : Nat) ≤ (7 : Nat)))] ⟨oM, tI⟩ ?_
 refine aops_callR [500024] (first := []) (caps := []) (ins' := [Ob.box 122 [zzT30, V.nil, V.i 0]]) (v' := V.b true) (δ := []) (kp := [500024]) (good_ac) kR kR kR kR kR kR kR rfl kR kR ⟨kR, tI⟩ kR kR kR ?_
 refine aops_x (M := [24]) hTT 1 [] tI ?_
 refine aops_nil (xt_n (hK _ ?_)); clear hK K; refine w_false (t := false) kR rfl ?_
 refine aw_skip ?_
 refine xt_n (hK _ ?_); clear hK K; refine aw_seq_k fun K hK => wD 11 ?_
 refine aops_x (M := [24]) hTT 12 [(0, .c ((0 : Nat) ≤ (7 : Nat))), (5, .c ((2 : Nat) ≤ (3 : Nat))), (7, .c ((3 : Nat) ≤ (7 : Nat))), (8, .i ((0 : Int) + (0 : Int))), (10, .r (pn 10 (V.ref 1000010 0) (1000010 : Nat) (Ob.box 126 [V.i 0, V.i 0, V.i 0, V.i 0, V.i 0, V.i 0, V.i 0, V.i 0, V.i 0, V.i 0]))), (11, .r (pw ((0 : Nat) + (10 : Nat) ≤ (10 : Nat)) (1000010 : Nat) (Ob.box 126 [V.i 0, V.i 0, V.i 2, V.i 0, V.i 0, V.i 0, V.i 500, V.i 0, V.i 0, V.i 0])))] ⟨oM, oM, oM, oM, oM, tI⟩ ?_
 refine aops_nil ⟨kR, ?_⟩; refine xt_n (hK _ ?_); clear hK K; refine aw_seq_k fun K hK => wR 12 ?_
 refine aops_x (M := [24]) hTT 10 [(1, .c qT31), (3, .c ((2 : Nat) ≤ (7 : Nat))), (4, .i ((0 : Int) + (2 : Int))), (6, .c ((1 : Nat) ≤ (7 : Nat))), (7, .i ((2 : Int) - (0 : Int))), (9, .r (pw ((9 : Nat) + (1 : Nat) ≤ (10 : Nat)) (1000010 : Nat) (Ob.box 126 yyT32)))] ⟨qT31_, oM, oM, oM, oM, oM, tI⟩ ?_
 refine aops_nil (xt_n (hK _ ?_)); clear hK K; refine aw_seq_k fun K hK => wD 13 ?_
 refine aops_x (M := [24]) hTT 11 [(4, .c ((1 : Nat) ≤ (3 : Nat))), (5, .c ((0 : Nat) ≤ (10 : Nat))), (7, .r (PR.mk (some (62 : Nat)) (some ((1 : Nat) ≤ (1099511627776 : Nat))) (V.own 1200062) [((1200062 : Nat), some (yyT30))] false)), (10, .r (pw ((1 : Nat) + (1 : Nat) ≤ (3 : Nat)) (500024 : Nat) (Ob.box 122 [zzT30, V.own 1200062, V.i 0])))] ⟨oM, oM, oM, oM, tI⟩ ?_
 refine aops_nil ⟨kR, ?_⟩; refine xt_n (hK _ ?_); clear hK K; refine wR 14 ?_
 refine aops_x (M := [24]) hTT 6 [(2, .c qT32), (5, .r (pw ((2 : Nat) + (1 : Nat) ≤ (3 : Nat)) (500024 : Nat) (Ob.box 122 [zzT30, V.own 1200062, V.i 2])))] ⟨qT32_, oM, tI⟩ ?_
 refine aops_nil ?_; refine xb_n ?_; refine xt_n (hK _ ?_); clear hK K; refine wR 15 ?_
 refine aops_x (M := [24]) hTT 2 [(0, .i ((0 : Int) + (1 : Int)))] ⟨oM, tI⟩ ?_
 refine aops_nil (xt_n (hK _ ?_)); clear hK K
 refine awr_succ (m := 1) fun K hK => ?_
 refine aw_seq_k fun K hK => wR 16 ?_
 refine aops_x (M := [24]) hTT 1 [] tI ?_
 refine aops_nil (xt_n (hK _ ?_)); clear hK K; refine aw_seq_k fun K hK => ?_; refine w_false (t := false) kR rfl ?_
 refine aw_exit ?_
 refine xt_x ?_; refine xt_x ?_
 refine xb_same ?_
 refine xt_n ?_; clear hK K; clear hK K; refine hK _ ?_; clear hK K; refine aw_seq_k fun K hK => wR 17 ?_
 refine aops_x (M := [24]) hTT 1 [] tI ?_
 refine aops_nil (xt_n (hK _ ?_)); clear hK K; refine aw_seq_k fun K hK => ?_; refine aw_seq_k fun K hK => wR 18 ?_
 refine aops_x (M := [24]) hTT 6 [(3, .c ((1 : Nat) ≤ (3 : Nat)))] ⟨oM, tI⟩ ?_
 refine aops_nil (xt_n (hK _ ?_)); clear hK K
 refine aw_block ?_
 refine aw_rounds 3 ?_
 refine awr_succ (m := 2) fun K hK => ?_
 refine aw_seq_k fun K hK => wR 19 ?_
 refine aops_x (M := [24]) hTT 1 [] tI ?_
 refine aops_nil (xt_n (hK _ ?_)); clear hK K; refine aw_seq_k fun K hK => ?_; refine w_true (t := true) kR rfl ?_
 refine aw_skip ?_
 refine xt_n (hK _ ?_); clear hK K; refine aw_seq_k fun K hK => ?_
 refine aw_block ?_
 refine aw_seq_k fun K hK => wR 20 ?_
 refine aops_x (M := [24]) hTT 6 [(1, .c qT30), (2, .c ((0 : Nat) < (1 : Nat) ∧ (0 : Nat) ≤ (10 : Nat))), (3, .r (pn 13 (V.ref 1900013 0) (1900013 : Nat) (Ob.box 126 [V.i 0, V.i 0, V.i 0, V.i 0, V.i 0, V.i 0, V.i 0, V.i 0, V.i 0, V.i 0]))), (5, .r (pw ((0 : Nat) + (10 : Nat) ≤ (10 : Nat)) (1900013 : Nat) (Ob.box 126 yyT32)))] ⟨qT30_, oM, oM, tI⟩ ?_
 refine aops_nil (xt_n (hK _ ?_)); clear hK K; refine aw_seq_k fun K hK => ?_; refine aw_seq_k fun K hK => wD 21 ?_
 refine aops_n hTT (M := [24]) (n := 36) [pv 81 (V.i 0), pv 82 (V.b false), pv 83 (V.b false), pc 84 ((True ∧ True) ∧ ((false == true) = true → True)) (V.gd (false == true) (V.ref 1900013 9)), pc 85 ((yyT33 ∧ True) ∧ ((false == true) = true → (9 : Nat) ≤ (10 : Nat))) (V.gd (false == true) (V.i 2)), pc 86 ((True ∧ True) ∧ ((false == true) = true → True)) (V.gd (false == true) (V.ref 500024 0)), pc 87 ((yyT33 ∧ True) ∧ ((false == true) = true → True)) (V.gd (false == true) (V.ref 500024 0)), pc 88 ((yyT33 ∧ True) ∧ ((false == true) = true → True)) (V.gd (false == true) (V.ref 500024 1)), pc 89 ((yyT33 ∧ True) ∧ ((false == true) = true → (1 : Nat) ≤ (3 : Nat))) (V.gd (false == true) (V.own 1200062)), pc 90 ((True ∧ True) ∧ ((false == true) = true → True)) (V.gd (false == true) (V.i 0)), pc 91 ((yyT33 ∧ True ∧ True) ∧ ((false == true) = true → (-9223372036854775808 : Int) ≤ (0 : Int) - (1 : Int) ∧ (0 : Int) - (1 : Int) ≤ (9223372036854775807 : Int))) (V.gd (false == true) (V.i (-1))), pc 92 ((yyT33 ∧ yyT33 ∧ True) ∧ ((false == true) = true → (0 : Int) ≤ (-1 : Int) ∧ (-1 : Int) < (↑(1 : Nat) : Int))) (V.gd (false == true) (V.oel 1200062 10 (Int.toNat (-1 : Int)) (0 : Nat))), pc 93 ((yyT33 ∧ True) ∧ ((false == true) = true → True)) (V.gd (false == true) (V.oel 1200062 10 (Int.toNat (-1 : Int)) (9 : Nat))), pc 94 ((yyT33 ∧ True) ∧ ((false == true) = true → Int.toNat (-1 : Int) < (1 : Nat) ∧ (9 : Nat) ≤ (10 : Nat))) (V.gd (false == true) (V.i 2)), pc 95 ((yyT33 ∧ yyT33 ∧ True) ∧ ((false == true) = true → True)) (V.gd (false == true) (V.b false)), pc 96 ((yyT33 ∧ True) ∧ ((false == true) = true → True)) (V.gd (false == true) (V.b false)), pc 97 ((True ∧ True) ∧ ((false == true && false == false) = true → True)) (V.gd (false == true && false == false) (V.ref 1900013 8)), pc 98 ((yyT31 ∧ True) ∧ ((false == true && false == false) = true → (8 : Nat) ≤ (10 : Nat))) (V.gd (false == true && false == false) (V.i 0)), pc 99 ((True ∧ True) ∧ ((false == true && false == false) = true → True)) (V.gd (false == true && false == false) (V.ref 500024 0)), pc 100 ((yyT31 ∧ True) ∧ ((false == true && false == false) = true → True)) (V.gd (false == true && false == false) (V.ref 500024 0)), pc 101 ((yyT31 ∧ True) ∧ ((false == true && false == false) = true → True)) (V.gd (false == true && false == false) (V.ref 500024 1)), pc 102 ((yyT31 ∧ True) ∧ ((false == true && false == false) = true → (1 : Nat) ≤ (3 : Nat))) (V.gd (false == true && false == false) (V.own 1200062)), pc 103 ((True ∧ True) ∧ ((false == true && false == false) = true → True)) (V.gd (false == true && false == false) (V.i 0)), pc 104 ((yyT31 ∧ True ∧ True) ∧ ((false == true && false == false) = true → (-9223372036854775808 : Int) ≤ (0 : Int) - (1 : Int) ∧ (0 : Int) - (1 : Int) ≤ (9223372036854775807 : Int))) (V.gd (false == true && false == false) (V.i (-1))), pc 105 ((yyT31 ∧ yyT31 ∧ True) ∧ ((false == true && false == false) = true → (0 : Int) ≤ (-1 : Int) ∧ (-1 : Int) < (↑(1 : Nat) : Int))) (V.gd (false == true && false == false) (V.oel 1200062 10 (Int.toNat (-1 : Int)) (0 : Nat))), pc 106 ((yyT31 ∧ True) ∧ ((false == true && false == false) = true → True)) (V.gd (false == true && false == false) (V.oel 1200062 10 (Int.toNat (-1 : Int)) (8 : Nat))), pc 107 ((yyT31 ∧ True) ∧ ((false == true && false == false) = true → Int.toNat (-1 : Int) < (1 : Nat) ∧ (8 : Nat) ≤ (10 : Nat))) (V.gd (false == true && false == false) (V.i 0)), pc 108 ((yyT31 ∧ yyT31 ∧ True) ∧ ((false == true && false == false) = true → True)) (V.gd (false == true && false == false) (V.b false)), pc 109 (yyT33 ∧ ((false == true) = true → True) ∧ ((false == true) = true → false = false → (false == true && false == false) = true)) (V.gd (false == true) (V.b false)), pc 110 ((false = true → (false == true) = true) ∧ True) (V.b false), pv 111 (V.b false), pc 112 ((True ∧ True) ∧ ((false == false) = true → True)) (V.gd (false == false) (V.ref 1900013 8)), pc 113 ((((false == false) = true → (false == false) = true) ∧ True) ∧ ((false == false) = true → (8 : Nat) ≤ (10 : Nat))) (V.gd (false == false) (V.i 0)), pc 114 ((True ∧ True) ∧ ((false == false) = true → True)) (V.gd (false == false) (V.i 0)), pc 115 ((((false == false) = true → (false == false) = true) ∧ ((false == false) = true → (false == false) = true) ∧ True) ∧ ((false == false) = true → True)) (V.gd (false == false) (V.b false)), pc 116 (True ∧ (false = false → (false == false) = true)) (V.b false)] kR kR ⟨⟨⟨tI, tI⟩, (fun _ => tI)⟩, ⟨⟨(by (exact fun h => h)), tI⟩, (by (intro _; simp; done))⟩, ⟨⟨tI, tI⟩, (fun _ => tI)⟩, ⟨⟨(by (exact fun h => h)), tI⟩, (fun _ => tI)⟩, ⟨⟨(by (exact fun h => h)), tI⟩, (fun _ => tI)⟩, ⟨⟨(by (exact fun h => h)), tI⟩, (by (intro _; simp; done))⟩, ⟨⟨tI, tI⟩, (fun _ => tI)⟩, ⟨⟨(by (exact fun h => h)), ⟨tI, tI⟩⟩, (by (intro _; simp; done))⟩, ⟨⟨(by (exact fun h => h)), ⟨(by (exact fun h => h)), tI⟩⟩, (by (intro h; simp at h; done))⟩, ⟨⟨(by (exact fun h => h)), tI⟩, (fun _ => tI)⟩, ⟨⟨(by (exact fun h => h)), tI⟩, (by (intro _; simp; done))⟩, ⟨⟨(by (exact fun h => h)), ⟨(by (exact fun h => h)), tI⟩⟩, (fun _ => tI)⟩, ⟨⟨(by (exact fun h => h)), tI⟩, (fun _ => tI)⟩, ⟨⟨tI, tI⟩, (fun _ => tI)⟩, ⟨⟨(by (exact fun h => h)), tI⟩, (by (intro _; simp; done))⟩, ⟨⟨tI, tI⟩, (fun _ => tI)⟩, ⟨⟨(by (exact fun h => h)), tI⟩, (fun _ => tI)⟩, ⟨⟨(by (exact fun h => h)), tI⟩, (fun _ => tI)⟩, ⟨⟨(by (exact fun h => h)), tI⟩, (by (intro _; simp; done))⟩, ⟨⟨tI, tI⟩, (fun _ => tI)⟩, ⟨⟨(by (exact fun h => h)), ⟨tI, tI⟩⟩, (by (intro _; simp; done))⟩, ⟨⟨(by (exact fun h => h)), ⟨(by (exact fun h => h)), tI⟩⟩, (by (intro h; simp at h; done))⟩, ⟨⟨(by (exact fun h => h)), tI⟩, (fun _ => tI)⟩, ⟨⟨(by (exact fun h => h)), tI⟩, (by (intro _; simp; done))⟩, ⟨⟨(by (exact fun h => h)), ⟨(by (exact fun h => h)), tI⟩⟩, (fun _ => tI)⟩, ⟨(by (exact fun h => h)), ⟨(fun _ => tI), (by (intro h; simp at h; done))⟩⟩, ⟨(by (exact fun h => h)), tI⟩, ⟨⟨tI, tI⟩, (fun _ => tI)⟩, ⟨⟨(by (exact fun h => h)), tI⟩, (by (intro _; simp; done))⟩, ⟨⟨tI, tI⟩, (fun _ => tI)⟩, ⟨⟨(by (exact fun h => h)), ⟨(by (exact fun h => h)), tI⟩⟩, (fun _ => tI)⟩, ⟨tI, (by (intro h; rw [h]; rfl))⟩, tI⟩ ?_
 refine aops_nil ⟨kR, ?_⟩; refine xt_n (hK _ ?_); clear hK K; refine w_false (t := false) kR rfl ?_
 refine aw_skip ?_
 refine xt_n (hK _ ?_); clear hK K; refine aw_seq_k fun K hK => wR 22 ?_
 refine aops_x (M := [24]) hTT 2 [] tI ?_
 refine aops_nil (xt_n (hK _ ?_)); clear hK K; refine w_false (t := false) kR rfl ?_
 refine aw_skip ?_
 refine xb_n ?_; refine xt_n (hK _ ?_); clear hK K; refine wR 23 ?_
 refine aops_x (M := [24]) hTT 2 [(0, .i ((0 : Int) + (1 : Int)))] ⟨oM, tI⟩ ?_
 refine aops_nil (xt_n (hK _ ?_)); clear hK K
 refine awr_succ (m := 1) fun K hK => ?_
 refine aw_seq_k fun K hK => wR 24 ?_
 refine aops_x (M := [24]) hTT 1 [] tI ?_
 refine aops_nil (xt_n (hK _ ?_)); clear hK K; refine aw_seq_k fun K hK => ?_; refine w_false (t := false) kR rfl ?_
 refine aw_exit ?_
 refine xt_x ?_; refine xt_x ?_
 refine xb_same ?_
 refine xt_n ?_; clear hK K; clear hK K; refine hK _ ?_; clear hK K; refine aw_seq_k fun K hK => ?_; refine aw_seq_k fun K hK => wR 25 ?_
 refine aops_x (M := [24]) hTT 5 [(3, .c ((2 : Nat) ≤ (3 : Nat)))] ⟨oM, tI⟩ ?_
 refine aops_nil (xt_n (hK _ ?_)); clear hK K; refine w_false (t := false) kR rfl ?_
 refine aw_skip ?_
 refine xt_n (hK _ ?_); clear hK K; refine aw_seq_k fun K hK => ?_
 refine w_le (s' := ⟨mkT [(7, .ref 7 0)], mkS [(7, .box 122 [tksV, .own 8, .i 2]), (8, .row 126 10 1 plR)], 1⟩) ?_ ?_
 ·
  refine le_ren (tl := [(7, V.ref 7 0)]) (sl := [(7, Ob.box 122 [zzT30, V.own 8, V.i 2]), (8, Ob.row 126 10 1 plR)]) [(7, 500024), (8, 1200062)] (.cons kR .nil) (.cons ⟨Ob.box 122 [zzT30, V.own 1200062, V.i 2], kR, .box kR⟩ (.cons ⟨yyT30, kR, .row kR ?_⟩ .nil)) kR kR
  intro i hi
  obtain rfl : i = 0 := by omega
  rfl
 refine w_le pl3 ?_
 refine w_le (le_freezeBox (t := (122 : Nat)) (cs := [zzT30, V.sl 10 1 plR, V.i 2]) 7 kR kR) ?_
 refine wR 2 ?_; refine aX hTT 3 [] tI ?_; refine aops_nil (xt_n (hK _ ?_)); clear hK K
 refine aw_ret ?_
 refine rP (V.tup [V.ptr [zzT30, V.sl 10 1 plR, V.i 2], V.i 0])
def gV : V := .ptr [tksV, .sl 10 1 fun _ => ptC ++ [.i 0, .i 0, .i 2], .i 2]
set_option maxRecDepth 100000 in
theorem tGain_ac (k : Int) (hk : k = 0 ∨ k = 1) : AC Tryz.prog 102 [.agg (ptC ++ [.i 0, .i 0, .i 2]), .i k, .i 500] (.agg [.i 500, .i 1000]) [] := by
 rcases hk with rfl | rfl
 ·
  refine acI hTT hMX Tryz.func102 Tryz.ntmps102 fun C hC hF => ?_
  refine aw_seq_k fun K hK => wR 2 ?_; refine aX hTT 2 [(1, .r (pn 6 (V.ref 100006 0) (100006 : Nat) (Ob.box 218 [V.i 0, V.i 0])))] tI ?_; refine aops_nil (xt_n (hK _ ?_)); clear hK K; refine aw_seq_k fun K hK => wD 3 ?_; refine aX hTT 21 [(5, .i ((0 : Int) + (1 : Int))), (10, .i ((2 : Int) - (0 : Int))), (12, .i ((2 : Int) - (0 : Int))), (13, .i ((2 : Int) - (1 : Int))), (18, .i ((0 : Int) + (1 : Int)))] ⟨oM, oM, oM, oM, oM, tI⟩ ?_; refine aops_nil ⟨kR, ?_⟩; refine xt_n (hK _ ?_); clear hK K; refine aw_seq_k fun K hK => wR 4 ?_; refine aX hTT 17 [(2, .i ((500 : Int) * (1 : Int))), (4, .i ((500 : Int) * (1 : Int))), (8, .i ((0 : Int) + (1 : Int))), (9, .i ((1000 : Int) * (1 : Int))), (13, .i ((0 : Int) + (1 : Int))), (14, .i ((1000 : Int) * (1 : Int))), (16, .r (pw ((0 : Nat) + (2 : Nat) ≤ (2 : Nat)) (100006 : Nat) (Ob.box 218 [V.i 500, V.i 1000])))] ⟨oM, oM, oM, oM, oM, oM, oM, tI⟩ ?_; refine aops_nil (xt_n (hK _ ?_)); clear hK K
  refine aw_ret ?_
  refine rP (V.agg [V.i 500, V.i 1000])
 ·
  refine acI hTT hMX Tryz.func102 Tryz.ntmps102 fun C hC hF => ?_
  refine aw_seq_k fun K hK => wR 2 ?_; refine aX hTT 2 [(1, .r (pn 6 (V.ref 100006 0) (100006 : Nat) (Ob.box 218 [V.i 0, V.i 0])))] tI ?_; refine aops_nil (xt_n (hK _ ?_)); clear hK K; refine aw_seq_k fun K hK => wD 3 ?_; refine aX hTT 21 [(5, .i ((0 : Int) + (1 : Int))), (10, .i ((2 : Int) - (0 : Int))), (12, .i ((2 : Int) - (1 : Int))), (13, .i ((1 : Int) - (1 : Int))), (18, .i ((0 : Int) + (1 : Int)))] ⟨oM, oM, oM, oM, oM, tI⟩ ?_; refine aops_nil ⟨kR, ?_⟩; refine xt_n (hK _ ?_); clear hK K; refine aw_seq_k fun K hK => wR 4 ?_; refine aX hTT 17 [(2, .i ((500 : Int) * (1 : Int))), (4, .i ((500 : Int) * (1 : Int))), (8, .i ((0 : Int) + (1 : Int))), (9, .i ((1000 : Int) * (1 : Int))), (13, .i ((0 : Int) + (1 : Int))), (14, .i ((1000 : Int) * (1 : Int))), (16, .r (pw ((0 : Nat) + (2 : Nat) ≤ (2 : Nat)) (100006 : Nat) (Ob.box 218 [V.i 500, V.i 1000])))] ⟨oM, oM, oM, oM, oM, oM, oM, tI⟩ ?_; refine aops_nil (xt_n (hK _ ?_)); clear hK K
  refine aw_ret ?_
  refine rP (V.agg [V.i 500, V.i 1000])
set_option maxRecDepth 100000 in
theorem gOf_ac (n : Int) (hn : -100 ≤ n ∧ n ≤ 100) : AC Tryz.prog 103 [.agg [.i 500, .i 1000], .i n] (.i ((n * 500).tdiv 1000)) [] := by
 refine acI hTT hMX Tryz.func103 Tryz.ntmps103 fun C hC hF => ?_
 refine aw_seq_k fun K hK => wR 2 ?_; refine aX hTT 2 [] tI ?_; refine aops_nil (xt_n (hK _ ?_)); clear hK K; refine aw_seq_k fun K hK => wR 3 ?_; refine aX hTT 8 [(3, .i (n * (500 : Int))), (6, .c ((0 : Int) < (1000 : Int) ∧ (-9223372036854775808 : Int) ≤ n * (500 : Int) ∧ n * (500 : Int) ≤ (9223372036854775807 : Int)))] ⟨oM, ⟨oM, oM⟩, tI⟩ ?_; refine aops_nil (xt_n (hK _ ?_)); clear hK K
 refine aw_ret ?_
 refine rP (V.i (Int.tdiv (n * (500 : Int)) (1000 : Int)))
set_option maxRecDepth 100000 in
theorem sound0_ac : AC Tryz.prog 50 [gV, .agg (ptC ++ [.i 0, .i 0, .i 2]), .i 0, .i 500] (.agg [.i 5, .i (-5)]) [] := by
 refine acI hTT hMX Tryz.func50 Tryz.ntmps50 fun C hC hF => ?_
 refine aw_seq_k fun K hK => wR 2 ?_; refine aX hTT 2 [(1, .r (pn 8 (V.ref 100008 0) (100008 : Nat) (Ob.box 55 [V.i 0, V.i 0])))] tI ?_; refine aops_nil (xt_n (hK _ ?_)); clear hK K; refine aw_seq_k fun K hK => wR 3 ?_; refine aX hTT 3 [] tI ?_
 refine eC (tGain_ac 0 (by decide)) ?_
 refine aX hTT 2 [] tI ?_; refine aops_nil (xt_n (hK _ ?_)); clear hK K; refine aw_seq_k fun K hK => wD 4 ?_; refine aX hTT 19 [(7, .c qT30), (14, .i ((0 : Int) + (0 : Int))), (15, .c qT33), (17, .r (pn 10 (V.ref 300010 0) (300010 : Nat) (Ob.box 55 [V.i 0, V.i 0]))), (18, .r (pw ((0 : Nat) + (2 : Nat) ≤ (2 : Nat)) (300010 : Nat) (Ob.box 55 [V.i 10, V.i (-10)])))] ⟨qT30_, oM, qT33_, oM, tI⟩ ?_; refine aops_nil ⟨kR, ?_⟩; refine xt_n (hK _ ?_); clear hK K; refine aw_seq_k fun K hK => wD 5 ?_; refine aX hTT 3 [(2, .c ((0 : Nat) ≤ (2 : Nat)))] ⟨oM, tI⟩ ?_
 refine e_call (first := [V.agg [V.i 500, V.i 1000]]) (caps := []) (gOf_ac 10 (by decide)) kR kR kR kR kR ?_
 refine aX hTT 3 [(2, .c ((1 : Nat) ≤ (2 : Nat)))] ⟨oM, tI⟩ ?_
 refine e_call (first := [V.agg [V.i 500, V.i 1000]]) (caps := []) (gOf_ac (-10) (by decide)) kR kR kR kR kR ?_
 refine aX hTT 2 [(1, .r (pw ((0 : Nat) + (2 : Nat) ≤ (2 : Nat)) (100008 : Nat) (Ob.box 55 [V.i 5, V.i (-5)])))] ⟨oM, tI⟩ ?_; refine aops_nil ⟨kR, ?_⟩; refine xt_n (hK _ ?_); clear hK K
 refine aw_ret ?_
 refine rP (V.agg [V.i 5, V.i (-5)])
set_option maxRecDepth 100000 in
theorem sound1_ac : AC Tryz.prog 50 [gV, .agg (ptC ++ [.i 0, .i 0, .i 2]), .i 1, .i 500] (.agg [.i 2, .i 0]) [] := by
 refine acI hTT hMX Tryz.func50 Tryz.ntmps50 fun C hC hF => ?_
 refine aw_seq_k fun K hK => wR 2 ?_; refine aX hTT 2 [(1, .r (pn 8 (V.ref 100008 0) (100008 : Nat) (Ob.box 55 [V.i 0, V.i 0])))] tI ?_; refine aops_nil (xt_n (hK _ ?_)); clear hK K; refine aw_seq_k fun K hK => wR 3 ?_; refine aX hTT 3 [] tI ?_
 refine eC (tGain_ac 1 (by decide)) ?_
 refine aX hTT 2 [] tI ?_; refine aops_nil (xt_n (hK _ ?_)); clear hK K; refine aw_seq_k fun K hK => wD 4 ?_; refine aX hTT 19 [(7, .c qT30), (14, .i ((0 : Int) + (1 : Int))), (15, .c qT34), (17, .r (pn 10 (V.ref 300010 0) (300010 : Nat) (Ob.box 55 [V.i 0, V.i 0]))), (18, .r (pw ((0 : Nat) + (2 : Nat) ≤ (2 : Nat)) (300010 : Nat) (Ob.box 55 [V.i 5, V.i 0])))] ⟨qT30_, oM, qT34_, oM, tI⟩ ?_; refine aops_nil ⟨kR, ?_⟩; refine xt_n (hK _ ?_); clear hK K; refine aw_seq_k fun K hK => wD 5 ?_; refine aX hTT 3 [(2, .c ((0 : Nat) ≤ (2 : Nat)))] ⟨oM, tI⟩ ?_
 refine e_call (first := [V.agg [V.i 500, V.i 1000]]) (caps := []) (gOf_ac 5 (by decide)) kR kR kR kR kR ?_
 refine aX hTT 3 [(2, .c ((1 : Nat) ≤ (2 : Nat)))] ⟨oM, tI⟩ ?_
 refine e_call (first := [V.agg [V.i 500, V.i 1000]]) (caps := []) (gOf_ac 0 (by decide)) kR kR kR kR kR ?_
 refine aX hTT 2 [(1, .r (pw ((0 : Nat) + (2 : Nat) ≤ (2 : Nat)) (100008 : Nat) (Ob.box 55 [V.i 2, V.i 0])))] ⟨oM, tI⟩ ?_; refine aops_nil ⟨kR, ?_⟩; refine xt_n (hK _ ?_); clear hK K
 refine aw_ret ?_
 refine rP (V.agg [V.i 2, V.i 0])
set_option maxRecDepth 100000 in
theorem tSum_ac (a b c d : Int) (h : (-100 ≤ a ∧ a ≤ 100) ∧ (-100 ≤ b ∧ b ≤ 100) ∧ (-100 ≤ c ∧ c ≤ 100) ∧ -100 ≤ d ∧ d ≤ 100) : AC Tryz.prog 49 [.agg [.i a, .i b], .agg [.i c, .i d]] (.agg [.i (a + c), .i (b + d)]) [] := by
 refine acI hTT hMX Tryz.func49 Tryz.ntmps49 fun C hC hF => ?_
 refine aw_seq_k fun K hK => wR 2 ?_; refine aX hTT 3 [(2, .r (pn 4 (V.ref 100004 0) (100004 : Nat) (Ob.box 55 [V.i 0, V.i 0])))] tI ?_; refine aops_nil (xt_n (hK _ ?_)); clear hK K; refine aw_seq_k fun K hK => wR 3 ?_; refine aX hTT 12 [(4, .i (a + c)), (9, .i (b + d)), (11, .r (pw ((0 : Nat) + (2 : Nat) ≤ (2 : Nat)) (100004 : Nat) (Ob.box 55 [V.i (a + c), V.i (b + d)])))] ⟨oM, oM, oM, tI⟩ ?_; refine aops_nil (xt_n (hK _ ?_)); clear hK K
 refine aw_ret ?_
 refine rP (V.agg [V.i (a + c), V.i (b + d)])
def rR : Nat → List V := fun j => [.i (gi [5, 2] j), .i (gi [-5, 0] j)]
theorem tCheck2 : AC Tryz.prog 39 [.sl 2 2 rR] (.i 0) [] :=
 (tCheckSamples_ac [(5, -5), (2, 0)] (by decide)).conv (show A2 [_] [_] from ⟨RImp.rows rfl fun i hi => by
  have hi : i < 2 := hi
  rcases (by omega : i = 0 ∨ i = 1) with rfl | rfl <;> rfl, trivial⟩)
theorem rR_idf (i : Nat) : V.idfL (rR i) = true := rfl
theorem tCheckR : AM Tryz.prog 39 [.own 500] [.row 55 2 2 rR] (.i 0) [some (.row 55 2 2 rR)] [] :=
 AC.rowK tCheck2 55 (sz := 2) (n := 2) (row := rR) rfl rfl (by decide) rR_idf rfl (by simp)
abbrev yyT35 : List V := [V.c (Value.int IntKind.i64 0), V.c (Value.int IntKind.i64 0)]
abbrev yyT34 : Ob := Ob.row 55 2 2 fun (j : Nat) => if j = (1 : Nat) then [V.i 2, V.i 0] else if j = (0 : Nat) then [V.i 5, V.i (-5)] else yyT35
set_option maxRecDepth 100000 in
theorem Render0_ac : AC Tryz.prog 17 [tksV, ptsV] (.tup [.own 0, .i 0]) [.row 55 2 2 fun i => [.i (gp [(5, -5), (2, 0)] i).1, .i (gp [(5, -5), (2, 0)] i).2]] := by
 refine acI hTT hMX Tryz.func17 Tryz.ntmps17 fun C hC hF => ?_
 refine aw_seq_k fun K hK => wR 2 ?_; refine aX hTT 2 [] tI ?_; refine aops_nil (xt_n (hK _ ?_)); clear hK K; refine aw_seq_k fun K hK => wR 3 ?_; refine aX hTT 2 [] tI ?_
 refine eC (newP_ac) ?_
 refine aX hTT 5 [] tI ?_; refine aops_nil (xt_n (hK _ ?_)); clear hK K; refine aw_seq_k fun K hK => ?_; refine aw_seq_k fun K hK => wR 4 ?_; refine aX hTT 2 [] tI ?_; refine aops_nil (xt_n (hK _ ?_)); clear hK K; refine w_false (t := false) kR rfl ?_
 refine aw_skip ?_
 refine xt_n (hK _ ?_); clear hK K; refine aw_seq_k fun K hK => wR 5 ?_; refine aX hTT 6 [(4, .r (PR.mk (some (25 : Nat)) (some ((0 : Int) ≤ (2 : Int) ∧ (2 : Int) ≤ (2 : Int) ∧ (2 : Int) ≤ (1099511627776 : Int))) (V.own 400025) [((400025 : Nat), some (Ob.row 55 2 2 fun (x : Nat) => yyT35))] false))] ⟨⟨oM, oM⟩, tI⟩ ?_; refine aops_nil (xt_n (hK _ ?_)); clear hK K; refine aw_seq_k fun K hK => ?_; refine aw_seq_k fun K hK => wR 6 ?_; refine aX hTT 6 [] tI ?_; refine aops_nil (xt_n (hK _ ?_)); clear hK K
 refine aw_block ?_
 refine aw_rounds 3 ?_
 refine awr_succ (m := 2) fun K hK => ?_
 refine aw_seq_k fun K hK => wR 7 ?_; refine aX hTT 1 [] tI ?_; refine aops_nil (xt_n (hK _ ?_)); clear hK K; refine aw_seq_k fun K hK => ?_; refine w_true (t := true) kR rfl ?_
 refine aw_skip ?_
 refine xt_n (hK _ ?_); clear hK K; refine aw_seq_k fun K hK => ?_
 refine aw_block ?_
 refine aw_seq_k fun K hK => wR 8 ?_; refine aX hTT 4 [(0, .c qT30), (2, .r (pn 10 (V.ref 700010 0) (700010 : Nat) (Ob.box 126 [V.i 0, V.i 0, V.i 0, V.i 0, V.i 0, V.i 0, V.i 0, V.i 0, V.i 0, V.i 0]))), (3, .r (pw ((0 : Nat) + (10 : Nat) ≤ (10 : Nat)) (700010 : Nat) (Ob.box 126 [V.i 0, V.i 0, V.i 2, V.i 0, V.i 0, V.i 0, V.i 500, V.i 0, V.i 0, V.i 2])))] ⟨qT30_, oM, tI⟩ ?_; refine aops_nil (xt_n (hK _ ?_)); clear hK K; refine aw_seq_k fun K hK => wR 9 ?_; refine aX hTT 3 [(1, .c qT31)] ⟨qT31_, tI⟩ ?_; refine aops_nil (xt_n (hK _ ?_)); clear hK K
 refine aw_block ?_
 refine aw_rounds 3 ?_
 refine awr_succ (m := 2) fun K hK => ?_
 refine aw_seq_k fun K hK => ?_; refine aw_seq_k fun K hK => wR 10 ?_; refine aX hTT 4 [(2, .c qT32)] ⟨qT32_, tI⟩ ?_; refine aops_nil (xt_n (hK _ ?_)); clear hK K; refine w_true (t := true) kR rfl ?_
 refine aw_skip ?_
 refine xt_n (hK _ ?_); clear hK K; refine aw_seq_k fun K hK => ?_
 refine aw_block ?_
 refine wD 11 ?_; refine aX hTT 15 [(4, .c qT33), (5, .c ((0 : Nat) < (2 : Nat) ∧ (0 : Nat) ≤ (2 : Nat))), (7, .c ((0 : Nat) ≤ (10 : Nat))), (10, .c qT31), (11, .i ((0 : Int) - (0 : Int))), (14, .c ((6 : Nat) ≤ (10 : Nat)))] ⟨qT33_, oM, oM, qT31_, oM, oM, tI⟩ ?_
 refine eC (sound0_ac) ?_
 skip
 refine eC (tSum_ac 0 0 5 (-5) (by decide)) ?_
 refine aX hTT 2 [(0, .c qT33), (1, .r (pw ((0 : Nat) < (2 : Nat) ∧ (0 : Nat) + (2 : Nat) ≤ (2 : Nat)) (400025 : Nat) (Ob.row 55 2 2 fun (j : Nat) => if j = (0 : Nat) then [V.i 5, V.i (-5)] else yyT35)))] ⟨qT33_, oM, tI⟩ ?_; refine aops_nil ⟨kR, ?_⟩; refine xb_n ?_; refine xt_n (hK _ ?_); clear hK K; refine wR 12 ?_; refine aX hTT 3 [(1, .i ((0 : Int) + (1 : Int)))] ⟨oM, tI⟩ ?_; refine aops_nil (xt_n (hK _ ?_)); clear hK K
 refine awr_succ (m := 1) fun K hK => ?_
 refine aw_seq_k fun K hK => ?_; refine aw_seq_k fun K hK => wR 13 ?_; refine aX hTT 4 [(2, .c qT32)] ⟨qT32_, tI⟩ ?_; refine aops_nil (xt_n (hK _ ?_)); clear hK K; refine w_true (t := true) kR rfl ?_
 refine aw_skip ?_
 refine xt_n (hK _ ?_); clear hK K; refine aw_seq_k fun K hK => ?_
 refine aw_block ?_
 refine wD 14 ?_; refine aX hTT 15 [(4, .c qT34), (5, .c ((1 : Nat) < (2 : Nat) ∧ (0 : Nat) ≤ (2 : Nat))), (7, .c ((0 : Nat) ≤ (10 : Nat))), (10, .c qT31), (11, .i ((1 : Int) - (0 : Int))), (14, .c ((6 : Nat) ≤ (10 : Nat)))] ⟨qT34_, oM, oM, qT31_, oM, oM, tI⟩ ?_
 refine eC (sound1_ac) ?_
 skip
 refine eC (tSum_ac 0 0 2 0 (by decide)) ?_
 refine aX hTT 2 [(0, .c qT34), (1, .r (pw ((1 : Nat) < (2 : Nat) ∧ (0 : Nat) + (2 : Nat) ≤ (2 : Nat)) (400025 : Nat) (yyT34)))] ⟨qT34_, oM, tI⟩ ?_; refine aops_nil ⟨kR, ?_⟩; refine xb_n ?_; refine xt_n (hK _ ?_); clear hK K; refine wR 15 ?_; refine aX hTT 3 [(1, .i ((1 : Int) + (1 : Int)))] ⟨oM, tI⟩ ?_; refine aops_nil (xt_n (hK _ ?_)); clear hK K
 refine awr_succ (m := 0) fun K hK => ?_
 refine aw_seq_k fun K hK => ?_; refine aw_seq_k fun K hK => wR 16 ?_; refine aX hTT 4 [(2, .c qT32)] ⟨qT32_, tI⟩ ?_; refine aops_nil (xt_n (hK _ ?_)); clear hK K; refine w_false (t := false) kR rfl ?_
 refine aw_exit ?_
 refine xt_x ?_; refine xt_x ?_
 refine xb_same ?_
 refine xb_n ?_; refine xt_n ?_; clear hK K; clear hK K; refine hK _ ?_; clear hK K; refine wR 17 ?_; refine aX hTT 2 [(0, .i ((0 : Int) + (1 : Int)))] ⟨oM, tI⟩ ?_; refine aops_nil (xt_n (hK _ ?_)); clear hK K
 refine awr_succ (m := 1) fun K hK => ?_
 refine aw_seq_k fun K hK => wR 18 ?_; refine aX hTT 1 [] tI ?_; refine aops_nil (xt_n (hK _ ?_)); clear hK K; refine aw_seq_k fun K hK => ?_; refine w_false (t := false) kR rfl ?_
 refine aw_exit ?_
 refine xt_x ?_; refine xt_x ?_
 refine xb_same ?_
 refine xt_n ?_; clear hK K; clear hK K; refine hK _ ?_; clear hK K; refine aw_seq_k fun K hK => ?_; refine aw_seq_k fun K hK => ?_
 refine w_le (s' := ⟨mkT [(8, .own 8)], mkS [(8, .row 55 2 2 rR)], 1⟩) ?_ ?_
 ·
  refine le_ren (tl := [(8, V.own 8)]) (sl := [(8, Ob.row 55 2 2 rR)]) [(8, 400025)] (.cons kR .nil) (.cons ⟨yyT34, kR, .row kR ?_⟩ .nil) kR kR
  intro i hi
  rcases (by omega : i = 0 ∨ i = 1) with rfl | rfl <;> rfl
 refine wR 2 ?_; refine aX hTT 1 [] tI ?_
 refine aops_callR [8] (first := []) (caps := []) (ins' := [Ob.row 55 2 2 rR]) (v' := V.i 0) (δ := []) (kp := [8]) (tCheckR) kR kR kR kR kR kR kR rfl kR kR ⟨(fun _ _ => rfl), tI⟩ kR kR kR ?_
 refine aX hTT 1 [] tI ?_; refine aops_nil (xt_n (hK _ ?_)); clear hK K; refine w_false (t := false) kR rfl ?_
 refine aw_skip ?_
 refine xt_n (hK _ ?_); clear hK K; refine aw_seq_k fun K hK => wR 3 ?_; refine aX hTT 3 [] tI ?_; refine aops_nil (xt_n (hK _ ?_)); clear hK K
 refine aw_ret ?_
 refine ret_own [(0, 8)] [(4, V.own 0), (5, V.i 0)] (.inr rfl) (.cons kR (.cons kR .nil)) (.cons ⟨Ob.row 55 2 2 rR, kR, .row kR ?_⟩ .nil) kR kR kR kR
 intro i hi
 rcases (by omega : i = 0 ∨ i = 1) with rfl | rfl <;> rfl
theorem Render1_ac : AC Tryz.prog 17 [tksV, ptsV] (.tup [V.pts [(5, -5), (2, 0)], .i 0]) [] := AC.shut1 Render0_ac rfl (fun i _ => rfl) (fun _ => rfl) rfl rfl
end Go.Proofs.YtplnhbenmgclfaaGreatDoor

namespace Go.Proofs.YtplnhbenmgclfaaGreatDoor
open Go.Ab Go.RowKit Go.Dw Go.Shelf
theorem exAp_ac : AC Tryz.prog 86 [V.cv ⟨[64], [128], 256⟩, V.ints [100, 0, 0, -3]] (.tup [V.ints [100, 75, 37, 15], .i 0]) [] := by
 have A := Apply_ac ⟨[64], [128], 256⟩ [100, 0, 0, -3] ⟨by decide, by decide⟩ (by decide)
 rw [show apR ⟨[64], [128], 256⟩ false [100, 0, 0, -3] = (0, [100, 75, 37, 15]) by decide +kernel] at A
 exact A
set_option maxRecDepth 100000 in
theorem works03_ac : AC Tryz.prog 36 [] (.b true) [] := by
 refine acI hTT hMX Tryz.func36 Tryz.ntmps36 fun C hC hF => ?_
 refine aw_seq_k fun K hK => wR 2 ?_; refine aX hTT 1 [] tI ?_; refine aops_nil (xt_n (hK _ ?_)); clear hK K; refine aw_seq_k fun K hK => wR 3 ?_; refine aX hTT 3 [(1, .r (pn 1 (V.ref 200001 0) (200001 : Nat) (Ob.box 24 [V.i 0, V.i 0, V.i 0, V.i 0, V.i 0, V.i 0, V.i 0]))), (2, .r (pw ((0 : Nat) + (7 : Nat) ≤ (7 : Nat)) (200001 : Nat) (Ob.box 24 [V.i 400, V.i 2000, V.i 200, V.i 2000, V.i 1000, V.i 1000, V.i 100])))] ⟨oM, tI⟩ ?_; refine aops_nil (xt_n (hK _ ?_)); clear hK K; refine aw_seq_k fun K hK => wR 4 ?_; refine aX hTT 5 [(0, .c ((0 : Nat) ≤ (7 : Nat)))] ⟨oM, tI⟩ ?_
 refine eC (AC.conv (exCut_ac) (args' := [V.agg [V.i 400, V.i 2000, V.i 200, V.i 2000, V.i 1000, V.i 1000, V.i 100], V.sl 2 3 fun (i : Nat) => List.take (2 : Nat) (List.drop (i * (2 : Nat)) [V.i 0, V.i 0, V.i 100, V.i 100, V.i 0, V.i 0])]) ⟨RImp.refl _, ?_, trivial⟩) ?_
 ·
  exact gLit3 rfl rfl rfl
 refine aX hTT 5 [] tI ?_; refine aops_nil (xt_n (hK _ ?_)); clear hK K; refine aw_seq_k fun K hK => wR 5 ?_; refine aX hTT 2 [(0, .c ((0 : Nat) ≤ (7 : Nat)))] ⟨oM, tI⟩ ?_
 refine eC (exL_ac) ?_
 refine aX hTT 5 [] tI ?_; refine aops_nil (xt_n (hK _ ?_)); clear hK K; refine aw_seq_k fun K hK => wR 6 ?_; refine aX hTT 4 [] tI ?_
 refine eC (AC.conv (exAp_ac) (args' := [V.agg [V.sl 1 1 fun (i : Nat) => List.take (1 : Nat) (List.drop (i * (1 : Nat)) [V.i 64]), V.sl 1 1 fun (i : Nat) => List.take (1 : Nat) (List.drop (i * (1 : Nat)) [V.i 128]), V.i 256], V.sl 1 4 fun (i : Nat) => List.take (1 : Nat) (List.drop (i * (1 : Nat)) [V.i 100, V.i 0, V.i 0, V.i (-3)])]) ⟨?_, ?_, trivial⟩) ?_
 ·
  exact RImp.agg ⟨RImp.lit1 [64], RImp.lit1 [128], RImp.refl _, trivial⟩
 ·
  exact RImp.lit1 [100, 0, 0, -3]
 refine aX hTT 5 [] tI ?_; refine aops_nil (xt_n (hK _ ?_)); clear hK K; refine aw_seq_k fun K hK => wR 7 ?_; refine aX hTT 7 [] tI ?_
 refine eC (AC.conv (Render1_ac) (args' := [V.sl 2 1 fun (i : Nat) => List.take (2 : Nat) (List.drop (i * (2 : Nat)) [V.c (Value.string (ByteArray.mk #[(97 : UInt8)])), V.sl 2 2 fun (i : Nat) => List.take (2 : Nat) (List.drop (i * (2 : Nat)) [V.i 10, V.i (-10), V.i 5, V.i 0])]), V.sl 7 1 fun (i : Nat) => List.take (7 : Nat) (List.drop (i * (7 : Nat)) [V.i 0, V.i 0, V.i 2, V.i 0, V.i 0, V.i 0, V.i 500])]) ⟨?_, ?_, trivial⟩) ?_
 ·
  exact RImp.rows rfl fun i hi => by
   have hi : i < 1 := hi
   obtain rfl : i = 0 := by omega
   rfl
 ·
  exact RImp.rows rfl fun i hi => by
   have hi : i < 1 := hi
   obtain rfl : i = 0 := by omega
   rfl
 refine aX hTT 5 [] tI ?_; refine aops_nil (xt_n (hK _ ?_)); clear hK K; refine aw_seq_k fun K hK => wR 8 ?_; refine aX hTT 54 ((3, .c (gA (true == true) True)) :: (4, .c (gD (true == true) True)) :: (5, .c ((true = true → (true == true) = true) ∧ True)) :: (7, .c (gA (true == true) True)) :: (8, .c (gD (true == true) True)) :: (9, .c ((true = true → (true == true) = true) ∧ True)) :: (11, .c (gA (true == true) True)) :: (12, .c (gD (true == true) True)) :: (13, .c ((true = true → (true == true) = true) ∧ True)) :: (15, .c (gA (true == true) True)) :: (16, .c (gB (true == true) True)) :: (17, .c (gD (true == true) True)) :: (18, .c ((true = true → (true == true) = true) ∧ True)) :: (20, .c (gA (true == true) True)) :: (21, .c (gD (true == true) ((0 : Int) ≤ (1 : Int) ∧ (1 : Int) < (↑(3 : Nat) : Int)))) :: (22, .c (gB (true == true) True)) :: (23, .c ((True ∧ True ∧ True) ∧ ((true == true) = true → True))) :: (24, .c (gC (true == true) True)) :: (25, .c ((true = true → (true == true) = true) ∧ True)) :: (27, .c (gA (true == true) True)) :: (28, .c (gD (true == true) True)) :: (29, .c ((true = true → (true == true) = true) ∧ True)) :: (31, .c (gA (true == true) True)) :: (32, .c (gB (true == true) True)) :: (33, .c (gD (true == true) True)) :: (34, .c ((true = true → (true == true) = true) ∧ True)) :: (36, .c (gA (true == true) True)) :: (37, .c (gD (true == true) ((0 : Int) ≤ (1 : Int) ∧ (1 : Int) < (↑(4 : Nat) : Int)))) :: (38, .c (gB (true == true) True)) :: (39, .c (gD (true == true) True)) :: (40, .c ((true = true → (true == true) = true) ∧ True)) :: (42, .c (gA (true == true) True)) :: (43, .c (gB (true == true) True)) :: (44, .c (gD (true == true) True)) :: (45, .c ((true = true → (true == true) = true) ∧ True)) :: (47, .c (gA (true == true) True)) :: (48, .c (gD (true == true) ((0 : Int) ≤ (0 : Int) ∧ (0 : Int) < (↑(2 : Nat) : Int)))) :: (49, .c (gB (true == true) True)) :: (50, .c ((True ∧ True ∧ True) ∧ ((true == true) = true → True))) :: (51, .c (gC (true == true) True)) :: (52, .c ((true = true → (true == true) = true) ∧ True)) :: []) ⟨⟨⟨tI, tI⟩, (fun _ => tI)⟩, ⟨⟨(by (exact fun h => h)), ⟨tI, tI⟩⟩, (fun _ => tI)⟩, ⟨(by (exact fun h => h)), tI⟩, ⟨⟨tI, tI⟩, (fun _ => tI)⟩, ⟨⟨(by (exact fun h => h)), ⟨tI, tI⟩⟩, (fun _ => tI)⟩, ⟨(by (exact fun h => h)), tI⟩, ⟨⟨tI, tI⟩, (fun _ => tI)⟩, ⟨⟨(by (exact fun h => h)), ⟨tI, tI⟩⟩, (fun _ => tI)⟩, ⟨(by (exact fun h => h)), tI⟩, ⟨⟨tI, tI⟩, (fun _ => tI)⟩, ⟨⟨(by (exact fun h => h)), tI⟩, (fun _ => tI)⟩, ⟨⟨(by (exact fun h => h)), ⟨tI, tI⟩⟩, (fun _ => tI)⟩, ⟨(by (exact fun h => h)), tI⟩, ⟨⟨tI, tI⟩, (fun _ => tI)⟩, ⟨⟨(by (exact fun h => h)), ⟨tI, tI⟩⟩, (by (intro _; simp; done))⟩, ⟨⟨(by (exact fun h => h)), tI⟩, (fun _ => tI)⟩, ⟨⟨tI, ⟨tI, tI⟩⟩, (fun _ => tI)⟩, ⟨⟨(by (exact fun h => h)), ⟨(by (exact fun h => h)), tI⟩⟩, (fun _ => tI)⟩, ⟨(by (exact fun h => h)), tI⟩, ⟨⟨tI, tI⟩, (fun _ => tI)⟩, ⟨⟨(by (exact fun h => h)), ⟨tI, tI⟩⟩, (fun _ => tI)⟩, ⟨(by (exact fun h => h)), tI⟩, ⟨⟨tI, tI⟩, (fun _ => tI)⟩, ⟨⟨(by (exact fun h => h)), tI⟩, (fun _ => tI)⟩, ⟨⟨(by (exact fun h => h)), ⟨tI, tI⟩⟩, (fun _ => tI)⟩, ⟨(by (exact fun h => h)), tI⟩, ⟨⟨tI, tI⟩, (fun _ => tI)⟩, ⟨⟨(by (exact fun h => h)), ⟨tI, tI⟩⟩, (by (intro _; simp; done))⟩, ⟨⟨(by (exact fun h => h)), tI⟩, (fun _ => tI)⟩, ⟨⟨(by (exact fun h => h)), ⟨tI, tI⟩⟩, (fun _ => tI)⟩, ⟨(by (exact fun h => h)), tI⟩, ⟨⟨tI, tI⟩, (fun _ => tI)⟩, ⟨⟨(by (exact fun h => h)), tI⟩, (fun _ => tI)⟩, ⟨⟨(by (exact fun h => h)), ⟨tI, tI⟩⟩, (fun _ => tI)⟩, ⟨(by (exact fun h => h)), tI⟩, ⟨⟨tI, tI⟩, (fun _ => tI)⟩, ⟨⟨(by (exact fun h => h)), ⟨tI, tI⟩⟩, (by (intro _; simp; done))⟩, ⟨⟨(by (exact fun h => h)), tI⟩, (fun _ => tI)⟩, ⟨⟨tI, ⟨tI, tI⟩⟩, (fun _ => tI)⟩, ⟨⟨(by (exact fun h => h)), ⟨(by (exact fun h => h)), tI⟩⟩, (fun _ => tI)⟩, ⟨(by (exact fun h => h)), tI⟩, tI⟩ ?_; refine aops_nil (xt_n (hK _ ?_)); clear hK K
 refine aw_ret ?_
 refine rP (V.b true)
end Go.Proofs.YtplnhbenmgclfaaGreatDoor

namespace Go.Proofs.YtplnhbenmgclfaaGreatDoor
open Go.Ab Go.RowKit Go.Dw Go.Shelf
def nF : ByteArray := ⟨#[102]⟩
set_option maxRecDepth 100000 in
theorem sdOutside_ac (n lo hi : Int) : AC Tryz.prog 148 [.i n, .i lo, .i hi] (.b (decide (n < lo) || decide (hi < n))) [] := by
 refine acI hTT hMX Tryz.func148 Tryz.ntmps148 fun C hC hF => ?_
 refine aw_seq_k fun K hK => wR 2 ?_; refine aX hTT 1 [] tI ?_; refine aops_nil (xt_n (hK _ ?_)); clear hK K; refine aw_seq_k fun K hK => wR 3 ?_; refine aX hTT 9 [(4, .c (gA (decide (n < lo) == false) True)), (5, .c (gA (decide (n < lo) == false) True)), (6, .c (gC (decide (n < lo) == false) True)), (7, .c (True ∧ (decide (n < lo) = false → (decide (n < lo) == false) = true)))] ⟨⟨⟨tI, tI⟩, (fun _ => tI)⟩, ⟨⟨tI, tI⟩, (fun _ => tI)⟩, ⟨⟨(by (exact fun h => h)), ⟨(by (exact fun h => h)), tI⟩⟩, (fun _ => tI)⟩, ⟨tI, (by (intro h; rw [h]; rfl))⟩, tI⟩ ?_; refine aops_nil (xt_n (hK _ ?_)); clear hK K
 refine aw_ret ?_
 refine rP (V.b (decide (n < lo) || decide (hi < n)))
set_option maxRecDepth 100000 in
theorem sIsName_ac : AC Tryz.prog 147 [.c (.string nF)] (.b true) [] := by
 refine acI hTT hMX Tryz.func147 Tryz.ntmps147 fun C hC hF => ?_
 refine aw_seq_k fun K hK => wR 2 ?_; refine aX hTT 1 [] tI ?_; refine aops_nil (xt_n (hK _ ?_)); clear hK K; refine aw_seq_k fun K hK => ?_; refine aw_seq_k fun K hK => wR 3 ?_; refine aX hTT 4 [] tI ?_; refine aops_nil (xt_n (hK _ ?_)); clear hK K
 refine aw_block ?_
 refine aw_rounds 3 ?_
 refine awr_succ (m := 2) fun K hK => ?_
 refine aw_seq_k fun K hK => wR 4 ?_; refine aX hTT 1 [] tI ?_; refine aops_nil (xt_n (hK _ ?_)); clear hK K; refine aw_seq_k fun K hK => ?_; refine w_true (t := true) kR rfl ?_
 refine aw_skip ?_
 refine xt_n (hK _ ?_); clear hK K; refine aw_seq_k fun K hK => ?_
 refine aw_block ?_
 refine aw_seq_k fun K hK => wR 5 ?_; refine aX hTT 3 [(0, .c ((0 : Int) ≤ (0 : Int) ∧ (0 : Int) < (↑(1 : Nat) : Int)))] ⟨oM, tI⟩ ?_; refine aops_nil (xt_n (hK _ ?_)); clear hK K; refine aw_seq_k fun K hK => wR 6 ?_; refine aX hTT 14 [(3, .c (gA (false == false) True)), (4, .c (gD (false == false) True)), (5, .c (True ∧ (false = false → (false == false) = true))), (7, .c (gA (false == true) True)), (8, .c (gD (false == true) True)), (9, .c (gB (false == true) True)), (10, .c (gA (false == true && false == false) True)), (11, .c (gD (false == true && false == false) True)), (12, .c (((false == true) = true → (false == true) = true) ∧ ((false == true) = true → True) ∧ ((false == true) = true → false = false → (false == true && false == false) = true))), (13, .c ((false = true → (false == true) = true) ∧ True))] ⟨⟨⟨tI, tI⟩, (fun _ => tI)⟩, ⟨⟨(by (exact fun h => h)), ⟨tI, tI⟩⟩, (fun _ => tI)⟩, ⟨tI, (by (intro h; rw [h]; rfl))⟩, ⟨⟨tI, tI⟩, (fun _ => tI)⟩, ⟨⟨(by (exact fun h => h)), ⟨tI, tI⟩⟩, (fun _ => tI)⟩, ⟨⟨(by (exact fun h => h)), tI⟩, (fun _ => tI)⟩, ⟨⟨tI, tI⟩, (fun _ => tI)⟩, ⟨⟨(by (exact fun h => h)), ⟨tI, tI⟩⟩, (fun _ => tI)⟩, ⟨(by (exact fun h => h)), ⟨(fun _ => tI), (by (intro h; simp at h; done))⟩⟩, ⟨(by (exact fun h => h)), tI⟩, tI⟩ ?_; refine aops_nil (xt_n (hK _ ?_)); clear hK K; refine w_false (t := false) kR rfl ?_
 refine aw_skip ?_
 refine xb_n ?_; refine xt_n (hK _ ?_); clear hK K; refine wR 7 ?_; refine aX hTT 2 [(0, .i ((0 : Int) + (1 : Int)))] ⟨oM, tI⟩ ?_; refine aops_nil (xt_n (hK _ ?_)); clear hK K
 refine awr_succ (m := 1) fun K hK => ?_
 refine aw_seq_k fun K hK => wR 8 ?_; refine aX hTT 1 [] tI ?_; refine aops_nil (xt_n (hK _ ?_)); clear hK K; refine aw_seq_k fun K hK => ?_; refine w_false (t := false) kR rfl ?_
 refine aw_exit ?_
 refine xt_x ?_; refine xt_x ?_
 refine xb_same ?_
 refine xt_n ?_; clear hK K; clear hK K; refine hK _ ?_; clear hK K; refine aw_seq_k fun K hK => wR 9 ?_; refine aX hTT 8 [(3, .c (gA (true == true) True)), (4, .c (gB (true == true) True)), (5, .c (gD (true == true) True)), (6, .c ((true = true → (true == true) = true) ∧ True))] ⟨⟨⟨tI, tI⟩, (fun _ => tI)⟩, ⟨⟨(by (exact fun h => h)), tI⟩, (fun _ => tI)⟩, ⟨⟨(by (exact fun h => h)), ⟨tI, tI⟩⟩, (fun _ => tI)⟩, ⟨(by (exact fun h => h)), tI⟩, tI⟩ ?_; refine aops_nil (xt_n (hK _ ?_)); clear hK K
 refine aw_ret ?_
 refine rP (V.b true)
def trk (l : List (Int × Int × Int)) : V := .sl 3 l.length fun i => [.i (l.getD i (0, 0, 0)).1, .i (l.getD i (0, 0, 0)).2.1, .i (l.getD i (0, 0, 0)).2.2]
end Go.Proofs.YtplnhbenmgclfaaGreatDoor

namespace Go.Proofs.YtplnhbenmgclfaaGreatDoor
open Go.Ab Go.RowKit Go.Dw Go.Shelf
def fmt5 : List V := [.c (.string nF), .i 1000, .i 400, .i 10, .i 0, .i 0, .i 0, .i 0]
set_option maxRecDepth 100000 in
theorem CheckFormat5_ac : AC Tryz.prog 116 [.agg fmt5] (.i 0) [] := by
 refine acI hTT hMX Tryz.func116 Tryz.ntmps116 fun C hC hF => ?_
 refine aw_seq_k fun K hK => wR 2 ?_; refine aX hTT 2 [] tI ?_; refine aops_nil (xt_n (hK _ ?_)); clear hK K; refine aw_seq_k fun K hK => wR 3 ?_; refine aX hTT 2 [] tI ?_
 refine eC (sIsName_ac) ?_
 refine aX hTT 4 [(2, .c (gA (false == false) True)), (3, .c (gB (false == false) True))] ⟨⟨⟨tI, tI⟩, (fun _ => tI)⟩, ⟨⟨(by (exact fun h => h)), tI⟩, (fun _ => tI)⟩, tI⟩ ?_
 refine eG 1 (g := false == false) (fun _ => sdOutside_ac 1000 1 4194304) ?_
 refine aX hTT 7 [(0, .c (True ∧ (false = false → (false == false) = true))), (2, .c (gA (false == false) True)), (3, .c (gB (false == false) True)), (4, .c (gA (false == false) True)), (5, .c (gB (false == false) True)), (6, .c (gD (false == false) ((-9223372036854775808 : Int) ≤ (1000 : Int) - (1 : Int) ∧ (1000 : Int) - (1 : Int) ≤ (9223372036854775807 : Int))))] ⟨⟨tI, (by (intro h; rw [h]; rfl))⟩, ⟨⟨tI, tI⟩, (fun _ => tI)⟩, ⟨⟨(by (exact fun h => h)), tI⟩, (fun _ => tI)⟩, ⟨⟨tI, tI⟩, (fun _ => tI)⟩, ⟨⟨(by (exact fun h => h)), tI⟩, (fun _ => tI)⟩, ⟨⟨(by (exact fun h => h)), ⟨tI, tI⟩⟩, (by (intro _; simp; done))⟩, tI⟩ ?_
 refine eG 2 (g := false == false) (fun _ => sdOutside_ac 400 0 999) ?_
 refine aX hTT 4 [(0, .c (True ∧ (false = false → (false == false) = true))), (2, .c (gA (false == false) True)), (3, .c (gB (false == false) True))] ⟨⟨tI, (by (intro h; rw [h]; rfl))⟩, ⟨⟨tI, tI⟩, (fun _ => tI)⟩, ⟨⟨(by (exact fun h => h)), tI⟩, (fun _ => tI)⟩, tI⟩ ?_
 refine eG 1 (g := false == false) (fun _ => sdOutside_ac 10 1 65536) ?_
 refine aX hTT 4 [(0, .c (True ∧ (false = false → (false == false) = true))), (2, .c (gA (false == false) True)), (3, .c (gB (false == false) True))] ⟨⟨tI, (by (intro h; rw [h]; rfl))⟩, ⟨⟨tI, tI⟩, (fun _ => tI)⟩, ⟨⟨(by (exact fun h => h)), tI⟩, (fun _ => tI)⟩, tI⟩ ?_
 refine eG 1 (g := false == false) (fun _ => sdOutside_ac 0 0 1048576) ?_
 refine aX hTT 2 [(0, .c (True ∧ (false = false → (false == false) = true)))] ⟨⟨tI, (by (intro h; rw [h]; rfl))⟩, tI⟩ ?_; refine aops_nil (xt_n (hK _ ?_)); clear hK K; refine aw_seq_k fun K hK => ?_; refine aw_seq_k fun K hK => wR 4 ?_; refine aX hTT 8 [] tI ?_; refine aops_nil (xt_n (hK _ ?_)); clear hK K
 refine aw_block ?_
 refine aw_rounds 4 ?_
 refine awr_succ (m := 3) fun K hK => ?_
 refine aw_seq_k fun K hK => wR 5 ?_; refine aX hTT 1 [] tI ?_; refine aops_nil (xt_n (hK _ ?_)); clear hK K; refine aw_seq_k fun K hK => ?_; refine w_true (t := true) kR rfl ?_
 refine aw_skip ?_
 refine xt_n (hK _ ?_); clear hK K; refine aw_seq_k fun K hK => ?_
 refine aw_block ?_
 refine aw_seq_k fun K hK => wR 6 ?_; refine aX hTT 2 [(0, .c ((0 : Int) ≤ (0 : Int) ∧ (0 : Int) < (↑(3 : Nat) : Int)))] ⟨oM, tI⟩ ?_; refine aops_nil (xt_n (hK _ ?_)); clear hK K; refine wR 7 ?_; refine aX hTT 3 [(2, .c (gA (false == false) True))] ⟨⟨⟨tI, tI⟩, (fun _ => tI)⟩, tI⟩ ?_
 refine eG 1 (g := false == false) (fun _ => sdOutside_ac 0 0 4194304) ?_
 refine aX hTT 2 [(0, .c (True ∧ (false = false → (false == false) = true)))] ⟨⟨tI, (by (intro h; rw [h]; rfl))⟩, tI⟩ ?_; refine aops_nil ?_; refine xb_n ?_; refine xt_n (hK _ ?_); clear hK K; refine wR 8 ?_; refine aX hTT 2 [(0, .i ((0 : Int) + (1 : Int)))] ⟨oM, tI⟩ ?_; refine aops_nil (xt_n (hK _ ?_)); clear hK K
 refine awr_succ (m := 2) fun K hK => ?_
 refine aw_seq_k fun K hK => wR 9 ?_; refine aX hTT 1 [] tI ?_; refine aops_nil (xt_n (hK _ ?_)); clear hK K; refine aw_seq_k fun K hK => ?_; refine w_true (t := true) kR rfl ?_
 refine aw_skip ?_
 refine xt_n (hK _ ?_); clear hK K; refine aw_seq_k fun K hK => ?_
 refine aw_block ?_
 refine aw_seq_k fun K hK => wR 10 ?_; refine aX hTT 2 [(0, .c ((0 : Int) ≤ (1 : Int) ∧ (1 : Int) < (↑(3 : Nat) : Int)))] ⟨oM, tI⟩ ?_; refine aops_nil (xt_n (hK _ ?_)); clear hK K; refine wR 11 ?_; refine aX hTT 3 [(2, .c (gA (false == false) True))] ⟨⟨⟨tI, tI⟩, (fun _ => tI)⟩, tI⟩ ?_
 refine eG 1 (g := false == false) (fun _ => sdOutside_ac 0 0 4194304) ?_
 refine aX hTT 2 [(0, .c (True ∧ (false = false → (false == false) = true)))] ⟨⟨tI, (by (intro h; rw [h]; rfl))⟩, tI⟩ ?_; refine aops_nil ?_; refine xb_n ?_; refine xt_n (hK _ ?_); clear hK K; refine wR 12 ?_; refine aX hTT 2 [(0, .i ((1 : Int) + (1 : Int)))] ⟨oM, tI⟩ ?_; refine aops_nil (xt_n (hK _ ?_)); clear hK K
 refine awr_succ (m := 1) fun K hK => ?_
 refine aw_seq_k fun K hK => wR 13 ?_; refine aX hTT 1 [] tI ?_; refine aops_nil (xt_n (hK _ ?_)); clear hK K; refine aw_seq_k fun K hK => ?_; refine w_true (t := true) kR rfl ?_
 refine aw_skip ?_
 refine xt_n (hK _ ?_); clear hK K; refine aw_seq_k fun K hK => ?_
 refine aw_block ?_
 refine aw_seq_k fun K hK => wR 14 ?_; refine aX hTT 2 [(0, .c ((0 : Int) ≤ (2 : Int) ∧ (2 : Int) < (↑(3 : Nat) : Int)))] ⟨oM, tI⟩ ?_; refine aops_nil (xt_n (hK _ ?_)); clear hK K; refine wR 15 ?_; refine aX hTT 3 [(2, .c (gA (false == false) True))] ⟨⟨⟨tI, tI⟩, (fun _ => tI)⟩, tI⟩ ?_
 refine eG 1 (g := false == false) (fun _ => sdOutside_ac 0 0 4194304) ?_
 refine aX hTT 2 [(0, .c (True ∧ (false = false → (false == false) = true)))] ⟨⟨tI, (by (intro h; rw [h]; rfl))⟩, tI⟩ ?_; refine aops_nil ?_; refine xb_n ?_; refine xt_n (hK _ ?_); clear hK K; refine wR 16 ?_; refine aX hTT 2 [(0, .i ((2 : Int) + (1 : Int)))] ⟨oM, tI⟩ ?_; refine aops_nil (xt_n (hK _ ?_)); clear hK K
 refine awr_succ (m := 0) fun K hK => ?_
 refine aw_seq_k fun K hK => wR 17 ?_; refine aX hTT 1 [] tI ?_; refine aops_nil (xt_n (hK _ ?_)); clear hK K; refine aw_seq_k fun K hK => ?_; refine w_false (t := false) kR rfl ?_
 refine aw_exit ?_
 refine xt_x ?_; refine xt_x ?_
 refine xb_same ?_
 refine xt_n ?_; clear hK K; clear hK K; refine hK _ ?_; clear hK K; refine aw_seq_k fun K hK => ?_; refine aw_seq_k fun K hK => wR 18 ?_; refine aX hTT 1 [] tI ?_; refine aops_nil (xt_n (hK _ ?_)); clear hK K; refine w_false (t := false) kR rfl ?_
 refine aw_skip ?_
 refine xt_n (hK _ ?_); clear hK K; refine aw_seq_k fun K hK => wR 19 ?_; refine aX hTT 1 [] tI ?_; refine aops_nil (xt_n (hK _ ?_)); clear hK K
 refine aw_ret ?_
 refine rP (V.i 0)
set_option maxRecDepth 100000 in
theorem CheckTracks5_ac : AC Tryz.prog 117 [trk [(95, 20, 0)]] (.i 0) [] := by
 refine acI hTT hMX Tryz.func117 Tryz.ntmps117 fun C hC hF => ?_
 refine aw_seq_k fun K hK => wR 2 ?_; refine aX hTT 1 [] tI ?_; refine aops_nil (xt_n (hK _ ?_)); clear hK K; refine aw_seq_k fun K hK => ?_; refine aw_seq_k fun K hK => wR 3 ?_; refine aX hTT 3 [] tI ?_; refine aops_nil (xt_n (hK _ ?_)); clear hK K; refine w_false (t := false) kR rfl ?_
 refine aw_skip ?_
 refine xt_n (hK _ ?_); clear hK K; refine aw_seq_k fun K hK => ?_; refine aw_seq_k fun K hK => wR 4 ?_; refine aX hTT 3 [] tI ?_; refine aops_nil (xt_n (hK _ ?_)); clear hK K
 refine aw_block ?_
 refine aw_rounds 4 ?_
 refine awr_succ (m := 3) fun K hK => ?_
 refine aw_seq_k fun K hK => wR 5 ?_; refine aX hTT 1 [] tI ?_; refine aops_nil (xt_n (hK _ ?_)); clear hK K; refine aw_seq_k fun K hK => ?_; refine w_true (t := true) kR rfl ?_
 refine aw_skip ?_
 refine xt_n (hK _ ?_); clear hK K; refine aw_seq_k fun K hK => ?_
 refine aw_block ?_
 refine aw_seq_k fun K hK => wR 6 ?_; refine aX hTT 4 [(0, .c ((0 : Int) ≤ (0 : Int) ∧ (0 : Int) < (↑(1 : Nat) : Int))), (2, .r (pn 4 (V.ref 500004 0) (500004 : Nat) (Ob.box 70 [V.i 0, V.i 0, V.i 0]))), (3, .r (pw ((0 : Nat) + (3 : Nat) ≤ (3 : Nat)) (500004 : Nat) (Ob.box 70 [V.i 95, V.i 20, V.i 0])))] ⟨oM, oM, tI⟩ ?_; refine aops_nil (xt_n (hK _ ?_)); clear hK K; refine aw_seq_k fun K hK => wR 7 ?_; refine aX hTT 2 [(1, .c ((0 : Nat) ≤ (3 : Nat)))] ⟨oM, tI⟩ ?_
 refine eC (sdOutside_ac 95 1 16777216) ?_
 refine aX hTT 3 [(1, .c (gA (false == false) True)), (2, .c (gB (false == false) ((1 : Nat) ≤ (3 : Nat))))] ⟨⟨⟨tI, tI⟩, (fun _ => tI)⟩, ⟨⟨(by (exact fun h => h)), tI⟩, (by (intro _; simp; done))⟩, tI⟩ ?_
 refine eG 1 (g := false == false) (fun _ => sdOutside_ac 20 1 4096) ?_
 refine aX hTT 4 [(0, .c (True ∧ (false = false → (false == false) = true))), (2, .c (gA (false == false) True)), (3, .c (gB (false == false) ((2 : Nat) ≤ (3 : Nat))))] ⟨⟨tI, (by (intro h; rw [h]; rfl))⟩, ⟨⟨tI, tI⟩, (fun _ => tI)⟩, ⟨⟨(by (exact fun h => h)), tI⟩, (by (intro _; simp; done))⟩, tI⟩ ?_
 refine eG 1 (g := false == false) (fun _ => sdOutside_ac 0 0 4194304) ?_
 refine aX hTT 1 [(0, .c (True ∧ (false = false → (false == false) = true)))] ⟨⟨tI, (by (intro h; rw [h]; rfl))⟩, tI⟩ ?_; refine aops_nil (xt_n (hK _ ?_)); clear hK K; refine w_false (t := false) kR rfl ?_
 refine aw_skip ?_
 refine xb_n ?_; refine xt_n (hK _ ?_); clear hK K; refine wR 8 ?_; refine aX hTT 2 [(0, .i ((0 : Int) + (1 : Int)))] ⟨oM, tI⟩ ?_; refine aops_nil (xt_n (hK _ ?_)); clear hK K
 refine awr_succ (m := 2) fun K hK => ?_
 refine aw_seq_k fun K hK => wR 9 ?_; refine aX hTT 1 [] tI ?_; refine aops_nil (xt_n (hK _ ?_)); clear hK K; refine aw_seq_k fun K hK => ?_; refine w_false (t := false) kR rfl ?_
 refine aw_exit ?_
 refine xt_x ?_; refine xt_x ?_
 refine xb_same ?_
 refine xt_n ?_; clear hK K; clear hK K; refine hK _ ?_; clear hK K; refine aw_seq_k fun K hK => wR 10 ?_; refine aX hTT 1 [] tI ?_; refine aops_nil (xt_n (hK _ ?_)); clear hK K
 refine aw_ret ?_
 refine rP (V.i 0)
set_option maxRecDepth 100000 in
theorem open5_ac : AC Tryz.prog 71 [.agg fmt5, trk [(95, 20, 0)]] (.tup [.ptr (fmt5 ++ [trk [(95, 20, 0)]]), .i 0]) [] := by
 refine acI hTT hMX Tryz.func71 Tryz.ntmps71 fun C hC hF => ?_
 refine aw_seq_k fun K hK => wR 2 ?_; refine aX hTT 3 [] tI ?_; refine aops_nil (xt_n (hK _ ?_)); clear hK K; refine aw_seq_k fun K hK => ?_; refine aw_seq_k fun K hK => wR 3 ?_; refine aX hTT 1 [] tI ?_
 refine eC (CheckFormat5_ac) ?_
 refine aX hTT 1 [] tI ?_; refine aops_nil (xt_n (hK _ ?_)); clear hK K; refine aw_seq_k fun K hK => wR 4 ?_; refine aX hTT 2 [] tI ?_; refine aops_nil (xt_n (hK _ ?_)); clear hK K; refine w_false (t := false) kR rfl ?_
 refine aw_skip ?_
 refine xt_n (hK _ ?_); clear hK K; refine aw_seq_k fun K hK => ?_; refine aw_seq_k fun K hK => wR 5 ?_; refine aX hTT 1 [] tI ?_
 refine eC (CheckTracks5_ac) ?_
 refine aX hTT 1 [] tI ?_; refine aops_nil (xt_n (hK _ ?_)); clear hK K; refine aw_seq_k fun K hK => wR 6 ?_; refine aX hTT 2 [] tI ?_; refine aops_nil (xt_n (hK _ ?_)); clear hK K; refine w_false (t := false) kR rfl ?_
 refine aw_skip ?_
 refine xt_n (hK _ ?_); clear hK K; refine aw_seq_k fun K hK => wR 7 ?_; refine aX hTT 6 [] tI ?_; refine aops_nil (xt_n (hK _ ?_)); clear hK K
 refine aw_ret ?_
 refine rP (V.tup [V.ptr [V.c (Value.string nF), V.i 1000, V.i 400, V.i 10, V.i 0, V.i 0, V.i 0, V.i 0, V.sl 3 1 fun (i : Nat) => [V.i (Prod.fst (List.getD [((95 : Int), (20 : Int), (0 : Int))] i ((0 : Int), (0 : Int), (0 : Int)))), V.i (Prod.fst (Prod.snd (List.getD [((95 : Int), (20 : Int), (0 : Int))] i ((0 : Int), (0 : Int), (0 : Int))))), V.i (Prod.snd (Prod.snd (List.getD [((95 : Int), (20 : Int), (0 : Int))] i ((0 : Int), (0 : Int), (0 : Int)))))]], V.i 0])
set_option maxRecDepth 100000 in
theorem width5_ac : AC Tryz.prog 85 [.ptr (fmt5 ++ [trk [(95, 20, 0)]]), .agg [.i 95, .i 20, .i 0]] (.i 200) [] := by
 refine acI hTT hMX Tryz.func85 Tryz.ntmps85 fun C hC hF => ?_
 refine aw_seq_k fun K hK => wR 2 ?_; refine aX hTT 2 [] tI ?_; refine aops_nil (xt_n (hK _ ?_)); clear hK K; refine aw_seq_k fun K hK => wD 3 ?_; refine aX hTT 19 [(9, .i ((95 : Int) + (10 : Int))), (10, .i ((105 : Int) - (1 : Int))), (16, .c ((0 : Int) < (10 : Int) ∧ (-9223372036854775808 : Int) ≤ (104 : Int) ∧ (104 : Int) ≤ (9223372036854775807 : Int))), (17, .i ((20 : Int) * (10 : Int)))] ⟨oM, oM, ⟨oM, oM⟩, oM, tI⟩ ?_; refine aops_nil ⟨kR, ?_⟩; refine xt_n (hK _ ?_); clear hK K
 refine aw_ret ?_
 refine rP (V.i 200)
set_option maxRecDepth 100000 in
theorem Width5_ac : AC Tryz.prog 35 [.agg fmt5, .agg [.i 95, .i 20, .i 0]] (.tup [.i 200, .i 0]) [] := by
 refine acI hTT hMX Tryz.func35 Tryz.ntmps35 fun C hC hF => ?_
 refine aw_seq_k fun K hK => wR 2 ?_; refine aX hTT 4 [] tI ?_; refine aops_nil (xt_n (hK _ ?_)); clear hK K; refine aw_seq_k fun K hK => wR 3 ?_; refine aX hTT 3 [] tI ?_
 refine eC (AC.conv (open5_ac) (args' := [V.agg [V.c (Value.string nF), V.i 1000, V.i 400, V.i 10, V.i 0, V.i 0, V.i 0, V.i 0], V.sl 3 1 fun (i : Nat) => List.take (3 : Nat) (List.drop (i * (3 : Nat)) [V.i 95, V.i 20, V.i 0])]) ⟨RImp.refl _, ?_, trivial⟩) ?_
 ·
  exact RImp.rows rfl fun i hi => by
   obtain rfl : i = 0 := by simpa using hi
   rfl
 refine aX hTT 5 [] tI ?_; refine aops_nil (xt_n (hK _ ?_)); clear hK K; refine aw_seq_k fun K hK => ?_; refine aw_seq_k fun K hK => wR 4 ?_; refine aX hTT 2 [] tI ?_; refine aops_nil (xt_n (hK _ ?_)); clear hK K; refine w_false (t := false) kR rfl ?_
 refine aw_skip ?_
 refine xt_n (hK _ ?_); clear hK K; refine aw_seq_k fun K hK => wR 5 ?_; refine aX hTT 2 [] tI ?_
 refine eC (width5_ac) ?_
 refine aX hTT 2 [] tI ?_; refine aops_nil (xt_n (hK _ ?_)); clear hK K
 refine aw_ret ?_
 refine rP (V.tup [V.i 200, V.i 0])
def b5 : Bl := ⟨2, 1000, 100, 10, 1, 100⟩
def l5 : List Pt := [(-20, 20), (-20, 20), (-20, 20), (-20, 50), (-20, 20)]
theorem b5_ok : SOk b5 l5 := ⟨by decide, by decide⟩
theorem lt5 {v : Nat} (h : v < 5) : v = 0 ∨ v = 1 ∨ v = 2 ∨ v = 3 ∨ v = 4 := by omega
theorem o5 : LOut b5 l5 [980, 979, 930, 899, 880] := by
 refine ⟨rfl, ⟨fun v hv => ?_, fun v hv => ?_⟩, fun g hg v hv => ?_⟩
 ·
  rcases lt5 hv with rfl | rfl | rfl | rfl | rfl <;> decide
 ·
  rcases lt5 hv with rfl | rfl | rfl | rfl | rfl <;> decide
 ·
  have g0 := hg 0 (by decide)
  have g1 := hg 1 (by decide)
  have g2 := hg 2 (by decide)
  have g3 := hg 3 (by decide)
  have g4 := hg 4 (by decide)
  simp [gp, l5, b5] at g0 g1 g2 g3 g4
  rcases lt5 hv with rfl | rfl | rfl | rfl | rfl <;> simp [gi] <;> omega
theorem Outer5_ac : AC Tryz.prog 14 [b5.v, V.pts l5] (.tup [V.ints [980, 979, 930, 899, 880], .i 0]) [] := Outer_ok b5 l5 b5_ok o5
abbrev qT70 : Prop := (0 : Nat) ≤ (2 : Nat)
theorem qT70_ : qT70 := oM
set_option maxRecDepth 100000 in
theorem works05_ac : AC Tryz.prog 10 [] (.b true) [] := by
 refine acI hTT hMX Tryz.func10 Tryz.ntmps10 fun C hC hF => ?_
 refine aw_seq_k fun K hK => wR 2 ?_; refine aX hTT 1 [] tI ?_; refine aops_nil (xt_n (hK _ ?_)); clear hK K; refine aw_seq_k fun K hK => wR 3 ?_; refine aX hTT 6 [(2, .r (pn 1 (V.ref 200001 0) (200001 : Nat) (Ob.box 53 [V.i 0, V.i 0]))), (3, .r (pn 2 (V.ref 200002 0) (200002 : Nat) (Ob.box 53 [V.i 0, V.i 0]))), (4, .r (pw ((0 : Nat) + (2 : Nat) ≤ (2 : Nat)) (200001 : Nat) (Ob.box 53 [V.i (-20), V.i 20]))), (5, .r (pw ((0 : Nat) + (2 : Nat) ≤ (2 : Nat)) (200002 : Nat) (Ob.box 53 [V.i (-20), V.i 50])))] ⟨oM, oM, tI⟩ ?_; refine aops_nil (xt_n (hK _ ?_)); clear hK K; refine aw_seq_k fun K hK => wR 4 ?_; refine aX hTT 3 [(1, .r (pn 3 (V.ref 300003 0) (300003 : Nat) (Ob.box 27 [V.i 0, V.i 0, V.i 0, V.i 0, V.i 0, V.i 0]))), (2, .r (pw ((0 : Nat) + (6 : Nat) ≤ (6 : Nat)) (300003 : Nat) (Ob.box 27 [V.i 2, V.i 1000, V.i 100, V.i 10, V.i 1, V.i 100])))] ⟨oM, tI⟩ ?_; refine aops_nil (xt_n (hK _ ?_)); clear hK K; refine aw_seq_k fun K hK => wR 5 ?_; refine aX hTT 7 [(0, .c ((0 : Nat) ≤ (6 : Nat))), (1, .c qT70), (2, .c qT70), (3, .c qT70), (4, .c qT70), (5, .c qT70)] ⟨oM, qT70_, qT70_, qT70_, qT70_, qT70_, tI⟩ ?_
 refine eC (AC.conv (Outer5_ac) (args' := [V.agg [V.i 2, V.i 1000, V.i 100, V.i 10, V.i 1, V.i 100], V.sl 2 5 fun (i : Nat) => List.take (2 : Nat) (List.drop (i * (2 : Nat)) [V.i (-20), V.i 20, V.i (-20), V.i 20, V.i (-20), V.i 20, V.i (-20), V.i 50, V.i (-20), V.i 20])]) ⟨RImp.refl _, ?_, trivial⟩) ?_
 ·
  exact RImp.rows rfl fun i hi => by
   have hi : i < 5 := hi
   rcases lt5 hi with rfl | rfl | rfl | rfl | rfl <;> rfl
 refine aX hTT 5 [] tI ?_; refine aops_nil (xt_n (hK _ ?_)); clear hK K; refine aw_seq_k fun K hK => wR 6 ?_; refine aX hTT 2 [] tI ?_
 refine eC (Width5_ac) ?_
 refine aX hTT 5 [] tI ?_; refine aops_nil (xt_n (hK _ ?_)); clear hK K; refine aw_seq_k fun K hK => wR 7 ?_; refine aX hTT 22 [(3, .c (gA (true == true) True)), (4, .c (gD (true == true) True)), (5, .c ((true = true → (true == true) = true) ∧ True)), (7, .c (gA (true == true) True)), (8, .c (gB (true == true) True)), (9, .c (gD (true == true) True)), (10, .c ((true = true → (true == true) = true) ∧ True)), (12, .c (gA (true == true) True)), (13, .c (gD (true == true) ((0 : Int) ≤ (3 : Int) ∧ (3 : Int) < (↑(5 : Nat) : Int)))), (14, .c (gB (true == true) True)), (15, .c (gD (true == true) True)), (16, .c ((true = true → (true == true) = true) ∧ True)), (18, .c (gA (true == true) True)), (19, .c (gD (true == true) True)), (20, .c ((true = true → (true == true) = true) ∧ True))] ⟨⟨⟨tI, tI⟩, (fun _ => tI)⟩, ⟨⟨(by (exact fun h => h)), ⟨tI, tI⟩⟩, (fun _ => tI)⟩, ⟨(by (exact fun h => h)), tI⟩, ⟨⟨tI, tI⟩, (fun _ => tI)⟩, ⟨⟨(by (exact fun h => h)), tI⟩, (fun _ => tI)⟩, ⟨⟨(by (exact fun h => h)), ⟨tI, tI⟩⟩, (fun _ => tI)⟩, ⟨(by (exact fun h => h)), tI⟩, ⟨⟨tI, tI⟩, (fun _ => tI)⟩, ⟨⟨(by (exact fun h => h)), ⟨tI, tI⟩⟩, (by (intro _; simp; done))⟩, ⟨⟨(by (exact fun h => h)), tI⟩, (fun _ => tI)⟩, ⟨⟨(by (exact fun h => h)), ⟨tI, tI⟩⟩, (fun _ => tI)⟩, ⟨(by (exact fun h => h)), tI⟩, ⟨⟨tI, tI⟩, (fun _ => tI)⟩, ⟨⟨(by (exact fun h => h)), ⟨tI, tI⟩⟩, (fun _ => tI)⟩, ⟨(by (exact fun h => h)), tI⟩, tI⟩ ?_
 refine eG 0 (g := true == true) (fun _ => works03_ac) ?_
 refine aX hTT 2 [(0, .c ((true = true → (true == true) = true) ∧ True))] ⟨⟨(by (exact fun h => h)), tI⟩, tI⟩ ?_; refine aops_nil (xt_n (hK _ ?_)); clear hK K
 refine aw_ret ?_
 refine rP (V.b true)
end Go.Proofs.YtplnhbenmgclfaaGreatDoor

namespace Go.Proofs.YtplnhbenmgclfaaGreatDoor
open Go.Ab Go.RowKit Go.Dw Go.Shelf
theorem wf_ptsT {l : List Pt} (h : ∀ x ∈ l, Sh.wf (.fld (.int .i64) (.lst (.int .i64))) x) : ∀ k, k < l.length → inR2 (gp l k) := fun k hk => by
 have : gp l k = l[k] := by simp [gp, List.getD_eq_getElem?_getD, List.getElem?_eq_getElem hk]
 rw [this]
 obtain ⟨h1, h2⟩ := h _ (List.getElem_mem hk)
 have q1 := wf_i64 h1
 have q2 := wf_i64 h2
 exact ⟨by simp only [inR]; omega, by simp only [inR]; omega⟩
end Go.Proofs.YtplnhbenmgclfaaGreatDoor

namespace Go.Proofs.YtplnhbenmgclfaaGreatDoor
open Go.Ab Go.RowKit Go.Dw Go.Shelf
def wdA (l : List Pt) (i : Nat) : Int := (gp l i).2 - (gp l i).1
def stA (l : List Pt) (i : Nat) : Int := max (gAmt ((gp l (i + 1)).1 - (gp l i).1)) (gAmt ((gp l (i + 1)).2 - (gp l i).2))
def bdA (l : List Pt) (i : Nat) : Int := max (gAmt ((gp l i).1 + (gp l (i + 2)).1 - 2 * (gp l (i + 1)).1)) (gAmt ((gp l i).2 + (gp l (i + 2)).2 - 2 * (gp l (i + 1)).2))
structure GOk (c : Cut) (l : List Pt) (r per : Int) : Prop where
 w : ∀ i, i < l.length → c.thin ≤ wdA l i ∧ wdA l i ≤ c.wide
 s : ∀ i, i + 1 < l.length → 113000 * per * stA l i ≤ 710 * r * c.slope
 b : ∀ i, i + 2 < l.length → bdA l i ≤ c.jerk ∧ bdA l i * c.sty ≤ gArc r per
theorem gOk_iff {c : Cut} {l : List Pt} {r per : Int} (hc : cutE c = 0) (hr : 0 ≤ r) (hp : 1 ≤ per) : (∀ i, i < l.length → gRule c l r per i = 0) ↔ GOk c l r per := by
 obtain ⟨c1, c2, c3, c4, c5, c6, c7⟩ := cutE_ok.1 hc
 have hz : 0 ≤ 710 * r * c.slope := Int.mul_nonneg oM c5.1
 have ha : 0 ≤ gArc r per := by
  unfold gArc
  have h1 : 0 ≤ 710 * r * (710 * r) := Int.mul_nonneg oM oM
  have h2 : 0 ≤ 113 * per * (113 * per) := Int.mul_nonneg oM oM
  rw [Int.tdiv_eq_ediv_of_nonneg h1]
  exact Int.ediv_nonneg h1 h2
 constructor
 ·
  intro h
  refine ⟨fun i hi => ?_, fun i hi => ?_, fun i hi => ?_⟩
  ·
   have q := gRule_zero.1 (h i hi)
   have q1 := q 1 (by decide) (by decide)
   have q2 := q 2 (by decide) (by decide)
   simp only [ruleB, thinB, wideB, decide_eq_false_iff_not] at q1 q2
   unfold wdA; omega
  ·
   have q := gRule_zero.1 (h (i + 1) hi) 3 (by decide) (by decide)
   simp only [ruleB, steepB, decide_eq_false_iff_not] at q
   rw [nb, if_pos oM, Nat.add_sub_cancel] at q
   exact Int.not_lt.1 q
  ·
   have q := gRule_zero.1 (h (i + 1) oM)
   have q4 := q 4 (by decide) (by decide)
   have q5 := q 5 (by decide) (by decide)
   simp only [ruleB, suddenB, sharpB, decide_eq_false_iff_not] at q4 q5
   rw [nb, if_pos oM, Nat.add_sub_cancel, na, if_pos hi] at q4 q5
   exact ⟨Int.not_lt.1 q4, Int.not_lt.1 q5⟩
 ·
  rintro ⟨hw, hs, hb⟩ i hi
  refine gRule_zero.2 fun k k1 k5 => ?_
  rcases (by omega : k = 1 ∨ k = 2 ∨ k = 3 ∨ k = 4 ∨ k = 5) with rfl | rfl | rfl | rfl | rfl
  ·
   have := hw i hi
   unfold wdA at this
   simp only [ruleB, thinB, decide_eq_false_iff_not]; omega
  ·
   have := hw i hi
   unfold wdA at this
   simp only [ruleB, wideB, decide_eq_false_iff_not]; omega
  ·
   simp only [ruleB, steepB, decide_eq_false_iff_not]
   by_cases h0 : 0 < i
   ·
    obtain ⟨j, rfl⟩ : ∃ j, i = j + 1 := ⟨i - 1, by omega⟩
    rw [nb, if_pos h0, Nat.add_sub_cancel]
    exact Int.not_lt.2 (hs j hi)
   ·
    rw [nb, if_neg h0]
    simp only [stepP, Int.mul_zero]
    omega
  ·
   simp only [ruleB, suddenB, decide_eq_false_iff_not]
   by_cases h0 : 0 < i ∧ i + 1 < l.length
   ·
    obtain ⟨j, rfl⟩ : ∃ j, i = j + 1 := ⟨i - 1, by omega⟩
    rw [nb, if_pos h0.1, Nat.add_sub_cancel, na, if_pos h0.2]
    exact Int.not_lt.2 (hb j h0.2).1
   ·
    rw [bend_out h0]; omega
  ·
   simp only [ruleB, sharpB, decide_eq_false_iff_not]
   by_cases h0 : 0 < i ∧ i + 1 < l.length
   ·
    obtain ⟨j, rfl⟩ : ∃ j, i = j + 1 := ⟨i - 1, by omega⟩
    rw [nb, if_pos h0.1, Nat.add_sub_cancel, na, if_pos h0.2]
    exact Int.not_lt.2 (hb j h0.2).2
   ·
    rw [bend_out h0, Int.zero_mul]; omega
theorem fit_ok {c : Cut} {l : List Pt} {r per : Int} (hc : cutE c = 0) (hr : 0 ≤ r) (hp : 1 ≤ per) : fitB c l per r = true ↔ GOk c l r per := fitB_iff.trans (gOk_iff hc hr hp)
theorem IsFst.congr {p q : Int → Bool} {M F : Int} (h : IsFst p M F) (e : ∀ n, 0 ≤ n → n < M → p n = q n) : IsFst q M F :=
 ⟨h.b, fun n a b => by rw [← e n a (by have := h.b; omega)]; exact h.lo n a b, fun n a b => by rw [← e n (by have := h.b; omega) b]; exact h.hi n a b⟩
def Alike (l m : List Pt) : Prop := ∀ (c : Cut) (r per : Int), GOk c l r per ↔ GOk c m r per
theorem Alike.fst {c : Cut} {l m : List Pt} {per F : Int} (h : Alike l m) (hc : cutE c = 0) (hp : 1 ≤ per) (hF : IsFst (fitB c l per) 4194305 F) : IsFst (fitB c m per) 4194305 F :=
 hF.congr fun n h0 _ => by
  rw [Bool.eq_iff_iff, fit_ok hc h0 hp, fit_ok hc h0 hp]
  exact h c n per
theorem gp_part {l : List Pt} {a n i : Nat} (h : i < n) : gp ((l.drop a).take n) i = gp l (a + i) := by
 simp only [gp, List.getD_eq_getElem?_getD]
 rw [List.getElem?_take, if_pos h, List.getElem?_drop]
theorem GOk.part {c : Cut} {l : List Pt} {r per : Int} (h : GOk c l r per) (a n : Nat) : GOk c ((l.drop a).take n) r per := by
 refine ⟨fun i hi => ?_, fun i hi => ?_, fun i hi => ?_⟩ <;> rw [List.length_take, List.length_drop] at hi
 ·
  have := h.w (a + i) oM
  unfold wdA at this ⊢
  rwa [gp_part oM]
 ·
  have := h.s (a + i) oM
  unfold stA at this ⊢
  rwa [gp_part oM, gp_part oM]
 ·
  have := h.b (a + i) oM
  unfold bdA at this ⊢
  rwa [gp_part oM, gp_part oM, gp_part oM]
theorem GOk.milder {c m : Cut} {l : List Pt} {r per p' : Int} (h : GOk c l r per) (hr : 0 ≤ r) (hp : 1 ≤ p' ∧ p' ≤ per) (h1 : m.thin ≤ c.thin) (h2 : c.wide ≤ m.wide) (h3 : c.slope ≤ m.slope) (h4 : c.jerk ≤ m.jerk) (h5 : 0 ≤ m.sty ∧ m.sty ≤ c.sty) : GOk m l r p' := by
 refine ⟨fun i hi => ?_, fun i hi => ?_, fun i hi => ?_⟩
 ·
  have := h.w i hi; omega
 ·
  have a := h.s i hi
  have st0 : 0 ≤ stA l i := by unfold stA gAmt; omega
  have e1 : 113000 * p' * stA l i ≤ 113000 * per * stA l i := Int.mul_le_mul_of_nonneg_right oM st0
  have e2 : 710 * r * c.slope ≤ 710 * r * m.slope := Int.mul_le_mul_of_nonneg_left h3 oM
  omega
 ·
  obtain ⟨a, b⟩ := h.b i hi
  have bd0 : 0 ≤ bdA l i := by unfold bdA gAmt; omega
  have e1 : bdA l i * m.sty ≤ bdA l i * c.sty := Int.mul_le_mul_of_nonneg_left h5.2 bd0
  have e2 : gArc r per ≤ gArc r p' := by
   unfold gArc
   have h1 : 0 ≤ 710 * r * (710 * r) := Int.mul_nonneg oM oM
   rw [Int.tdiv_eq_ediv_of_nonneg h1, Int.tdiv_eq_ediv_of_nonneg h1]
   have h3 : 0 < 113 * p' * (113 * p') := Int.mul_pos oM oM
   have h4 : 113 * p' * (113 * p') ≤ 113 * per * (113 * per) := Int.mul_le_mul oM oM oM oM
   have q := Int.ediv_nonneg h1 (show 0 ≤ 113 * per * (113 * per) by omega)
   refine (Int.le_ediv_iff_mul_le h3).2 ?_
   have k1 : 710 * r * (710 * r) / (113 * per * (113 * per)) * (113 * p' * (113 * p')) ≤ 710 * r * (710 * r) / (113 * per * (113 * per)) * (113 * per * (113 * per)) := Int.mul_le_mul_of_nonneg_left h4 q
   have k2 := Int.ediv_mul_le (710 * r * (710 * r)) (show 113 * per * (113 * per) ≠ 0 by omega)
   omega
  omega
end Go.Proofs.YtplnhbenmgclfaaGreatDoor
