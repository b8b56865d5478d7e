/-
  Several texts in one: Plain laws of arms: the best arm, and where a tip leaves its groove. No program in sight. No condition. .. The small examples of the layers up to 6. No condition.
-/
import Derived.Test.YtepkjobndmmejaaGreatDoorX10
import Derived.Test.YtepkjobndmmejaaGreatDoorX08
import Derived.Test.YtepkjobndmmejaaGreatDoorAbs42
import Derived.Test.YtepkjobndmmejaaGreatDoorX06
import Derived.Test.YtepkjobndmmejaaGreatDoorX02
import Derived.Test.YtepkjobndmmejaaGreatDoorMD
import Derived.Test.YtepkjobndmmejaaGreatDoorMC
import Derived.Test.YtepkjobndmmejaaGreatDoorX03
import Derived.Test.YtepkjobndmmejaaGreatDoorX07
import Derived.Test.YtepkjobndmmejaaGreatDoorX01
import Derived.Test.YtepkjobndmmejaaGreatDoorX05
namespace Go.Proofs.YtepkjobndmmejaaGreatDoor
open Go.RowKit Go.Dw
end Go.Proofs.YtepkjobndmmejaaGreatDoor

namespace Go.Proofs.YtepkjobndmmejaaGreatDoor
open Go.Ab Go.RowKit Go.Dw Go.Shelf
def AmtL (q : List Pt) (t : Int) : Prop := ∀ k, k < q.length → (-t ≤ (gp q k).1 ∧ (gp q k).1 ≤ t) ∧ -t ≤ (gp q k).2 ∧ (gp q k).2 ≤ t
theorem sChkA_ok {q : List Pt} : sChk q = 0 ↔ q.length ≤ 4096 ∧ AmtL q 32767 := by
 unfold sChk AmtL
 constructor
 ·
  intro h
  split at h
  ·
   cases h
  ·
   split at h
   ·
    rename_i h1 h2
    exact ⟨by omega, fun k hk => sE_iff.1 (all_gp.1 h2 k hk)⟩
   ·
    cases h
 ·
  rintro ⟨h1, h2⟩
  rw [if_neg oM, if_pos (all_gp.2 fun k hk => sE_iff.2 (h2 k hk))]
theorem AmtL.mono {q : List Pt} {t t' : Int} (h : AmtL q t) (ht : t ≤ t') : AmtL q t' := fun k hk => by have := h k hk; omega
theorem wall_pts {c : Cut} {q : List Pt} (hc : cutE c = 0) (hs : sChk q = 0) : checkPts (q.map (wallP c)) = 0 := by
 obtain ⟨h1, h2⟩ := sChkA_ok.1 hs
 refine checkPts_good (by simpa using h1) (List.all_eq_true.2 fun x hx => ?_)
 obtain ⟨y, hy, rfl⟩ := List.mem_map.1 hx
 obtain ⟨k, hk, rfl⟩ := List.getElem_of_mem hy
 have e : q[k] = gp q k := by simp [gp, List.getD_eq_getElem?_getD, List.getElem?_eq_getElem hk]
 rw [e]
 have := gE_iff.1 (wallP_gE hc (sE_iff.2 (h2 k hk)))
 exact (edgeB_iff _).2 ⟨this.1.1, this.1.2, this.2.1, this.2.2⟩
end Go.Proofs.YtepkjobndmmejaaGreatDoor

namespace Go.Proofs.YtepkjobndmmejaaGreatDoor
open Go.Ab Go.RowKit Go.Dw Go.Shelf
def nA : ByteArray := ⟨#[97]⟩
def lett : ByteArray := ⟨#[97, 98, 99, 100, 101, 102, 103, 104, 105, 106, 107, 108, 109, 110, 111, 112, 113, 114, 115, 116, 117, 118, 119, 120, 121, 122, 48, 49, 50, 51, 52, 53, 54, 55, 56, 57]⟩
def arrB (F : Nat → Bool) : List V := (List.range 256).map fun k => V.b (F k)
theorem arrB_len (F : Nat → Bool) : (arrB F).length = 256 := by simp [arrB]
theorem arrB_ren (g : Nat → Nat) (F : Nat → Bool) : V.renL g (arrB F) = arrB F := by kernel_rfl
theorem arrB_set {F G : Nat → Bool} {i : Nat} (h : i < 256) (hx : G i = true) (hG : ∀ k, k ≠ i → G k = F k) : (arrB F).set i (V.b true) = arrB G := by
 refine List.ext_getElem (by simp [arrB]) fun k h1 h2 => ?_
 by_cases hk : k = i
 ·
  subst hk; simp [arrB, hx]
 ·
  rw [List.getElem_set_ne (Ne.symm hk)]; simp [arrB, hG k hk]
def setB (i : Nat) (c : Nat) : Bool := (List.range i).any fun j => strB lett j == (c : Int)
theorem setB_succ {i c : Nat} (h : strB lett i ≠ c) : setB (i + 1) c = setB i c := by
 unfold setB
 rw [List.range_succ, List.any_append]
 simp [h]
theorem setB_same {i c : Nat} (h : strB lett i = c) : setB (i + 1) c = true := by
 unfold setB
 rw [List.range_succ, List.any_append]
 simp [h]
theorem lett_lt : ∀ i : Nat, i < 36 → 0 ≤ strB lett i ∧ strB lett i < 128 := by decide +kernel
set_option maxRecDepth 100000 in
theorem mkSet_ac : AC Tryz.prog 164 [.c (.string lett)] (.tup [.agg (arrB (setB 36)), .b true]) [] := by
 refine acI hTT hMX Tryz.func164 Tryz.ntmps164 fun C hC hF => ?_
 refine sK fun K hK => wR 2 ?_
 refine aops_n hTT (M := []) (n := 2) [pn 2 (V.ref 100002 0) (100002 : Nat) (Ob.box 243 (List.replicate 256 (V.b false))), pv 3 (V.b false)] kR kR tI ?_
 refine nK hK ?_; clear hK K; refine sK fun K hK => ?_; refine sK fun K hK => wR 3 ?_
 refine aops_n hTT (M := []) (n := 1) [pv 4 (V.i 0)] kR kR tI ?_
 refine nK hK ?_; clear hK K
 refine aw_block ?_
 refine w_loop (ι := Nat × List V) (fun x => [(0, .c (.string lett)), (2, .ref 2 0), (4, .i x.1)]) (fun x => [(2, .box 243 x.2)]) (fun x => x.1 ≤ 36 ∧ x.2 = arrB (setB x.1)) (fun x => 36 - x.1) (0, arrB (setB 0)) ⟨by simp, rfl⟩ ?_ ?_
 ·
  show Le _ ⟨mkT [(0, .c (.string lett)), (2, .ref 2 0), (4, .i 0)], mkS [(2, .box 243 (arrB fun _ => false))], 1⟩
  refine le_ren (sl := [(2, Ob.box 243 (List.replicate 256 (V.b false)))]) [(2, 100002)] (.cons kR (.cons kR (.cons kR .nil))) (.cons ⟨Ob.box 243 (List.replicate 256 (V.b false)), kR, .box kR⟩ .nil) kR kR
 rintro ⟨k, cs⟩ ⟨hk, hcs⟩
 simp only at hk hcs ⊢
 have hlen : cs.length = 256 := by rw [hcs, arrB_len]
 have hs36 : lett.size = 36 := rfl
 refine sK fun K hK => ?_; refine sK fun K hK => wR 2 ?_
 refine aops_n hTT (M := []) (n := 4) [pv 6 (V.i (↑k : Int)), pv 7 (V.c (Value.string lett)), pv 8 (V.i 36), pv 9 (V.b (decide ((↑k : Int) < 36)))] kR kR tI ?_
 refine nK hK ?_; clear hK K
 refine w_cond (t := decide ((↑k : Int) < 36)) kR (fun c2 => ?_) (fun c2 => ?_)
 ·
  simp at c2
  have hb := lett_lt k oM
  obtain ⟨x, hx⟩ : ∃ x : Nat, strB lett k = x := ⟨(strB lett k).toNat, by omega⟩
  refine aw_skip ?_
  refine xt_n (hK _ ?_); clear hK K; refine sK fun K hK => ?_
  refine aw_block ?_
  refine sK fun K hK => wR 3 ?_
  refine aops_n hTT (M := []) (n := 4) [pv 12 (V.c (Value.string lett)), pv 13 (V.i (↑k : Int)), pc 14 ((0 : Int) ≤ (↑k : Int) ∧ (↑k : Int) < (↑(ByteArray.size lett) : Int)) (V.c (Value.int IntKind.u8 (strB lett k))), pv 5 (V.c (Value.int IntKind.u8 (strB lett k)))] kR kR ⟨oM, tI⟩ ?_
  refine nK hK ?_; clear hK K; refine sK fun K hK => ?_; refine sK fun K hK => wR 4 ?_
  refine aops_n hTT (M := []) (n := 2) [pv 15 (V.c (Value.int IntKind.u8 (strB lett k))), pv 16 (V.b (decide ((128 : Int) ≤ strB lett k)))] kR kR tI ?_
  refine nK hK ?_; clear hK K
  refine w_cond (t := decide ((128 : Int) ≤ strB lett k)) kR (fun c3 => ?_) (fun c3 => ?_)
  ·
   simp at c3
   omega
  rw [hx]
  have hset : cs.set x (V.b true) = arrB (setB (k + 1)) := by
   rw [hcs]
   exact arrB_set oM (setB_same hx) fun j hj => setB_succ oM
  refine aw_skip ?_
  refine xt_n (hK _ ?_); clear hK K; refine wR 5 ?_
  refine aops_n hTT (M := []) (n := 3) [pv 18 (V.c (Value.int IntKind.u8 (↑x : Int))), pc 19 ((0 : Int) ≤ (↑x : Int) ∧ (↑x : Int) < (↑(256 : Nat) : Int)) (V.ref 2 ((0 : Nat) + x * 1)), pw ((0 : Nat) + x * 1 + (1 : Nat) ≤ List.length cs) (2 : Nat) (Ob.box 243 (setCells cs ((0 : Nat) + x * 1) [V.c (Value.bool true)]))] kR kR ⟨oM, oM, tI⟩ ?_
  refine aops_nil ?_; refine xb_n ?_; refine xt_n (hK _ ?_); clear hK K; refine wR 6 ?_
  refine aops_n hTT (M := []) (n := 3) [pv 10 (V.i (↑k : Int)), pc 11 ((-9223372036854775808 : Int) ≤ (↑k : Int) + 1 ∧ (↑k : Int) + 1 ≤ (9223372036854775807 : Int)) (V.i ((↑k : Int) + 1)), pv 4 (V.i ((↑k : Int) + 1))] kR kR ⟨oM, tI⟩ ?_
  refine aops_nil ?_; refine xt_n ?_
  refine ⟨(k + 1, cs.set x (V.b true)), ⟨by simp only; omega, hset⟩, ?_, by simp only; omega⟩
  show Le _ ⟨mkT [(0, .c (.string lett)), (2, .ref 2 0), (4, .i ((k + 1 : Nat) : Int))], mkS [(2, .box 243 (cs.set x (V.b true)))], 1⟩
  refine le_ren (tl := [(0, V.c (Value.string lett)), (2, V.ref 2 0), (4, V.i (↑(k + 1) : Int))]) (sl := [(2, Ob.box 243 (List.set cs x (V.b true)))]) [(2, 2)] (.cons kR (.cons kR (.cons kR .nil))) (.cons ⟨Ob.box 243 (setCells cs ((0 : Nat) + x * 1) [V.c (Value.bool true)]), kR, .box ?_⟩ .nil) kR kR
  rw [hset, arrB_ren, ← hset, Nat.zero_add, Nat.mul_one]
  rfl
 ·
  simp at c2
  obtain rfl : k = 36 := by omega
  rw [hcs]
  refine aw_exit ?_
  refine xt_x ?_; refine xt_x ?_
  refine xb_same ?_
  refine xt_n ?_; clear hK K; refine hK _ ?_; clear hK K; refine sK fun K hK => wR 3 ?_
  refine aops_n hTT (M := []) (n := 3) [pc 20 ((0 : Nat) ≤ (256 : Nat)) (V.agg (arrB (setB 36))), pw ((0 : Nat) + (256 : Nat) ≤ (256 : Nat)) (2 : Nat) (Ob.box 243 (arrB (setB 36))), pv 3 (V.b true)] kR kR ⟨oM, oM, tI⟩ ?_
  refine nK hK ?_; clear hK K
  refine aw_ret ?_
  refine rP (V.tup [V.agg (arrB (setB 36)), V.b true])
set_option maxRecDepth 100000 in
theorem cont_ac : AC Tryz.prog 188 [.ptr (arrB (setB 36)), .c (.int .u8 97)] (.b true) [] := by
 refine acI hTT hMX Tryz.func188 Tryz.ntmps188 fun C hC hF => ?_
 refine sK fun K hK => wR 2 ?_; refine aX hTT 1 [] tI ?_; refine nK hK ?_; clear hK K; refine sK fun K hK => wR 3 ?_; refine aX hTT 6 [(3, .c ((0 : Int) ≤ (97 : Int) ∧ (97 : Int) < (↑(256 : Nat) : Int)))] ⟨oM, tI⟩ ?_; refine nK hK ?_; clear hK K
 refine aw_ret ?_
 refine rP (V.b (setB (36 : Nat) 97))
set_option maxRecDepth 100000 in
theorem trimR_ac : AC Tryz.prog 166 [.c (.string nA), .ptr (arrB (setB 36))] (.c (.string ⟨#[]⟩)) [] := by
 refine acI hTT hMX Tryz.func166 Tryz.ntmps166 fun C hC hF => ?_
 refine sK fun K hK => wR 2 ?_; refine aX hTT 1 [] tI ?_; refine nK hK ?_; clear hK K; refine sK fun K hK => ?_
 refine aw_block ?_
 refine aw_rounds 3 ?_
 refine awr_succ (m := 2) fun K hK => ?_
 refine sK fun K hK => ?_; refine sK fun K hK => wR 3 ?_; refine aX hTT 3 [] tI ?_; refine nK hK ?_; clear hK K; refine w_true (t := true) kR rfl ?_
 refine aw_skip ?_
 refine xt_n (hK _ ?_); clear hK K
 refine aw_block ?_
 refine sK fun K hK => ?_; refine sK fun K hK => wR 4 ?_; refine aX hTT 6 [(4, .i ((1 : Int) - (1 : Int))), (5, .c ((0 : Int) ≤ (0 : Int) ∧ (0 : Int) < (↑(ByteArray.size nA) : Int)))] ⟨oM, ⟨oM, (by decide +kernel)⟩, tI⟩ ?_
 refine eC (cont_ac) ?_
 refine aX hTT 1 [] tI ?_; refine nK hK ?_; clear hK K; refine w_false (t := false) kR rfl ?_
 refine aw_skip ?_
 refine xt_n (hK _ ?_); clear hK K; refine wR 5 ?_; refine aX hTT 6 [(3, .i ((1 : Int) - (1 : Int))), (4, .c ((0 : Int) ≤ (0 : Int) ∧ (0 : Int) ≤ (0 : Int) ∧ (0 : Int) ≤ (↑(ByteArray.size nA) : Int)))] ⟨oM, ⟨oM, oM⟩, tI⟩ ?_; refine aops_nil ?_; refine xb_n ?_; refine xt_n (hK _ ?_); clear hK K
 refine awr_succ (m := 1) fun K hK => ?_
 refine sK fun K hK => ?_; refine sK fun K hK => wR 6 ?_; refine aX hTT 3 [] tI ?_; refine nK hK ?_; clear hK K; refine w_false (t := false) kR rfl ?_
 refine aw_exit ?_
 refine xt_x ?_; refine xt_x ?_
 refine xb_same ?_
 refine xt_n ?_; clear hK K; clear hK K; refine hK _ ?_; clear hK K; refine sK fun K hK => wR 7 ?_; refine aX hTT 2 [] tI ?_; refine nK hK ?_; clear hK K
 refine aw_ret ?_
 refine rP (V.c (Value.string (ByteArray.extract nA (0 : Nat) (0 : Nat))))
set_option maxRecDepth 100000 in
theorem trimL_ac : AC Tryz.prog 165 [.c (.string ⟨#[]⟩), .ptr (arrB (setB 36))] (.c (.string ⟨#[]⟩)) [] := by
 refine acI hTT hMX Tryz.func165 Tryz.ntmps165 fun C hC hF => ?_
 refine sK fun K hK => wR 2 ?_; refine aX hTT 1 [] tI ?_; refine nK hK ?_; clear hK K; refine sK fun K hK => ?_
 refine aw_block ?_
 refine aw_rounds 3 ?_
 refine awr_succ (m := 2) fun K hK => ?_
 refine sK fun K hK => ?_; refine sK fun K hK => wR 3 ?_; refine aX hTT 3 [] tI ?_; refine nK hK ?_; clear hK K; refine w_false (t := false) kR rfl ?_
 refine aw_exit ?_
 refine xt_x ?_; refine xt_x ?_
 refine xb_same ?_
 refine xt_n ?_; clear hK K; clear hK K; refine hK _ ?_; clear hK K; refine sK fun K hK => wR 4 ?_; refine aX hTT 2 [] tI ?_; refine nK hK ?_; clear hK K
 refine aw_ret ?_
 refine rP (V.c (Value.string (ByteArray.mk #[])))
set_option maxRecDepth 100000 in
theorem Trim_ac : AC Tryz.prog 143 [.c (.string nA), .c (.string lett)] (.c (.string ⟨#[]⟩)) [] := by
 refine acI hTT hMX Tryz.func143 Tryz.ntmps143 fun C hC hF => ?_
 refine sK fun K hK => wR 2 ?_; refine aX hTT 1 [] tI ?_; refine nK hK ?_; clear hK K; refine sK fun K hK => ?_; refine sK fun K hK => wR 3 ?_; refine aX hTT 6 [(3, .c (gA (false == false) True)), (4, .c (gD (false == false) True)), (5, .c (True ∧ (false = false → (false == false) = true)))] ⟨⟨⟨tI, tI⟩, (fun _ => tI)⟩, ⟨⟨(by (exact fun h => h)), ⟨tI, tI⟩⟩, (fun _ => tI)⟩, ⟨tI, (by (intro h; rw [h]; rfl))⟩, tI⟩ ?_; refine nK hK ?_; clear hK K; refine w_false (t := false) kR rfl ?_
 refine aw_skip ?_
 refine xt_n (hK _ ?_); clear hK K; refine sK fun K hK => ?_; refine sK fun K hK => wR 4 ?_; refine aX hTT 8 [(4, .c (gA (false == true) True)), (5, .c (gD (false == true) ((0 : Int) ≤ (0 : Int) ∧ (0 : Int) < (↑(ByteArray.size lett) : Int)))), (6, .c (gD (false == true) True)), (7, .c ((false = true → (false == true) = true) ∧ True))] ⟨⟨⟨tI, tI⟩, (fun _ => tI)⟩, ⟨⟨(by (exact fun h => h)), ⟨tI, tI⟩⟩, (by (intro h; simp at h; done))⟩, ⟨⟨(by (exact fun h => h)), ⟨tI, tI⟩⟩, (fun _ => tI)⟩, ⟨(by (exact fun h => h)), tI⟩, tI⟩ ?_; refine nK hK ?_; clear hK K; refine w_false (t := false) kR rfl ?_
 refine aw_skip ?_
 refine xt_n (hK _ ?_); clear hK K; refine sK fun K hK => ?_; refine sK fun K hK => wR 5 ?_; refine aX hTT 1 [] tI ?_
 refine eC (mkSet_ac) ?_
 refine aX hTT 6 [(3, .r (pn 5 (V.ref 400005 0) (400005 : Nat) (Ob.box 243 (List.replicate 256 (V.b false))))), (4, .r (pw ((0 : Nat) + (256 : Nat) ≤ (256 : Nat)) (400005 : Nat) (Ob.box 243 (arrB (setB 36)))))] ⟨oM, tI⟩ ?_; refine nK hK ?_; clear hK K; refine sK fun K hK => wR 6 ?_; refine aX hTT 1 [] tI ?_; refine nK hK ?_; clear hK K; refine w_true (t := true) kR rfl ?_; refine sK fun K hK => ?_
 refine w_le (le_freezeBox (t := (243 : Nat)) (cs := (arrB (setB 36))) 400005 kR kR) ?_
 refine wR 7 ?_; refine aX hTT 1 [] tI ?_
 refine eC (trimR_ac) ?_
 skip
 refine eC (trimL_ac) ?_
 refine aX hTT 1 [] tI ?_; refine nK hK ?_; clear hK K
 refine aw_ret ?_
 refine xt_r ?_
 refine rP (V.c (Value.string (ByteArray.mk #[])))
set_option maxRecDepth 100000 in
theorem tIsName_ac : AC Tryz.prog 126 [.c (.string nA)] (.b true) [] := by
 refine acI hTT hMX Tryz.func126 Tryz.ntmps126 fun C hC hF => ?_
 refine sK fun K hK => wR 2 ?_; refine aX hTT 1 [] tI ?_; refine nK hK ?_; clear hK K; refine sK fun K hK => wR 3 ?_; refine aX hTT 9 [(3, .c (gA (true == true) True)), (4, .c (gB (true == true) True)), (5, .c (gD (true == true) True)), (6, .c ((true = true → (true == true) = true) ∧ True)), (8, .c (gA (true == true) True))] ⟨⟨⟨tI, tI⟩, (fun _ => tI)⟩, ⟨⟨(by (exact fun h => h)), tI⟩, (fun _ => tI)⟩, ⟨⟨(by (exact fun h => h)), ⟨tI, tI⟩⟩, (fun _ => tI)⟩, ⟨(by (exact fun h => h)), tI⟩, ⟨⟨tI, tI⟩, (fun _ => tI)⟩, tI⟩ ?_
 refine eG 1 (g := true == true) (fun _ => Trim_ac) ?_
 refine aX hTT 3 [(0, .c (gD (true == true) True)), (1, .c ((true = true → (true == true) = true) ∧ True))] ⟨⟨⟨(by (exact fun h => h)), ⟨tI, tI⟩⟩, (fun _ => tI)⟩, ⟨(by (exact fun h => h)), tI⟩, tI⟩ ?_; refine nK hK ?_; clear hK K
 refine aw_ret ?_
 refine rP (V.b true)
def datV : V := .sl 2 2 fun i => List.take 2 (List.drop (i * 2) [.i 10, .i (-10), .i 5, .i 0])
abbrev zzT20 : V := V.sl 2 2 fun (i : Nat) => List.take (2 : Nat) (List.drop (i * 2) [V.i 10, V.i (-10), V.i 5, V.i 0])
set_option maxRecDepth 100000 in
theorem checkTake_ac : AC Tryz.prog 110 [.agg [.c (.string nA), datV]] (.i 0) [] := by
 refine acI hTT hMX Tryz.func110 Tryz.ntmps110 fun C hC hF => ?_
 refine sK fun K hK => wR 2 ?_; refine aX hTT 2 [] tI ?_; refine nK hK ?_; clear hK K; refine sK fun K hK => wR 3 ?_; refine aX hTT 2 [] tI ?_
 refine eC (AC.conv (tCheckSamples_ac [(10, -10), (5, 0)] (by decide)) (args' := [zzT20]) ⟨?_, trivial⟩) ?_
 ·
  exact RImp.rows rfl fun i hi => by
   have hi : i < 2 := hi
   rcases (by omega : i = 0 ∨ i = 1) with rfl | rfl <;> rfl
 refine aX hTT 1 [] tI ?_; refine nK hK ?_; clear hK K; refine sK fun K hK => ?_; refine sK fun K hK => wR 4 ?_; refine aX hTT 5 [(3, .c (gA (true == true) True)), (4, .c (gB (true == true) True))] ⟨⟨⟨tI, tI⟩, (fun _ => tI)⟩, ⟨⟨(by (exact fun h => h)), tI⟩, (fun _ => tI)⟩, tI⟩ ?_
 refine eG 1 (g := true == true) (fun h => tIsName_ac) ?_
 refine aX hTT 8 [(0, .c (gB (true == true) True)), (1, .c (gB (true == true) True)), (2, .c (gA (true == true && false == false) True)), (3, .c (gB (true == true && false == false) True)), (4, .c (gB (true == true && false == false) True)), (5, .c (gD (true == true && false == false) True)), (6, .c (((true == true) = true → (true == true) = true) ∧ ((true == true) = true → True) ∧ ((true == true) = true → false = false → (true == true && false == false) = true))), (7, .c ((true = true → (true == true) = true) ∧ True))] ⟨⟨⟨(by (exact fun h => h)), tI⟩, (fun _ => tI)⟩, ⟨⟨(by (exact fun h => h)), tI⟩, (fun _ => tI)⟩, ⟨⟨tI, tI⟩, (fun _ => tI)⟩, ⟨⟨(by (exact fun h => h)), tI⟩, (fun _ => tI)⟩, ⟨⟨(by (exact fun h => h)), tI⟩, (fun _ => tI)⟩, ⟨⟨(by (exact fun h => h)), ⟨tI, tI⟩⟩, (fun _ => tI)⟩, ⟨(by (exact fun h => h)), ⟨(fun _ => tI), (by (intro _; simp; done))⟩⟩, ⟨(by (exact fun h => h)), tI⟩, tI⟩ ?_; refine nK hK ?_; clear hK K; refine w_false (t := false) kR rfl ?_
 refine aw_skip ?_
 refine xt_n (hK _ ?_); clear hK K; refine sK fun K hK => wR 5 ?_; refine aX hTT 2 [] tI ?_; refine nK hK ?_; clear hK K
 refine aw_ret ?_
 refine rP (V.i (sChk [((10 : Int), (-10 : Int)), ((5 : Int), (0 : Int))]))
def tksV : V := .sl 2 1 fun _ => [.c (.string nA), datV]
set_option maxRecDepth 100000 in
theorem CheckTakes_ac : AC Tryz.prog 85 [tksV] (.i 0) [] := by
 refine acI hTT hMX Tryz.func85 Tryz.ntmps85 fun C hC hF => ?_
 refine sK fun K hK => wR 2 ?_; refine aX hTT 1 [] tI ?_; refine nK hK ?_; clear hK K; refine sK fun K hK => ?_; refine sK fun K hK => wR 3 ?_; refine aX hTT 8 [(4, .c (gA (false == false) True)), (5, .c (gB (false == false) True)), (6, .c (gD (false == false) True)), (7, .c (True ∧ (false = false → (false == false) = true)))] ⟨⟨⟨tI, tI⟩, (fun _ => tI)⟩, ⟨⟨(by (exact fun h => h)), tI⟩, (fun _ => tI)⟩, ⟨⟨(by (exact fun h => h)), ⟨tI, tI⟩⟩, (fun _ => tI)⟩, ⟨tI, (by (intro h; rw [h]; rfl))⟩, tI⟩ ?_; refine nK hK ?_; clear hK K; refine w_false (t := false) kR rfl ?_
 refine aw_skip ?_
 refine xt_n (hK _ ?_); clear hK K; refine sK fun K hK => wR 4 ?_; refine aX hTT 1 [] tI ?_; refine nK hK ?_; clear hK K; refine sK fun K hK => wR 5 ?_; refine aX hTT 2 [(0, .r (pn 16 (V.own 400016) (400016 : Nat) (Ob.mp (true, (0 : Nat)) (MF.mk [] fun (x : MK) => none))))] tI ?_; refine nK hK ?_; clear hK K; refine sK fun K hK => ?_; refine sK fun K hK => wR 6 ?_; refine aX hTT 3 [] tI ?_; refine nK hK ?_; clear hK K
 refine aw_block ?_
 refine aw_rounds 3 ?_
 refine awr_succ (m := 2) fun K hK => ?_
 refine sK fun K hK => wR 7 ?_; refine aX hTT 1 [] tI ?_; refine nK hK ?_; clear hK K; refine sK fun K hK => ?_; refine w_true (t := true) kR rfl ?_
 refine aw_skip ?_
 refine xt_n (hK _ ?_); clear hK K; refine sK fun K hK => ?_
 refine aw_block ?_
 refine sK fun K hK => wR 8 ?_; refine aX hTT 4 [(0, .c ((0 : Int) ≤ (0 : Int) ∧ (0 : Int) < (↑(1 : Nat) : Int))), (2, .r (pn 6 (V.ref 700006 0) (700006 : Nat) (Ob.box 150 [V.c (Value.string (ByteArray.mk #[])), V.nil]))), (3, .r (pw ((0 : Nat) + (2 : Nat) ≤ (2 : Nat)) (700006 : Nat) (Ob.box 150 [V.c (Value.string nA), zzT20])))] ⟨oM, oM, tI⟩ ?_; refine nK hK ?_; clear hK K; refine sK fun K hK => ?_; refine sK fun K hK => wR 9 ?_; refine aX hTT 1 [(0, .c ((0 : Nat) ≤ (2 : Nat)))] ⟨oM, tI⟩ ?_
 refine eC (checkTake_ac) ?_
 refine aX hTT 1 [] tI ?_; refine nK hK ?_; clear hK K
 refine aw_block ?_
 refine sK fun K hK => wR 10 ?_; refine aX hTT 3 [] tI ?_; refine nK hK ?_; clear hK K; refine w_false (t := false) kR rfl ?_; refine sK fun K hK => wR 11 ?_; refine aX hTT 3 [] tI ?_; refine nK hK ?_; clear hK K; refine w_false (t := false) kR rfl ?_
 refine aw_skip ?_
 refine xb_n ?_; refine xt_n (hK _ ?_); clear hK K; refine wR 12 ?_; refine aX hTT 6 [(2, .c ((0 : Nat) ≤ (2 : Nat))), (3, .c (mget (MF.mk [] fun (x : MK) => none) (MK.s nA) (V.c (Value.int IntKind.i64 0)) = V.c (Value.int IntKind.i64 (mgetI (MF.mk [] fun (x : MK) => none) (MK.s nA))))), (4, .i ((0 : Int) + (1 : Int))), (5, .r (PR.mk none none V.any [((400016 : Nat), some (Ob.mp (true, (1 : Nat)) (MF.mk [(MK.s nA, V.i 1)] (MF.rest (MF.mk [] fun (x : MK) => none)))))] false))] ⟨oM, ?_, oM, tI⟩ ?_
 ·
  rfl
 refine aops_nil ?_; refine xb_n ?_; refine xt_n (hK _ ?_); clear hK K; refine wR 13 ?_; refine aX hTT 2 [(0, .i ((0 : Int) + (1 : Int)))] ⟨oM, tI⟩ ?_; refine nK hK ?_; clear hK K
 refine awr_succ (m := 1) fun K hK => ?_
 refine sK fun K hK => wR 14 ?_; refine aX hTT 1 [] tI ?_; refine nK hK ?_; clear hK K; refine sK fun K hK => ?_; refine w_false (t := false) kR rfl ?_
 refine aw_exit ?_
 refine xt_x ?_; refine xt_x ?_
 refine xb_same ?_
 refine xt_n ?_; clear hK K; clear hK K; refine hK _ ?_; clear hK K; refine sK fun K hK => ?_; refine sK fun K hK => wR 15 ?_; refine aX hTT 9 [(3, .c (gA (true == true) True)), (4, .c (gB (true == true) True)), (5, .c (gA (true == true) True)), (6, .c (gB (true == true) True)), (7, .c (gC (true == true) True)), (8, .c ((true = true → (true == true) = true) ∧ True))] ⟨⟨⟨tI, tI⟩, (fun _ => tI)⟩, ⟨⟨(by (exact fun h => h)), tI⟩, (fun _ => tI)⟩, ⟨⟨tI, tI⟩, (fun _ => tI)⟩, ⟨⟨(by (exact fun h => h)), tI⟩, (fun _ => tI)⟩, ⟨⟨(by (exact fun h => h)), ⟨(by (exact fun h => h)), tI⟩⟩, (fun _ => tI)⟩, ⟨(by (exact fun h => h)), tI⟩, tI⟩ ?_; refine nK hK ?_; clear hK K; refine w_false (t := false) kR rfl ?_
 refine aw_skip ?_
 refine xt_n (hK _ ?_); clear hK K; refine sK fun K hK => wR 16 ?_; refine aX hTT 2 [] tI ?_; refine nK hK ?_; clear hK K
 refine aw_ret ?_
 refine rP (V.i 0)
def ptC : List V := [.i 0, .i 0, .i 2, .i 0, .i 0, .i 0, .i 500]
def ptsV : V := .sl 7 1 fun _ => ptC
abbrev yyT20 := (betB (0 : Int) (-4096 : Int) (4096 : Int) && betB (0 : Int) (0 : Int) (1000 : Int) && betB (0 : Int) (0 : Int) (1000 : Int) && betB (500 : Int) (0 : Int) (4000 : Int))
abbrev yyT22 := (betB (0 : Int) (-4096 : Int) (4096 : Int) && betB (0 : Int) (0 : Int) (1000 : Int) && betB (0 : Int) (0 : Int) (1000 : Int))
abbrev yyT21 := (yyT22 == true)
abbrev yyT24 := (betB (0 : Int) (-4096 : Int) (4096 : Int) && betB (0 : Int) (0 : Int) (1000 : Int))
abbrev yyT23 := (yyT24 == true)
set_option maxRecDepth 100000 in
theorem good_ac : AM Tryz.prog 86 [.ref 500 0, .agg ptC] [.box 112 [tksV, .nil, .i 0]] (.b true) [some (.box 112 [tksV, .nil, .i 0])] [] := by
 refine am_intro hTT hMX (fn := Tryz.f86) (N := _) ⟨Tryz.func86, rfl, Tryz.ntmps86, kR⟩ (by simp) rfl (by simp) (by simp) fun C hF => ?_
 refine sK fun K hK => wR 2 ?_; refine aX hTT 2 [] tI ?_; refine nK hK ?_; clear hK K; refine sK fun K hK => ?_; refine sK fun K hK => wD 3 ?_; refine aX hTT 40 ((4, .c (gA (false == false) True)) :: (5, .c (gB (false == false) True)) :: (6, .c (gA (false == false) True)) :: (7, .c (gB (false == false) True)) :: (8, .c (gB (false == false) True)) :: (9, .c (gB (false == false) ((0 : Nat) ≤ (3 : Nat)))) :: (10, .c (gB (false == false) True)) :: (11, .c (gC (false == false) True)) :: (12, .c (True ∧ (false = false → (false == false) = true))) :: (14, .c (gA (false == false) True)) :: (15, .c (gB (false == false) True)) :: (16, .c (gD (false == false) True)) :: (17, .c (True ∧ (false = false → (false == false) = true))) :: (19, .c (gA (false == false) True)) :: (20, .c (gB (false == false) True)) :: (21, .c (gA (false == false) True)) :: (22, .c (gB (false == false) True)) :: (23, .c (gC (false == false) True)) :: (24, .c (True ∧ (false = false → (false == false) = true))) :: (26, .c (gA (false == false) True)) :: (27, .c (gB (false == false) True)) :: (28, .c (gA (false == false) True)) :: (29, .c (gB (false == false) True)) :: (30, .c (gB (false == false) True)) :: (31, .c (gB (false == false) ((0 : Nat) ≤ (3 : Nat)))) :: (32, .c (gA (false == false) True)) :: (33, .c (gB (false == false) True)) :: (34, .c (gC (false == false) ((0 : Int) ≤ (0 : Int) ∧ (0 : Int) < (↑(1 : Nat) : Int)))) :: (35, .c (gB (false == false) True)) :: (36, .c (gB (false == false) True)) :: (37, .c (gB (false == false) True)) :: (38, .c (gC (false == false) True)) :: (39, .c (True ∧ (false = false → (false == false) = true))) :: []) ⟨⟨⟨tI, tI⟩, (fun _ => tI)⟩, ⟨⟨(by (exact fun h => h)), tI⟩, (fun _ => tI)⟩, ⟨⟨tI, tI⟩, (fun _ => tI)⟩, ⟨⟨(by (exact fun h => h)), tI⟩, (fun _ => tI)⟩, ⟨⟨(by (exact fun h => h)), tI⟩, (fun _ => tI)⟩, ⟨⟨(by (exact fun h => h)), tI⟩, (by (intro _; simp; done))⟩, ⟨⟨(by (exact fun h => h)), tI⟩, (fun _ => tI)⟩, ⟨⟨(by (exact fun h => h)), ⟨(by (exact fun h => h)), tI⟩⟩, (fun _ => tI)⟩, ⟨tI, (by (intro h; rw [h]; rfl))⟩, ⟨⟨tI, tI⟩, (fun _ => tI)⟩, ⟨⟨(by (exact fun h => h)), tI⟩, (fun _ => tI)⟩, ⟨⟨(by (exact fun h => h)), ⟨tI, tI⟩⟩, (fun _ => tI)⟩, ⟨tI, (by (intro h; rw [h]; rfl))⟩, ⟨⟨tI, tI⟩, (fun _ => tI)⟩, ⟨⟨(by (exact fun h => h)), tI⟩, (fun _ => tI)⟩, ⟨⟨tI, tI⟩, (fun _ => tI)⟩, ⟨⟨(by (exact fun h => h)), tI⟩, (fun _ => tI)⟩, ⟨⟨(by (exact fun h => h)), ⟨(by (exact fun h => h)), tI⟩⟩, (fun _ => tI)⟩, ⟨tI, (by (intro h; rw [h]; rfl))⟩, ⟨⟨tI, tI⟩, (fun _ => tI)⟩, ⟨⟨(by (exact fun h => h)), tI⟩, (fun _ => tI)⟩, ⟨⟨tI, tI⟩, (fun _ => tI)⟩, ⟨⟨(by (exact fun h => h)), tI⟩, (fun _ => tI)⟩, ⟨⟨(by (exact fun h => h)), tI⟩, (fun _ => tI)⟩, ⟨⟨(by (exact fun h => h)), tI⟩, (by (intro _; simp; done))⟩, ⟨⟨tI, tI⟩, (fun _ => tI)⟩, ⟨⟨(by (exact fun h => h)), tI⟩, (fun _ => tI)⟩, ⟨⟨(by (exact fun h => h)), ⟨(by (exact fun h => h)), tI⟩⟩, (by (intro _; simp; done))⟩, ⟨⟨(by (exact fun h => h)), tI⟩, (fun _ => tI)⟩, ⟨⟨(by (exact fun h => h)), tI⟩, (fun _ => tI)⟩, ⟨⟨(by (exact fun h => h)), tI⟩, (fun _ => tI)⟩, ⟨⟨(by (exact fun h => h)), ⟨(by (exact fun h => h)), tI⟩⟩, (fun _ => tI)⟩, ⟨tI, (by (intro h; rw [h]; rfl))⟩, tI⟩ ?_; refine aops_nil ⟨kR, ?_⟩; refine xt_n (hK _ ?_); clear hK K; refine w_false (t := false) kR rfl ?_
 refine aw_skip ?_
 refine xt_n (hK _ ?_); clear hK K; refine sK fun K hK => wR 4 ?_; refine aX hTT 2 [] tI ?_
 refine eC (tBetween_ac 0 (-4096) 4096) ?_
 refine aX hTT 3 [(1, .c (gA (betB (0 : Int) (-4096 : Int) (4096 : Int) == true) True)), (2, .c (gB (betB (0 : Int) (-4096 : Int) (4096 : Int) == true) True))] ⟨⟨⟨tI, tI⟩, (fun _ => tI)⟩, ⟨⟨(by (exact fun h => h)), tI⟩, (fun _ => tI)⟩, tI⟩ ?_
 refine eG 1 (g := betB (0 : Int) (-4096 : Int) (4096 : Int) == true) (fun h => tBetween_ac 0 0 1000) ?_
 refine aX hTT 4 [(0, .c ((betB (0 : Int) (-4096 : Int) (4096 : Int) = true → (betB (0 : Int) (-4096 : Int) (4096 : Int) == true) = true) ∧ True)), (2, .c (gA yyT23 True)), (3, .c (gB yyT23 True))] ⟨⟨(by (exact fun h => h)), tI⟩, ⟨⟨tI, tI⟩, (fun _ => tI)⟩, ⟨⟨(by (exact fun h => h)), tI⟩, (fun _ => tI)⟩, tI⟩ ?_
 refine eG 1 (g := yyT24 == true) (fun h => tBetween_ac 0 0 1000) ?_
 refine aX hTT 4 [(0, .c ((yyT24 = true → yyT23 = true) ∧ True)), (2, .c (gA yyT21 True)), (3, .c (gB yyT21 True))] ⟨⟨(by (exact fun h => h)), tI⟩, ⟨⟨tI, tI⟩, (fun _ => tI)⟩, ⟨⟨(by (exact fun h => h)), tI⟩, (fun _ => tI)⟩, tI⟩ ?_
 refine eG 1 (g := yyT22 == true) (fun h => tBetween_ac 500 0 4000) ?_
 refine aX hTT 2 [(0, .c ((yyT22 = true → yyT21 = true) ∧ True))] ⟨⟨(by (exact fun h => h)), tI⟩, tI⟩ ?_; refine nK hK ?_; clear hK K
 refine aw_ret ?_
 refine retM (v' := V.b yyT20) [] [(4, V.b yyT20)] (.inr rfl) (.cons kR .nil) (.cons ⟨Ob.box 112 [V.sl 2 1 fun (x : Nat) => [V.c (Value.string nA), datV], V.nil, V.i 0], kR, .box kR⟩ .nil) kR kR kR kR kR kR kR
end Go.Proofs.YtepkjobndmmejaaGreatDoor

namespace Go.Proofs.YtepkjobndmmejaaGreatDoor
open Go.Ab Go.RowKit Go.Dw Go.Shelf
def plR : Nat → List V := fun _ => ptC ++ [.i 0, .i 0, .i 2]
set_option maxRecDepth 100000 in
theorem pl1 : mkS [(7, .box 112 [tksV, .own 8, .i 2]), (8, .row 116 10 1 plR)] 8 = some (.row 116 10 1 plR) := by kernel_rfl
set_option maxRecDepth 100000 in
theorem pl2 (i : Nat) : V.idfL (plR i) = true := by kernel_rfl
set_option maxRecDepth 100000 in
theorem pl3 : Le ⟨mkT [(7, .ref 7 0)], mkS [(7, .box 112 [tksV, .own 8, .i 2]), (8, .row 116 10 1 plR)], 1⟩ ⟨fun t => V.fz 8 (.sl 10 1 plR) (mkT [(7, .ref 7 0)] t), fzS (mkS [(7, .box 112 [tksV, .own 8, .i 2]), (8, .row 116 10 1 plR)]) 8 (.sl 10 1 plR), 1⟩ := le_freezeIn 8 pl1 pl2 rfl (fun _ _ => rfl)
abbrev zzT30 : V := V.sl 2 1 fun (x : Nat) => [V.c (Value.string nA), datV]
abbrev qT30 : Prop := (0 : Int) ≤ (0 : Int) ∧ (0 : Int) < (↑(1 : Nat) : Int)
theorem qT30_ : qT30 := oM
abbrev qT31 : Prop := (8 : Nat) ≤ (10 : Nat)
theorem qT31_ : qT31 := oM
abbrev qT32 : Prop := (9 : Nat) ≤ (10 : Nat)
theorem qT32_ : qT32 := oM
abbrev qT33 : Prop := (0 : Int) ≤ (0 : Int) ∧ (0 : Int) < (↑(2 : Nat) : Int)
theorem qT33_ : qT33 := oM
abbrev qT34 : Prop := (0 : Int) ≤ (1 : Int) ∧ (1 : Int) < (↑(2 : Nat) : Int)
theorem qT34_ : qT34 := oM
abbrev yyT32 : List V := [V.i 0, V.i 0, V.i 2, V.i 0, V.i 0, V.i 0, V.i 500, V.i 0, V.i 0, V.i 2]
abbrev yyT30 : Ob := Ob.row 116 10 1 fun (i : Nat) => List.take (10 : Nat) (List.drop (i * 10) yyT32)
abbrev yyT31 := ((false == true && false == false) = true → (false == true && false == false) = true)
abbrev yyT33 := ((false == true) = true → (false == true) = true)
set_option maxRecDepth 100000 in
theorem newP_ac : AC Tryz.prog 55 [tksV, ptsV] (.tup [.ptr [tksV, .sl 10 1 fun _ => ptC ++ [.i 0, .i 0, .i 2], .i 2], .i 0]) [] := by
 refine acI hTT hMX Tryz.func55 Tryz.ntmps55 fun C hC hF => ?_
 refine sK fun K hK => wR 2 ?_
 refine aops_x (M := [24]) hTT 2 [] tI ?_
 refine nK hK ?_; clear hK K; refine sK fun K hK => ?_; refine sK fun K hK => wR 3 ?_
 refine aops_x (M := [24]) hTT 1 [] tI ?_
 refine eC (CheckTakes_ac) ?_
 refine aops_x (M := [24]) hTT 1 [] tI ?_
 refine nK hK ?_; clear hK K; refine sK fun K hK => wR 4 ?_
 refine aops_x (M := [24]) hTT 2 [] tI ?_
 refine nK hK ?_; clear hK K; refine w_false (t := false) kR rfl ?_
 refine aw_skip ?_
 refine xt_n (hK _ ?_); clear hK K; refine sK fun K hK => ?_; refine sK fun K hK => wR 5 ?_
 refine aops_x (M := [24]) hTT 3 [] tI ?_
 refine nK hK ?_; clear hK K; refine w_false (t := false) kR rfl ?_
 refine aw_skip ?_
 refine xt_n (hK _ ?_); clear hK K; refine sK fun K hK => wR 6 ?_
 refine aops_x (M := [24]) hTT 4 [(2, .r (pn 24 (V.ref 500024 0) (500024 : Nat) (Ob.box 112 [zzT30, V.nil, V.i 0])))] tI ?_
 refine nK hK ?_; clear hK K; refine sK fun K hK => ?_; refine sK fun K hK => wR 7 ?_
 refine aops_x (M := [24]) hTT 3 [] tI ?_
 refine nK hK ?_; clear hK K
 refine aw_block ?_
 refine aw_rounds 3 ?_
 refine awr_succ (m := 2) fun K hK => ?_
 refine sK fun K hK => wR 8 ?_
 refine aops_x (M := [24]) hTT 1 [] tI ?_
 refine nK hK ?_; clear hK K; refine sK fun K hK => ?_; refine w_true (t := true) kR rfl ?_
 refine aw_skip ?_
 refine xt_n (hK _ ?_); clear hK K; refine sK fun K hK => ?_
 refine aw_block ?_
 refine sK fun K hK => wR 9 ?_
 refine aops_x (M := [24]) hTT 6 [(1, .c qT30), (3, .r (pn 9 (V.ref 800009 0) (800009 : Nat) (Ob.box 114 [V.i 0, V.i 0, V.i 0, V.i 0, V.i 0, V.i 0, V.i 0]))), (5, .r (pw ((0 : Nat) + (7 : Nat) ≤ (7 : Nat)) (800009 : Nat) (Ob.box 114 [V.i 0, V.i 0, V.i 2, V.i 0, V.i 0, V.i 0, V.i 500])))] ⟨qT30_, oM, tI⟩ ?_
 refine nK hK ?_; clear hK K; refine sK fun K hK => ?_; refine sK fun K hK => wR 10 ?_
 refine aops_x (M := [24]) hTT 2 [(1, .c ((0 : Nat) ≤ (7 : Nat)))] ⟨oM, tI⟩ ?_
 refine aops_callR [500024] (first := []) (caps := []) (ins' := [Ob.box 112 [zzT30, V.nil, V.i 0]]) (v' := V.b true) (δ := []) (kp := [500024]) (good_ac) kR kR kR kR kR kR kR rfl kR kR ⟨kR, tI⟩ kR kR kR ?_
 refine aops_x (M := [24]) hTT 1 [] tI ?_
 refine nK hK ?_; clear hK K; refine w_false (t := false) kR rfl ?_
 refine aw_skip ?_
 refine xt_n (hK _ ?_); clear hK K; refine sK fun K hK => wD 11 ?_
 refine aops_x (M := [24]) hTT 12 [(0, .c ((0 : Nat) ≤ (7 : Nat))), (5, .c ((2 : Nat) ≤ (3 : Nat))), (7, .c ((3 : Nat) ≤ (7 : Nat))), (8, .i ((0 : Int) + (0 : Int))), (10, .r (pn 10 (V.ref 1000010 0) (1000010 : Nat) (Ob.box 116 [V.i 0, V.i 0, V.i 0, V.i 0, V.i 0, V.i 0, V.i 0, V.i 0, V.i 0, V.i 0]))), (11, .r (pw ((0 : Nat) + (10 : Nat) ≤ (10 : Nat)) (1000010 : Nat) (Ob.box 116 [V.i 0, V.i 0, V.i 2, V.i 0, V.i 0, V.i 0, V.i 500, V.i 0, V.i 0, V.i 0])))] ⟨oM, oM, oM, oM, oM, tI⟩ ?_
 refine aops_nil ⟨kR, ?_⟩; refine xt_n (hK _ ?_); clear hK K; refine sK fun K hK => wR 12 ?_
 refine aops_x (M := [24]) hTT 10 [(1, .c qT31), (3, .c ((2 : Nat) ≤ (7 : Nat))), (4, .i ((0 : Int) + (2 : Int))), (6, .c ((1 : Nat) ≤ (7 : Nat))), (7, .i ((2 : Int) - (0 : Int))), (9, .r (pw ((9 : Nat) + (1 : Nat) ≤ (10 : Nat)) (1000010 : Nat) (Ob.box 116 yyT32)))] ⟨qT31_, oM, oM, oM, oM, oM, tI⟩ ?_
 refine nK hK ?_; clear hK K; refine sK fun K hK => wD 13 ?_
 refine aops_x (M := [24]) hTT 11 [(4, .c ((1 : Nat) ≤ (3 : Nat))), (5, .c ((0 : Nat) ≤ (10 : Nat))), (7, .r (PR.mk (some (62 : Nat)) (some ((1 : Nat) ≤ (1099511627776 : Nat))) (V.own 1200062) [((1200062 : Nat), some (yyT30))] false)), (10, .r (pw ((1 : Nat) + (1 : Nat) ≤ (3 : Nat)) (500024 : Nat) (Ob.box 112 [zzT30, V.own 1200062, V.i 0])))] ⟨oM, oM, oM, oM, tI⟩ ?_
 refine aops_nil ⟨kR, ?_⟩; refine xt_n (hK _ ?_); clear hK K; refine wR 14 ?_
 refine aops_x (M := [24]) hTT 6 [(2, .c qT32), (5, .r (pw ((2 : Nat) + (1 : Nat) ≤ (3 : Nat)) (500024 : Nat) (Ob.box 112 [zzT30, V.own 1200062, V.i 2])))] ⟨qT32_, oM, tI⟩ ?_
 refine aops_nil ?_; refine xb_n ?_; refine xt_n (hK _ ?_); clear hK K; refine wR 15 ?_
 refine aops_x (M := [24]) hTT 2 [(0, .i ((0 : Int) + (1 : Int)))] ⟨oM, tI⟩ ?_
 refine nK hK ?_; clear hK K
 refine awr_succ (m := 1) fun K hK => ?_
 refine sK fun K hK => wR 16 ?_
 refine aops_x (M := [24]) hTT 1 [] tI ?_
 refine nK hK ?_; clear hK K; refine sK fun K hK => ?_; refine w_false (t := false) kR rfl ?_
 refine aw_exit ?_
 refine xt_x ?_; refine xt_x ?_
 refine xb_same ?_
 refine xt_n ?_; clear hK K; clear hK K; refine hK _ ?_; clear hK K; refine sK fun K hK => wR 17 ?_
 refine aops_x (M := [24]) hTT 1 [] tI ?_
 refine nK hK ?_; clear hK K; refine sK fun K hK => ?_; refine sK fun K hK => wR 18 ?_
 refine aops_x (M := [24]) hTT 6 [(3, .c ((1 : Nat) ≤ (3 : Nat)))] ⟨oM, tI⟩ ?_
 refine nK hK ?_; clear hK K
 refine aw_block ?_
 refine aw_rounds 3 ?_
 refine awr_succ (m := 2) fun K hK => ?_
 refine sK fun K hK => wR 19 ?_
 refine aops_x (M := [24]) hTT 1 [] tI ?_
 refine nK hK ?_; clear hK K; refine sK fun K hK => ?_; refine w_true (t := true) kR rfl ?_
 refine aw_skip ?_
 refine xt_n (hK _ ?_); clear hK K; refine sK fun K hK => ?_
 refine aw_block ?_
 refine sK fun K hK => wR 20 ?_
 refine aops_x (M := [24]) hTT 6 [(1, .c qT30), (2, .c ((0 : Nat) < (1 : Nat) ∧ (0 : Nat) ≤ (10 : Nat))), (3, .r (pn 13 (V.ref 1900013 0) (1900013 : Nat) (Ob.box 116 [V.i 0, V.i 0, V.i 0, V.i 0, V.i 0, V.i 0, V.i 0, V.i 0, V.i 0, V.i 0]))), (5, .r (pw ((0 : Nat) + (10 : Nat) ≤ (10 : Nat)) (1900013 : Nat) (Ob.box 116 yyT32)))] ⟨qT30_, oM, oM, tI⟩ ?_
 refine nK hK ?_; clear hK K; refine sK fun K hK => ?_; refine sK fun K hK => wD 21 ?_
 refine aops_n hTT (M := [24]) (n := 36) [pv 81 (V.i 0), pv 82 (V.b false), pv 83 (V.b false), pc 84 ((True ∧ True) ∧ ((false == true) = true → True)) (V.gd (false == true) (V.ref 1900013 9)), pc 85 ((yyT33 ∧ True) ∧ ((false == true) = true → (9 : Nat) ≤ (10 : Nat))) (V.gd (false == true) (V.i 2)), pc 86 ((True ∧ True) ∧ ((false == true) = true → True)) (V.gd (false == true) (V.ref 500024 0)), pc 87 ((yyT33 ∧ True) ∧ ((false == true) = true → True)) (V.gd (false == true) (V.ref 500024 0)), pc 88 ((yyT33 ∧ True) ∧ ((false == true) = true → True)) (V.gd (false == true) (V.ref 500024 1)), pc 89 ((yyT33 ∧ True) ∧ ((false == true) = true → (1 : Nat) ≤ (3 : Nat))) (V.gd (false == true) (V.own 1200062)), pc 90 ((True ∧ True) ∧ ((false == true) = true → True)) (V.gd (false == true) (V.i 0)), pc 91 ((yyT33 ∧ True ∧ True) ∧ ((false == true) = true → (-9223372036854775808 : Int) ≤ (0 : Int) - (1 : Int) ∧ (0 : Int) - (1 : Int) ≤ (9223372036854775807 : Int))) (V.gd (false == true) (V.i (-1))), pc 92 ((yyT33 ∧ yyT33 ∧ True) ∧ ((false == true) = true → (0 : Int) ≤ (-1 : Int) ∧ (-1 : Int) < (↑(1 : Nat) : Int))) (V.gd (false == true) (V.oel 1200062 10 (Int.toNat (-1 : Int)) (0 : Nat))), pc 93 ((yyT33 ∧ True) ∧ ((false == true) = true → True)) (V.gd (false == true) (V.oel 1200062 10 (Int.toNat (-1 : Int)) (9 : Nat))), pc 94 ((yyT33 ∧ True) ∧ ((false == true) = true → Int.toNat (-1 : Int) < (1 : Nat) ∧ (9 : Nat) ≤ (10 : Nat))) (V.gd (false == true) (V.i 2)), pc 95 ((yyT33 ∧ yyT33 ∧ True) ∧ ((false == true) = true → True)) (V.gd (false == true) (V.b false)), pc 96 ((yyT33 ∧ True) ∧ ((false == true) = true → True)) (V.gd (false == true) (V.b false)), pc 97 ((True ∧ True) ∧ ((false == true && false == false) = true → True)) (V.gd (false == true && false == false) (V.ref 1900013 8)), pc 98 ((yyT31 ∧ True) ∧ ((false == true && false == false) = true → (8 : Nat) ≤ (10 : Nat))) (V.gd (false == true && false == false) (V.i 0)), pc 99 ((True ∧ True) ∧ ((false == true && false == false) = true → True)) (V.gd (false == true && false == false) (V.ref 500024 0)), pc 100 ((yyT31 ∧ True) ∧ ((false == true && false == false) = true → True)) (V.gd (false == true && false == false) (V.ref 500024 0)), pc 101 ((yyT31 ∧ True) ∧ ((false == true && false == false) = true → True)) (V.gd (false == true && false == false) (V.ref 500024 1)), pc 102 ((yyT31 ∧ True) ∧ ((false == true && false == false) = true → (1 : Nat) ≤ (3 : Nat))) (V.gd (false == true && false == false) (V.own 1200062)), pc 103 ((True ∧ True) ∧ ((false == true && false == false) = true → True)) (V.gd (false == true && false == false) (V.i 0)), pc 104 ((yyT31 ∧ True ∧ True) ∧ ((false == true && false == false) = true → (-9223372036854775808 : Int) ≤ (0 : Int) - (1 : Int) ∧ (0 : Int) - (1 : Int) ≤ (9223372036854775807 : Int))) (V.gd (false == true && false == false) (V.i (-1))), pc 105 ((yyT31 ∧ yyT31 ∧ True) ∧ ((false == true && false == false) = true → (0 : Int) ≤ (-1 : Int) ∧ (-1 : Int) < (↑(1 : Nat) : Int))) (V.gd (false == true && false == false) (V.oel 1200062 10 (Int.toNat (-1 : Int)) (0 : Nat))), pc 106 ((yyT31 ∧ True) ∧ ((false == true && false == false) = true → True)) (V.gd (false == true && false == false) (V.oel 1200062 10 (Int.toNat (-1 : Int)) (8 : Nat))), pc 107 ((yyT31 ∧ True) ∧ ((false == true && false == false) = true → Int.toNat (-1 : Int) < (1 : Nat) ∧ (8 : Nat) ≤ (10 : Nat))) (V.gd (false == true && false == false) (V.i 0)), pc 108 ((yyT31 ∧ yyT31 ∧ True) ∧ ((false == true && false == false) = true → True)) (V.gd (false == true && false == false) (V.b false)), pc 109 (yyT33 ∧ ((false == true) = true → True) ∧ ((false == true) = true → false = false → (false == true && false == false) = true)) (V.gd (false == true) (V.b false)), pc 110 ((false = true → (false == true) = true) ∧ True) (V.b false), pv 111 (V.b false), pc 112 ((True ∧ True) ∧ ((false == false) = true → True)) (V.gd (false == false) (V.ref 1900013 8)), pc 113 ((((false == false) = true → (false == false) = true) ∧ True) ∧ ((false == false) = true → (8 : Nat) ≤ (10 : Nat))) (V.gd (false == false) (V.i 0)), pc 114 ((True ∧ True) ∧ ((false == false) = true → True)) (V.gd (false == false) (V.i 0)), pc 115 ((((false == false) = true → (false == false) = true) ∧ ((false == false) = true → (false == false) = true) ∧ True) ∧ ((false == false) = true → True)) (V.gd (false == false) (V.b false)), pc 116 (True ∧ (false = false → (false == false) = true)) (V.b false)] kR kR ⟨⟨⟨tI, tI⟩, (fun _ => tI)⟩, ⟨⟨(by (exact fun h => h)), tI⟩, (by (intro _; simp; done))⟩, ⟨⟨tI, tI⟩, (fun _ => tI)⟩, ⟨⟨(by (exact fun h => h)), tI⟩, (fun _ => tI)⟩, ⟨⟨(by (exact fun h => h)), tI⟩, (fun _ => tI)⟩, ⟨⟨(by (exact fun h => h)), tI⟩, (by (intro _; simp; done))⟩, ⟨⟨tI, tI⟩, (fun _ => tI)⟩, ⟨⟨(by (exact fun h => h)), ⟨tI, tI⟩⟩, (by (intro _; simp; done))⟩, ⟨⟨(by (exact fun h => h)), ⟨(by (exact fun h => h)), tI⟩⟩, (by (intro h; simp at h; done))⟩, ⟨⟨(by (exact fun h => h)), tI⟩, (fun _ => tI)⟩, ⟨⟨(by (exact fun h => h)), tI⟩, (by (intro _; simp; done))⟩, ⟨⟨(by (exact fun h => h)), ⟨(by (exact fun h => h)), tI⟩⟩, (fun _ => tI)⟩, ⟨⟨(by (exact fun h => h)), tI⟩, (fun _ => tI)⟩, ⟨⟨tI, tI⟩, (fun _ => tI)⟩, ⟨⟨(by (exact fun h => h)), tI⟩, (by (intro _; simp; done))⟩, ⟨⟨tI, tI⟩, (fun _ => tI)⟩, ⟨⟨(by (exact fun h => h)), tI⟩, (fun _ => tI)⟩, ⟨⟨(by (exact fun h => h)), tI⟩, (fun _ => tI)⟩, ⟨⟨(by (exact fun h => h)), tI⟩, (by (intro _; simp; done))⟩, ⟨⟨tI, tI⟩, (fun _ => tI)⟩, ⟨⟨(by (exact fun h => h)), ⟨tI, tI⟩⟩, (by (intro _; simp; done))⟩, ⟨⟨(by (exact fun h => h)), ⟨(by (exact fun h => h)), tI⟩⟩, (by (intro h; simp at h; done))⟩, ⟨⟨(by (exact fun h => h)), tI⟩, (fun _ => tI)⟩, ⟨⟨(by (exact fun h => h)), tI⟩, (by (intro _; simp; done))⟩, ⟨⟨(by (exact fun h => h)), ⟨(by (exact fun h => h)), tI⟩⟩, (fun _ => tI)⟩, ⟨(by (exact fun h => h)), ⟨(fun _ => tI), (by (intro h; simp at h; done))⟩⟩, ⟨(by (exact fun h => h)), tI⟩, ⟨⟨tI, tI⟩, (fun _ => tI)⟩, ⟨⟨(by (exact fun h => h)), tI⟩, (by (intro _; simp; done))⟩, ⟨⟨tI, tI⟩, (fun _ => tI)⟩, ⟨⟨(by (exact fun h => h)), ⟨(by (exact fun h => h)), tI⟩⟩, (fun _ => tI)⟩, ⟨tI, (by (intro h; rw [h]; rfl))⟩, tI⟩ ?_
 refine aops_nil ⟨kR, ?_⟩; refine xt_n (hK _ ?_); clear hK K; refine w_false (t := false) kR rfl ?_
 refine aw_skip ?_
 refine xt_n (hK _ ?_); clear hK K; refine sK fun K hK => wR 22 ?_
 refine aops_x (M := [24]) hTT 2 [] tI ?_
 refine nK hK ?_; clear hK K; refine w_false (t := false) kR rfl ?_
 refine aw_skip ?_
 refine xb_n ?_; refine xt_n (hK _ ?_); clear hK K; refine wR 23 ?_
 refine aops_x (M := [24]) hTT 2 [(0, .i ((0 : Int) + (1 : Int)))] ⟨oM, tI⟩ ?_
 refine nK hK ?_; clear hK K
 refine awr_succ (m := 1) fun K hK => ?_
 refine sK fun K hK => wR 24 ?_
 refine aops_x (M := [24]) hTT 1 [] tI ?_
 refine nK hK ?_; clear hK K; refine sK fun K hK => ?_; refine w_false (t := false) kR rfl ?_
 refine aw_exit ?_
 refine xt_x ?_; refine xt_x ?_
 refine xb_same ?_
 refine xt_n ?_; clear hK K; clear hK K; refine hK _ ?_; clear hK K; refine sK fun K hK => ?_; refine sK fun K hK => wR 25 ?_
 refine aops_x (M := [24]) hTT 5 [(3, .c ((2 : Nat) ≤ (3 : Nat)))] ⟨oM, tI⟩ ?_
 refine nK hK ?_; clear hK K; refine w_false (t := false) kR rfl ?_
 refine aw_skip ?_
 refine xt_n (hK _ ?_); clear hK K; refine sK fun K hK => ?_
 refine w_le (s' := ⟨mkT [(7, .ref 7 0)], mkS [(7, .box 112 [tksV, .own 8, .i 2]), (8, .row 116 10 1 plR)], 1⟩) ?_ ?_
 ·
  refine le_ren (tl := [(7, V.ref 7 0)]) (sl := [(7, Ob.box 112 [zzT30, V.own 8, V.i 2]), (8, Ob.row 116 10 1 plR)]) [(7, 500024), (8, 1200062)] (.cons kR .nil) (.cons ⟨Ob.box 112 [zzT30, V.own 1200062, V.i 2], kR, .box kR⟩ (.cons ⟨yyT30, kR, .row kR ?_⟩ .nil)) kR kR
  intro i hi
  obtain rfl : i = 0 := by omega
  rfl
 refine w_le pl3 ?_
 refine w_le (le_freezeBox (t := (112 : Nat)) (cs := [zzT30, V.sl 10 1 plR, V.i 2]) 7 kR kR) ?_
 refine wR 2 ?_; refine aX hTT 3 [] tI ?_; refine nK hK ?_; clear hK K
 refine aw_ret ?_
 refine rP (V.tup [V.ptr [zzT30, V.sl 10 1 plR, V.i 2], V.i 0])
def gV : V := .ptr [tksV, .sl 10 1 fun _ => ptC ++ [.i 0, .i 0, .i 2], .i 2]
set_option maxRecDepth 100000 in
theorem tGain_ac (k : Int) (hk : k = 0 ∨ k = 1) : AC Tryz.prog 87 [.agg (ptC ++ [.i 0, .i 0, .i 2]), .i k, .i 500] (.agg [.i 500, .i 1000]) [] := by
 rcases hk with rfl | rfl
 ·
  refine acI hTT hMX Tryz.func87 Tryz.ntmps87 fun C hC hF => ?_
  refine sK fun K hK => wR 2 ?_; refine aX hTT 2 [(1, .r (pn 6 (V.ref 100006 0) (100006 : Nat) (Ob.box 147 [V.i 0, V.i 0])))] tI ?_; refine nK hK ?_; clear hK K; refine sK fun K hK => wD 3 ?_; refine aX hTT 21 [(5, .i ((0 : Int) + (1 : Int))), (10, .i ((2 : Int) - (0 : Int))), (12, .i ((2 : Int) - (0 : Int))), (13, .i ((2 : Int) - (1 : Int))), (18, .i ((0 : Int) + (1 : Int)))] ⟨oM, oM, oM, oM, oM, tI⟩ ?_; refine aops_nil ⟨kR, ?_⟩; refine xt_n (hK _ ?_); clear hK K; refine sK fun K hK => wR 4 ?_; refine aX hTT 17 [(2, .i ((500 : Int) * (1 : Int))), (4, .i ((500 : Int) * (1 : Int))), (8, .i ((0 : Int) + (1 : Int))), (9, .i ((1000 : Int) * (1 : Int))), (13, .i ((0 : Int) + (1 : Int))), (14, .i ((1000 : Int) * (1 : Int))), (16, .r (pw ((0 : Nat) + (2 : Nat) ≤ (2 : Nat)) (100006 : Nat) (Ob.box 147 [V.i 500, V.i 1000])))] ⟨oM, oM, oM, oM, oM, oM, oM, tI⟩ ?_; refine nK hK ?_; clear hK K
  refine aw_ret ?_
  refine rP (V.agg [V.i 500, V.i 1000])
 ·
  refine acI hTT hMX Tryz.func87 Tryz.ntmps87 fun C hC hF => ?_
  refine sK fun K hK => wR 2 ?_; refine aX hTT 2 [(1, .r (pn 6 (V.ref 100006 0) (100006 : Nat) (Ob.box 147 [V.i 0, V.i 0])))] tI ?_; refine nK hK ?_; clear hK K; refine sK fun K hK => wD 3 ?_; refine aX hTT 21 [(5, .i ((0 : Int) + (1 : Int))), (10, .i ((2 : Int) - (0 : Int))), (12, .i ((2 : Int) - (1 : Int))), (13, .i ((1 : Int) - (1 : Int))), (18, .i ((0 : Int) + (1 : Int)))] ⟨oM, oM, oM, oM, oM, tI⟩ ?_; refine aops_nil ⟨kR, ?_⟩; refine xt_n (hK _ ?_); clear hK K; refine sK fun K hK => wR 4 ?_; refine aX hTT 17 [(2, .i ((500 : Int) * (1 : Int))), (4, .i ((500 : Int) * (1 : Int))), (8, .i ((0 : Int) + (1 : Int))), (9, .i ((1000 : Int) * (1 : Int))), (13, .i ((0 : Int) + (1 : Int))), (14, .i ((1000 : Int) * (1 : Int))), (16, .r (pw ((0 : Nat) + (2 : Nat) ≤ (2 : Nat)) (100006 : Nat) (Ob.box 147 [V.i 500, V.i 1000])))] ⟨oM, oM, oM, oM, oM, oM, oM, tI⟩ ?_; refine nK hK ?_; clear hK K
  refine aw_ret ?_
  refine rP (V.agg [V.i 500, V.i 1000])
set_option maxRecDepth 100000 in
theorem gOf_ac (n : Int) (hn : -100 ≤ n ∧ n ≤ 100) : AC Tryz.prog 88 [.agg [.i 500, .i 1000], .i n] (.i ((n * 500).tdiv 1000)) [] := by
 refine acI hTT hMX Tryz.func88 Tryz.ntmps88 fun C hC hF => ?_
 refine sK fun K hK => wR 2 ?_; refine aX hTT 2 [] tI ?_; refine nK hK ?_; clear hK K; refine sK fun K hK => wR 3 ?_; refine aX hTT 8 [(3, .i (n * 500)), (6, .c ((0 : Int) < (1000 : Int) ∧ (-9223372036854775808 : Int) ≤ n * 500 ∧ n * 500 ≤ (9223372036854775807 : Int)))] ⟨oM, ⟨oM, oM⟩, tI⟩ ?_; refine nK hK ?_; clear hK K
 refine aw_ret ?_
 refine rP (V.i (Int.tdiv (n * 500) (1000 : Int)))
set_option maxRecDepth 100000 in
theorem sound0_ac : AC Tryz.prog 57 [gV, .agg (ptC ++ [.i 0, .i 0, .i 2]), .i 0, .i 500] (.agg [.i 5, .i (-5)]) [] := by
 refine acI hTT hMX Tryz.func57 Tryz.ntmps57 fun C hC hF => ?_
 refine sK fun K hK => wR 2 ?_; refine aX hTT 2 [(1, .r (pn 8 (V.ref 100008 0) (100008 : Nat) (Ob.box 46 [V.i 0, V.i 0])))] tI ?_; refine nK hK ?_; clear hK K; refine sK fun K hK => wR 3 ?_; refine aX hTT 3 [] tI ?_
 refine eC (tGain_ac 0 (by decide)) ?_
 refine aX hTT 2 [] tI ?_; refine nK hK ?_; clear hK K; refine sK fun K hK => wD 4 ?_; refine aX hTT 19 [(7, .c qT30), (14, .i ((0 : Int) + (0 : Int))), (15, .c qT33), (17, .r (pn 10 (V.ref 300010 0) (300010 : Nat) (Ob.box 46 [V.i 0, V.i 0]))), (18, .r (pw ((0 : Nat) + (2 : Nat) ≤ (2 : Nat)) (300010 : Nat) (Ob.box 46 [V.i 10, V.i (-10)])))] ⟨qT30_, oM, qT33_, oM, tI⟩ ?_; refine aops_nil ⟨kR, ?_⟩; refine xt_n (hK _ ?_); clear hK K; refine sK fun K hK => wD 5 ?_; refine aX hTT 3 [(2, .c ((0 : Nat) ≤ (2 : Nat)))] ⟨oM, tI⟩ ?_
 refine e_call (first := [V.agg [V.i 500, V.i 1000]]) (caps := []) (gOf_ac 10 (by decide)) kR kR kR kR kR ?_
 refine aX hTT 3 [(2, .c ((1 : Nat) ≤ (2 : Nat)))] ⟨oM, tI⟩ ?_
 refine e_call (first := [V.agg [V.i 500, V.i 1000]]) (caps := []) (gOf_ac (-10) (by decide)) kR kR kR kR kR ?_
 refine aX hTT 2 [(1, .r (pw ((0 : Nat) + (2 : Nat) ≤ (2 : Nat)) (100008 : Nat) (Ob.box 46 [V.i 5, V.i (-5)])))] ⟨oM, tI⟩ ?_; refine aops_nil ⟨kR, ?_⟩; refine xt_n (hK _ ?_); clear hK K
 refine aw_ret ?_
 refine rP (V.agg [V.i 5, V.i (-5)])
set_option maxRecDepth 100000 in
theorem sound1_ac : AC Tryz.prog 57 [gV, .agg (ptC ++ [.i 0, .i 0, .i 2]), .i 1, .i 500] (.agg [.i 2, .i 0]) [] := by
 refine acI hTT hMX Tryz.func57 Tryz.ntmps57 fun C hC hF => ?_
 refine sK fun K hK => wR 2 ?_; refine aX hTT 2 [(1, .r (pn 8 (V.ref 100008 0) (100008 : Nat) (Ob.box 46 [V.i 0, V.i 0])))] tI ?_; refine nK hK ?_; clear hK K; refine sK fun K hK => wR 3 ?_; refine aX hTT 3 [] tI ?_
 refine eC (tGain_ac 1 (by decide)) ?_
 refine aX hTT 2 [] tI ?_; refine nK hK ?_; clear hK K; refine sK fun K hK => wD 4 ?_; refine aX hTT 19 [(7, .c qT30), (14, .i ((0 : Int) + (1 : Int))), (15, .c qT34), (17, .r (pn 10 (V.ref 300010 0) (300010 : Nat) (Ob.box 46 [V.i 0, V.i 0]))), (18, .r (pw ((0 : Nat) + (2 : Nat) ≤ (2 : Nat)) (300010 : Nat) (Ob.box 46 [V.i 5, V.i 0])))] ⟨qT30_, oM, qT34_, oM, tI⟩ ?_; refine aops_nil ⟨kR, ?_⟩; refine xt_n (hK _ ?_); clear hK K; refine sK fun K hK => wD 5 ?_; refine aX hTT 3 [(2, .c ((0 : Nat) ≤ (2 : Nat)))] ⟨oM, tI⟩ ?_
 refine e_call (first := [V.agg [V.i 500, V.i 1000]]) (caps := []) (gOf_ac 5 (by decide)) kR kR kR kR kR ?_
 refine aX hTT 3 [(2, .c ((1 : Nat) ≤ (2 : Nat)))] ⟨oM, tI⟩ ?_
 refine e_call (first := [V.agg [V.i 500, V.i 1000]]) (caps := []) (gOf_ac 0 (by decide)) kR kR kR kR kR ?_
 refine aX hTT 2 [(1, .r (pw ((0 : Nat) + (2 : Nat) ≤ (2 : Nat)) (100008 : Nat) (Ob.box 46 [V.i 2, V.i 0])))] ⟨oM, tI⟩ ?_; refine aops_nil ⟨kR, ?_⟩; refine xt_n (hK _ ?_); clear hK K
 refine aw_ret ?_
 refine rP (V.agg [V.i 2, V.i 0])
set_option maxRecDepth 100000 in
theorem tSum_ac (a b c d : Int) (h : (-100 ≤ a ∧ a ≤ 100) ∧ (-100 ≤ b ∧ b ≤ 100) ∧ (-100 ≤ c ∧ c ≤ 100) ∧ -100 ≤ d ∧ d ≤ 100) : AC Tryz.prog 56 [.agg [.i a, .i b], .agg [.i c, .i d]] (.agg [.i (a + c), .i (b + d)]) [] := by
 refine acI hTT hMX Tryz.func56 Tryz.ntmps56 fun C hC hF => ?_
 refine sK fun K hK => wR 2 ?_; refine aX hTT 3 [(2, .r (pn 4 (V.ref 100004 0) (100004 : Nat) (Ob.box 46 [V.i 0, V.i 0])))] tI ?_; refine nK hK ?_; clear hK K; refine sK fun K hK => wR 3 ?_; refine aX hTT 12 [(4, .i (a + c)), (9, .i (b + d)), (11, .r (pw ((0 : Nat) + (2 : Nat) ≤ (2 : Nat)) (100004 : Nat) (Ob.box 46 [V.i (a + c), V.i (b + d)])))] ⟨oM, oM, oM, tI⟩ ?_; refine nK hK ?_; clear hK K
 refine aw_ret ?_
 refine rP (V.agg [V.i (a + c), V.i (b + d)])
def rR : Nat → List V := fun j => [.i (gi [5, 2] j), .i (gi [-5, 0] j)]
theorem tCheck2 : AC Tryz.prog 34 [.sl 2 2 rR] (.i 0) [] :=
 (tCheckSamples_ac [(5, -5), (2, 0)] (by decide)).conv (show A2 [_] [_] from ⟨RImp.rows rfl fun i hi => by
  have hi : i < 2 := hi
  rcases (by omega : i = 0 ∨ i = 1) with rfl | rfl <;> rfl, trivial⟩)
theorem rR_idf (i : Nat) : V.idfL (rR i) = true := rfl
theorem tCheckR : AM Tryz.prog 34 [.own 500] [.row 46 2 2 rR] (.i 0) [some (.row 46 2 2 rR)] [] :=
 AC.rowK tCheck2 46 (sz := 2) (n := 2) (row := rR) rfl rfl (by decide) rR_idf rfl (by simp)
abbrev yyT35 : List V := [V.c (Value.int IntKind.i64 0), V.c (Value.int IntKind.i64 0)]
abbrev yyT34 : Ob := Ob.row 46 2 2 fun (j : Nat) => if j = 1 then [V.i 2, V.i 0] else if j = 0 then [V.i 5, V.i (-5)] else yyT35
set_option maxRecDepth 100000 in
theorem Render0_ac : AC Tryz.prog 25 [tksV, ptsV] (.tup [.own 0, .i 0]) [.row 46 2 2 fun i => [.i (gp [(5, -5), (2, 0)] i).1, .i (gp [(5, -5), (2, 0)] i).2]] := by
 refine acI hTT hMX Tryz.func25 Tryz.ntmps25 fun C hC hF => ?_
 refine sK fun K hK => wR 2 ?_; refine aX hTT 2 [] tI ?_; refine nK hK ?_; clear hK K; refine sK fun K hK => wR 3 ?_; refine aX hTT 2 [] tI ?_
 refine eC (newP_ac) ?_
 refine aX hTT 5 [] tI ?_; refine nK hK ?_; clear hK K; refine sK fun K hK => ?_; refine sK fun K hK => wR 4 ?_; refine aX hTT 2 [] tI ?_; refine nK hK ?_; clear hK K; refine w_false (t := false) kR rfl ?_
 refine aw_skip ?_
 refine xt_n (hK _ ?_); clear hK K; refine sK fun K hK => wR 5 ?_; refine aX hTT 6 [(4, .r (PR.mk (some (25 : Nat)) (some ((0 : Int) ≤ (2 : Int) ∧ (2 : Int) ≤ (2 : Int) ∧ (2 : Int) ≤ (1099511627776 : Int))) (V.own 400025) [((400025 : Nat), some (Ob.row 46 2 2 fun (x : Nat) => yyT35))] false))] ⟨⟨oM, oM⟩, tI⟩ ?_; refine nK hK ?_; clear hK K; refine sK fun K hK => ?_; refine sK fun K hK => wR 6 ?_; refine aX hTT 6 [] tI ?_; refine nK hK ?_; clear hK K
 refine aw_block ?_
 refine aw_rounds 3 ?_
 refine awr_succ (m := 2) fun K hK => ?_
 refine sK fun K hK => wR 7 ?_; refine aX hTT 1 [] tI ?_; refine nK hK ?_; clear hK K; refine sK fun K hK => ?_; refine w_true (t := true) kR rfl ?_
 refine aw_skip ?_
 refine xt_n (hK _ ?_); clear hK K; refine sK fun K hK => ?_
 refine aw_block ?_
 refine sK fun K hK => wR 8 ?_; refine aX hTT 4 [(0, .c qT30), (2, .r (pn 10 (V.ref 700010 0) (700010 : Nat) (Ob.box 116 [V.i 0, V.i 0, V.i 0, V.i 0, V.i 0, V.i 0, V.i 0, V.i 0, V.i 0, V.i 0]))), (3, .r (pw ((0 : Nat) + (10 : Nat) ≤ (10 : Nat)) (700010 : Nat) (Ob.box 116 [V.i 0, V.i 0, V.i 2, V.i 0, V.i 0, V.i 0, V.i 500, V.i 0, V.i 0, V.i 2])))] ⟨qT30_, oM, tI⟩ ?_; refine nK hK ?_; clear hK K; refine sK fun K hK => wR 9 ?_; refine aX hTT 3 [(1, .c qT31)] ⟨qT31_, tI⟩ ?_; refine nK hK ?_; clear hK K
 refine aw_block ?_
 refine aw_rounds 3 ?_
 refine awr_succ (m := 2) fun K hK => ?_
 refine sK fun K hK => ?_; refine sK fun K hK => wR 10 ?_; refine aX hTT 4 [(2, .c qT32)] ⟨qT32_, tI⟩ ?_; refine nK hK ?_; clear hK K; refine w_true (t := true) kR rfl ?_
 refine aw_skip ?_
 refine xt_n (hK _ ?_); clear hK K; refine sK fun K hK => ?_
 refine aw_block ?_
 refine wD 11 ?_; refine aX hTT 15 [(4, .c qT33), (5, .c ((0 : Nat) < (2 : Nat) ∧ (0 : Nat) ≤ (2 : Nat))), (7, .c ((0 : Nat) ≤ (10 : Nat))), (10, .c qT31), (11, .i ((0 : Int) - (0 : Int))), (14, .c ((6 : Nat) ≤ (10 : Nat)))] ⟨qT33_, oM, oM, qT31_, oM, oM, tI⟩ ?_
 refine eC (sound0_ac) ?_
 skip
 refine eC (tSum_ac 0 0 5 (-5) (by decide)) ?_
 refine aX hTT 2 [(0, .c qT33), (1, .r (pw ((0 : Nat) < (2 : Nat) ∧ (0 : Nat) + (2 : Nat) ≤ (2 : Nat)) (400025 : Nat) (Ob.row 46 2 2 fun (j : Nat) => if j = 0 then [V.i 5, V.i (-5)] else yyT35)))] ⟨qT33_, oM, tI⟩ ?_; refine aops_nil ⟨kR, ?_⟩; refine xb_n ?_; refine xt_n (hK _ ?_); clear hK K; refine wR 12 ?_; refine aX hTT 3 [(1, .i ((0 : Int) + (1 : Int)))] ⟨oM, tI⟩ ?_; refine nK hK ?_; clear hK K
 refine awr_succ (m := 1) fun K hK => ?_
 refine sK fun K hK => ?_; refine sK fun K hK => wR 13 ?_; refine aX hTT 4 [(2, .c qT32)] ⟨qT32_, tI⟩ ?_; refine nK hK ?_; clear hK K; refine w_true (t := true) kR rfl ?_
 refine aw_skip ?_
 refine xt_n (hK _ ?_); clear hK K; refine sK fun K hK => ?_
 refine aw_block ?_
 refine wD 14 ?_; refine aX hTT 15 [(4, .c qT34), (5, .c ((1 : Nat) < (2 : Nat) ∧ (0 : Nat) ≤ (2 : Nat))), (7, .c ((0 : Nat) ≤ (10 : Nat))), (10, .c qT31), (11, .i ((1 : Int) - (0 : Int))), (14, .c ((6 : Nat) ≤ (10 : Nat)))] ⟨qT34_, oM, oM, qT31_, oM, oM, tI⟩ ?_
 refine eC (sound1_ac) ?_
 skip
 refine eC (tSum_ac 0 0 2 0 (by decide)) ?_
 refine aX hTT 2 [(0, .c qT34), (1, .r (pw ((1 : Nat) < (2 : Nat) ∧ (0 : Nat) + (2 : Nat) ≤ (2 : Nat)) (400025 : Nat) (yyT34)))] ⟨qT34_, oM, tI⟩ ?_; refine aops_nil ⟨kR, ?_⟩; refine xb_n ?_; refine xt_n (hK _ ?_); clear hK K; refine wR 15 ?_; refine aX hTT 3 [(1, .i ((1 : Int) + (1 : Int)))] ⟨oM, tI⟩ ?_; refine nK hK ?_; clear hK K
 refine awr_succ (m := 0) fun K hK => ?_
 refine sK fun K hK => ?_; refine sK fun K hK => wR 16 ?_; refine aX hTT 4 [(2, .c qT32)] ⟨qT32_, tI⟩ ?_; refine nK hK ?_; clear hK K; refine w_false (t := false) kR rfl ?_
 refine aw_exit ?_
 refine xt_x ?_; refine xt_x ?_
 refine xb_same ?_
 refine xb_n ?_; refine xt_n ?_; clear hK K; clear hK K; refine hK _ ?_; clear hK K; refine wR 17 ?_; refine aX hTT 2 [(0, .i ((0 : Int) + (1 : Int)))] ⟨oM, tI⟩ ?_; refine nK hK ?_; clear hK K
 refine awr_succ (m := 1) fun K hK => ?_
 refine sK fun K hK => wR 18 ?_; refine aX hTT 1 [] tI ?_; refine nK hK ?_; clear hK K; refine sK fun K hK => ?_; refine w_false (t := false) kR rfl ?_
 refine aw_exit ?_
 refine xt_x ?_; refine xt_x ?_
 refine xb_same ?_
 refine xt_n ?_; clear hK K; clear hK K; refine hK _ ?_; clear hK K; refine sK fun K hK => ?_; refine sK fun K hK => ?_
 refine w_le (s' := ⟨mkT [(8, .own 8)], mkS [(8, .row 46 2 2 rR)], 1⟩) ?_ ?_
 ·
  refine le_ren (tl := [(8, V.own 8)]) (sl := [(8, Ob.row 46 2 2 rR)]) [(8, 400025)] (.cons kR .nil) (.cons ⟨yyT34, kR, .row kR ?_⟩ .nil) kR kR
  intro i hi
  rcases (by omega : i = 0 ∨ i = 1) with rfl | rfl <;> rfl
 refine wR 2 ?_; refine aX hTT 1 [] tI ?_
 refine aops_callR [8] (first := []) (caps := []) (ins' := [Ob.row 46 2 2 rR]) (v' := V.i 0) (δ := []) (kp := [8]) (tCheckR) kR kR kR kR kR kR kR rfl kR kR ⟨(fun _ _ => rfl), tI⟩ kR kR kR ?_
 refine aX hTT 1 [] tI ?_; refine nK hK ?_; clear hK K; refine w_false (t := false) kR rfl ?_
 refine aw_skip ?_
 refine xt_n (hK _ ?_); clear hK K; refine sK fun K hK => wR 3 ?_; refine aX hTT 3 [] tI ?_; refine nK hK ?_; clear hK K
 refine aw_ret ?_
 refine ret_own [(0, 8)] [(4, V.own 0), (5, V.i 0)] (.inr rfl) (.cons kR (.cons kR .nil)) (.cons ⟨Ob.row 46 2 2 rR, kR, .row kR ?_⟩ .nil) kR kR kR kR
 intro i hi
 rcases (by omega : i = 0 ∨ i = 1) with rfl | rfl <;> rfl
theorem Render1_ac : AC Tryz.prog 25 [tksV, ptsV] (.tup [V.pts [(5, -5), (2, 0)], .i 0]) [] := AC.shut1 Render0_ac rfl (fun i _ => rfl) (fun _ => rfl) rfl rfl
end Go.Proofs.YtepkjobndmmejaaGreatDoor

namespace Go.Proofs.YtepkjobndmmejaaGreatDoor
open Go.Ab Go.RowKit Go.Dw Go.Shelf
theorem exAp_ac : AC Tryz.prog 96 [V.cv ⟨[64], [128], 256⟩, V.ints [100, 0, 0, -3]] (.tup [V.ints [100, 75, 37, 15], .i 0]) [] := by
 have A := Apply_ac ⟨[64], [128], 256⟩ [100, 0, 0, -3] ⟨by decide, by decide⟩ (by decide)
 rw [show apR ⟨[64], [128], 256⟩ false [100, 0, 0, -3] = (0, [100, 75, 37, 15]) by decide +kernel] at A
 exact A
set_option maxRecDepth 100000 in
theorem works03_ac : AC Tryz.prog 66 [] (.b true) [] := by
 refine acI hTT hMX Tryz.func66 Tryz.ntmps66 fun C hC hF => ?_
 refine sK fun K hK => wR 2 ?_; refine aX hTT 1 [] tI ?_; refine nK hK ?_; clear hK K; refine sK fun K hK => wR 3 ?_; refine aX hTT 3 [(1, .r (pn 1 (V.ref 200001 0) (200001 : Nat) (Ob.box 24 [V.i 0, V.i 0, V.i 0, V.i 0, V.i 0, V.i 0, V.i 0]))), (2, .r (pw ((0 : Nat) + (7 : Nat) ≤ (7 : Nat)) (200001 : Nat) (Ob.box 24 [V.i 400, V.i 2000, V.i 200, V.i 2000, V.i 1000, V.i 1000, V.i 100])))] ⟨oM, tI⟩ ?_; refine nK hK ?_; clear hK K; refine sK fun K hK => wR 4 ?_; refine aX hTT 5 [(0, .c ((0 : Nat) ≤ (7 : Nat)))] ⟨oM, tI⟩ ?_
 refine eC (AC.conv (exCut_ac) (args' := [V.agg [V.i 400, V.i 2000, V.i 200, V.i 2000, V.i 1000, V.i 1000, V.i 100], V.sl 2 3 fun (i : Nat) => List.take (2 : Nat) (List.drop (i * 2) [V.i 0, V.i 0, V.i 100, V.i 100, V.i 0, V.i 0])]) ⟨RImp.refl _, ?_, trivial⟩) ?_
 ·
  exact gLit3 rfl rfl rfl
 refine aX hTT 5 [] tI ?_; refine nK hK ?_; clear hK K; refine sK fun K hK => wR 5 ?_; refine aX hTT 2 [(0, .c ((0 : Nat) ≤ (7 : Nat)))] ⟨oM, tI⟩ ?_
 refine eC (exL_ac) ?_
 refine aX hTT 5 [] tI ?_; refine nK hK ?_; clear hK K; refine sK fun K hK => wR 6 ?_; refine aX hTT 4 [] tI ?_
 refine eC (AC.conv (exAp_ac) (args' := [V.agg [V.sl 1 1 fun (i : Nat) => List.take (1 : Nat) (List.drop (i * 1) [V.i 64]), V.sl 1 1 fun (i : Nat) => List.take (1 : Nat) (List.drop (i * 1) [V.i 128]), V.i 256], V.sl 1 4 fun (i : Nat) => List.take (1 : Nat) (List.drop (i * 1) [V.i 100, V.i 0, V.i 0, V.i (-3)])]) ⟨?_, ?_, trivial⟩) ?_
 ·
  exact RImp.agg ⟨RImp.lit1 [64], RImp.lit1 [128], RImp.refl _, trivial⟩
 ·
  exact RImp.lit1 [100, 0, 0, -3]
 refine aX hTT 5 [] tI ?_; refine nK hK ?_; clear hK K; refine sK fun K hK => wR 7 ?_; refine aX hTT 7 [] tI ?_
 refine eC (AC.conv (Render1_ac) (args' := [V.sl 2 1 fun (i : Nat) => List.take (2 : Nat) (List.drop (i * 2) [V.c (Value.string (ByteArray.mk #[(97 : UInt8)])), V.sl 2 2 fun (i : Nat) => List.take (2 : Nat) (List.drop (i * 2) [V.i 10, V.i (-10), V.i 5, V.i 0])]), V.sl 7 1 fun (i : Nat) => List.take (7 : Nat) (List.drop (i * 7) [V.i 0, V.i 0, V.i 2, V.i 0, V.i 0, V.i 0, V.i 500])]) ⟨?_, ?_, trivial⟩) ?_
 ·
  exact RImp.rows rfl fun i hi => by
   have hi : i < 1 := hi
   obtain rfl : i = 0 := by omega
   rfl
 ·
  exact RImp.rows rfl fun i hi => by
   have hi : i < 1 := hi
   obtain rfl : i = 0 := by omega
   rfl
 refine aX hTT 5 [] tI ?_; refine nK hK ?_; clear hK K; refine sK fun K hK => wR 8 ?_; refine aX hTT 54 ((3, .c (gA (true == true) True)) :: (4, .c (gD (true == true) True)) :: (5, .c ((true = true → (true == true) = true) ∧ True)) :: (7, .c (gA (true == true) True)) :: (8, .c (gD (true == true) True)) :: (9, .c ((true = true → (true == true) = true) ∧ True)) :: (11, .c (gA (true == true) True)) :: (12, .c (gD (true == true) True)) :: (13, .c ((true = true → (true == true) = true) ∧ True)) :: (15, .c (gA (true == true) True)) :: (16, .c (gB (true == true) True)) :: (17, .c (gD (true == true) True)) :: (18, .c ((true = true → (true == true) = true) ∧ True)) :: (20, .c (gA (true == true) True)) :: (21, .c (gD (true == true) ((0 : Int) ≤ (1 : Int) ∧ (1 : Int) < (↑(3 : Nat) : Int)))) :: (22, .c (gB (true == true) True)) :: (23, .c ((True ∧ True ∧ True) ∧ ((true == true) = true → True))) :: (24, .c (gC (true == true) True)) :: (25, .c ((true = true → (true == true) = true) ∧ True)) :: (27, .c (gA (true == true) True)) :: (28, .c (gD (true == true) True)) :: (29, .c ((true = true → (true == true) = true) ∧ True)) :: (31, .c (gA (true == true) True)) :: (32, .c (gB (true == true) True)) :: (33, .c (gD (true == true) True)) :: (34, .c ((true = true → (true == true) = true) ∧ True)) :: (36, .c (gA (true == true) True)) :: (37, .c (gD (true == true) ((0 : Int) ≤ (1 : Int) ∧ (1 : Int) < (↑(4 : Nat) : Int)))) :: (38, .c (gB (true == true) True)) :: (39, .c (gD (true == true) True)) :: (40, .c ((true = true → (true == true) = true) ∧ True)) :: (42, .c (gA (true == true) True)) :: (43, .c (gB (true == true) True)) :: (44, .c (gD (true == true) True)) :: (45, .c ((true = true → (true == true) = true) ∧ True)) :: (47, .c (gA (true == true) True)) :: (48, .c (gD (true == true) ((0 : Int) ≤ (0 : Int) ∧ (0 : Int) < (↑(2 : Nat) : Int)))) :: (49, .c (gB (true == true) True)) :: (50, .c ((True ∧ True ∧ True) ∧ ((true == true) = true → True))) :: (51, .c (gC (true == true) True)) :: (52, .c ((true = true → (true == true) = true) ∧ True)) :: []) ⟨⟨⟨tI, tI⟩, (fun _ => tI)⟩, ⟨⟨(by (exact fun h => h)), ⟨tI, tI⟩⟩, (fun _ => tI)⟩, ⟨(by (exact fun h => h)), tI⟩, ⟨⟨tI, tI⟩, (fun _ => tI)⟩, ⟨⟨(by (exact fun h => h)), ⟨tI, tI⟩⟩, (fun _ => tI)⟩, ⟨(by (exact fun h => h)), tI⟩, ⟨⟨tI, tI⟩, (fun _ => tI)⟩, ⟨⟨(by (exact fun h => h)), ⟨tI, tI⟩⟩, (fun _ => tI)⟩, ⟨(by (exact fun h => h)), tI⟩, ⟨⟨tI, tI⟩, (fun _ => tI)⟩, ⟨⟨(by (exact fun h => h)), tI⟩, (fun _ => tI)⟩, ⟨⟨(by (exact fun h => h)), ⟨tI, tI⟩⟩, (fun _ => tI)⟩, ⟨(by (exact fun h => h)), tI⟩, ⟨⟨tI, tI⟩, (fun _ => tI)⟩, ⟨⟨(by (exact fun h => h)), ⟨tI, tI⟩⟩, (by (intro _; simp; done))⟩, ⟨⟨(by (exact fun h => h)), tI⟩, (fun _ => tI)⟩, ⟨⟨tI, ⟨tI, tI⟩⟩, (fun _ => tI)⟩, ⟨⟨(by (exact fun h => h)), ⟨(by (exact fun h => h)), tI⟩⟩, (fun _ => tI)⟩, ⟨(by (exact fun h => h)), tI⟩, ⟨⟨tI, tI⟩, (fun _ => tI)⟩, ⟨⟨(by (exact fun h => h)), ⟨tI, tI⟩⟩, (fun _ => tI)⟩, ⟨(by (exact fun h => h)), tI⟩, ⟨⟨tI, tI⟩, (fun _ => tI)⟩, ⟨⟨(by (exact fun h => h)), tI⟩, (fun _ => tI)⟩, ⟨⟨(by (exact fun h => h)), ⟨tI, tI⟩⟩, (fun _ => tI)⟩, ⟨(by (exact fun h => h)), tI⟩, ⟨⟨tI, tI⟩, (fun _ => tI)⟩, ⟨⟨(by (exact fun h => h)), ⟨tI, tI⟩⟩, (by (intro _; simp; done))⟩, ⟨⟨(by (exact fun h => h)), tI⟩, (fun _ => tI)⟩, ⟨⟨(by (exact fun h => h)), ⟨tI, tI⟩⟩, (fun _ => tI)⟩, ⟨(by (exact fun h => h)), tI⟩, ⟨⟨tI, tI⟩, (fun _ => tI)⟩, ⟨⟨(by (exact fun h => h)), tI⟩, (fun _ => tI)⟩, ⟨⟨(by (exact fun h => h)), ⟨tI, tI⟩⟩, (fun _ => tI)⟩, ⟨(by (exact fun h => h)), tI⟩, ⟨⟨tI, tI⟩, (fun _ => tI)⟩, ⟨⟨(by (exact fun h => h)), ⟨tI, tI⟩⟩, (by (intro _; simp; done))⟩, ⟨⟨(by (exact fun h => h)), tI⟩, (fun _ => tI)⟩, ⟨⟨tI, ⟨tI, tI⟩⟩, (fun _ => tI)⟩, ⟨⟨(by (exact fun h => h)), ⟨(by (exact fun h => h)), tI⟩⟩, (fun _ => tI)⟩, ⟨(by (exact fun h => h)), tI⟩, tI⟩ ?_; refine nK hK ?_; clear hK K
 refine aw_ret ?_
 refine rP (V.b true)
end Go.Proofs.YtepkjobndmmejaaGreatDoor

namespace Go.Proofs.YtepkjobndmmejaaGreatDoor
open Go.Ab Go.RowKit Go.Dw Go.Shelf
def nF : ByteArray := ⟨#[102]⟩
set_option maxRecDepth 100000 in
theorem sdOutside_ac (n lo hi : Int) : AC Tryz.prog 128 [.i n, .i lo, .i hi] (.b (decide (n < lo) || decide (hi < n))) [] := by
 refine acI hTT hMX Tryz.func128 Tryz.ntmps128 fun C hC hF => ?_
 refine sK fun K hK => wR 2 ?_; refine aX hTT 1 [] tI ?_; refine nK hK ?_; clear hK K; refine sK fun K hK => wR 3 ?_; refine aX hTT 9 [(4, .c (gA (decide (n < lo) == false) True)), (5, .c (gA (decide (n < lo) == false) True)), (6, .c (gC (decide (n < lo) == false) True)), (7, .c (True ∧ (decide (n < lo) = false → (decide (n < lo) == false) = true)))] ⟨⟨⟨tI, tI⟩, (fun _ => tI)⟩, ⟨⟨tI, tI⟩, (fun _ => tI)⟩, ⟨⟨(by (exact fun h => h)), ⟨(by (exact fun h => h)), tI⟩⟩, (fun _ => tI)⟩, ⟨tI, (by (intro h; rw [h]; rfl))⟩, tI⟩ ?_; refine nK hK ?_; clear hK K
 refine aw_ret ?_
 refine rP (V.b (decide (n < lo) || decide (hi < n)))
set_option maxRecDepth 100000 in
theorem sIsName_ac : AC Tryz.prog 127 [.c (.string nF)] (.b true) [] := by
 refine acI hTT hMX Tryz.func127 Tryz.ntmps127 fun C hC hF => ?_
 refine sK fun K hK => wR 2 ?_; refine aX hTT 1 [] tI ?_; refine nK hK ?_; clear hK K; refine sK fun K hK => ?_; refine sK fun K hK => wR 3 ?_; refine aX hTT 4 [] tI ?_; refine nK hK ?_; clear hK K
 refine aw_block ?_
 refine aw_rounds 3 ?_
 refine awr_succ (m := 2) fun K hK => ?_
 refine sK fun K hK => wR 4 ?_; refine aX hTT 1 [] tI ?_; refine nK hK ?_; clear hK K; refine sK fun K hK => ?_; refine w_true (t := true) kR rfl ?_
 refine aw_skip ?_
 refine xt_n (hK _ ?_); clear hK K; refine sK fun K hK => ?_
 refine aw_block ?_
 refine sK fun K hK => wR 5 ?_; refine aX hTT 3 [(0, .c ((0 : Int) ≤ (0 : Int) ∧ (0 : Int) < (↑(1 : Nat) : Int)))] ⟨oM, tI⟩ ?_; refine nK hK ?_; clear hK K; refine sK fun K hK => wR 6 ?_; refine aX hTT 14 [(3, .c (gA (false == false) True)), (4, .c (gD (false == false) True)), (5, .c (True ∧ (false = false → (false == false) = true))), (7, .c (gA (false == true) True)), (8, .c (gD (false == true) True)), (9, .c (gB (false == true) True)), (10, .c (gA (false == true && false == false) True)), (11, .c (gD (false == true && false == false) True)), (12, .c (((false == true) = true → (false == true) = true) ∧ ((false == true) = true → True) ∧ ((false == true) = true → false = false → (false == true && false == false) = true))), (13, .c ((false = true → (false == true) = true) ∧ True))] ⟨⟨⟨tI, tI⟩, (fun _ => tI)⟩, ⟨⟨(by (exact fun h => h)), ⟨tI, tI⟩⟩, (fun _ => tI)⟩, ⟨tI, (by (intro h; rw [h]; rfl))⟩, ⟨⟨tI, tI⟩, (fun _ => tI)⟩, ⟨⟨(by (exact fun h => h)), ⟨tI, tI⟩⟩, (fun _ => tI)⟩, ⟨⟨(by (exact fun h => h)), tI⟩, (fun _ => tI)⟩, ⟨⟨tI, tI⟩, (fun _ => tI)⟩, ⟨⟨(by (exact fun h => h)), ⟨tI, tI⟩⟩, (fun _ => tI)⟩, ⟨(by (exact fun h => h)), ⟨(fun _ => tI), (by (intro h; simp at h; done))⟩⟩, ⟨(by (exact fun h => h)), tI⟩, tI⟩ ?_; refine nK hK ?_; clear hK K; refine w_false (t := false) kR rfl ?_
 refine aw_skip ?_
 refine xb_n ?_; refine xt_n (hK _ ?_); clear hK K; refine wR 7 ?_; refine aX hTT 2 [(0, .i ((0 : Int) + (1 : Int)))] ⟨oM, tI⟩ ?_; refine nK hK ?_; clear hK K
 refine awr_succ (m := 1) fun K hK => ?_
 refine sK fun K hK => wR 8 ?_; refine aX hTT 1 [] tI ?_; refine nK hK ?_; clear hK K; refine sK fun K hK => ?_; refine w_false (t := false) kR rfl ?_
 refine aw_exit ?_
 refine xt_x ?_; refine xt_x ?_
 refine xb_same ?_
 refine xt_n ?_; clear hK K; clear hK K; refine hK _ ?_; clear hK K; refine sK fun K hK => wR 9 ?_; refine aX hTT 8 [(3, .c (gA (true == true) True)), (4, .c (gB (true == true) True)), (5, .c (gD (true == true) True)), (6, .c ((true = true → (true == true) = true) ∧ True))] ⟨⟨⟨tI, tI⟩, (fun _ => tI)⟩, ⟨⟨(by (exact fun h => h)), tI⟩, (fun _ => tI)⟩, ⟨⟨(by (exact fun h => h)), ⟨tI, tI⟩⟩, (fun _ => tI)⟩, ⟨(by (exact fun h => h)), tI⟩, tI⟩ ?_; refine nK hK ?_; clear hK K
 refine aw_ret ?_
 refine rP (V.b true)
def fmtF : List V := [.c (.string nF), .i 1000, .i 400, .i 10, .i 20, .i 10, .i 30, .i 5]
abbrev qT10 : Prop := (0 : Int) ≤ (0 : Int) ∧ (0 : Int) < (↑(3 : Nat) : Int)
theorem qT10_ : qT10 := oM
abbrev qT11 : Prop := (0 : Int) ≤ (1 : Int) ∧ (1 : Int) < (↑(3 : Nat) : Int)
theorem qT11_ : qT11 := oM
abbrev qT12 : Prop := (0 : Int) ≤ (2 : Int) ∧ (2 : Int) < (↑(3 : Nat) : Int)
theorem qT12_ : qT12 := oM
abbrev qT13 : Prop := (0 : Nat) ≤ (3 : Nat)
theorem qT13_ : qT13 := oM
abbrev qT14 : Prop := (0 : Int) ≤ gi [(1 : Int), (0 : Int), (2 : Int)] (0 : Nat) ∧ gi [(1 : Int), (0 : Int), (2 : Int)] (0 : Nat) < (↑(3 : Nat) : Int)
theorem qT14_ : qT14 := ⟨(by decide +kernel), (by decide +kernel)⟩
abbrev qT15 : Prop := (0 : Int) ≤ gi [(1 : Int), (0 : Int), (2 : Int)] (1 : Nat) ∧ gi [(1 : Int), (0 : Int), (2 : Int)] (1 : Nat) < (↑(3 : Nat) : Int)
theorem qT15_ : qT15 := ⟨(by decide +kernel), (by decide +kernel)⟩
abbrev qT16 : Prop := (0 : Int) ≤ gi [(1 : Int), (0 : Int), (2 : Int)] (2 : Nat) ∧ gi [(1 : Int), (0 : Int), (2 : Int)] (2 : Nat) < (↑(3 : Nat) : Int)
theorem qT16_ : qT16 := ⟨(by decide +kernel), (by decide +kernel)⟩
set_option maxRecDepth 100000 in
theorem CheckFormatF_ac : AC Tryz.prog 111 [.agg fmtF] (.i 0) [] := by
 refine acI hTT hMX Tryz.func111 Tryz.ntmps111 fun C hC hF => ?_
 refine sK fun K hK => wR 2 ?_; refine aX hTT 2 [] tI ?_; refine nK hK ?_; clear hK K; refine sK fun K hK => wR 3 ?_; refine aX hTT 2 [] tI ?_
 refine eC (sIsName_ac) ?_
 refine aX hTT 4 [(2, .c (gA (false == false) True)), (3, .c (gB (false == false) True))] ⟨⟨⟨tI, tI⟩, (fun _ => tI)⟩, ⟨⟨(by (exact fun h => h)), tI⟩, (fun _ => tI)⟩, tI⟩ ?_
 refine eG 1 (g := false == false) (fun _ => sdOutside_ac 1000 1 4194304) ?_
 refine aX hTT 7 [(0, .c (True ∧ (false = false → (false == false) = true))), (2, .c (gA (false == false) True)), (3, .c (gB (false == false) True)), (4, .c (gA (false == false) True)), (5, .c (gB (false == false) True)), (6, .c (gD (false == false) ((-9223372036854775808 : Int) ≤ (1000 : Int) - (1 : Int) ∧ (1000 : Int) - (1 : Int) ≤ (9223372036854775807 : Int))))] ⟨⟨tI, (by (intro h; rw [h]; rfl))⟩, ⟨⟨tI, tI⟩, (fun _ => tI)⟩, ⟨⟨(by (exact fun h => h)), tI⟩, (fun _ => tI)⟩, ⟨⟨tI, tI⟩, (fun _ => tI)⟩, ⟨⟨(by (exact fun h => h)), tI⟩, (fun _ => tI)⟩, ⟨⟨(by (exact fun h => h)), ⟨tI, tI⟩⟩, (by (intro _; simp; done))⟩, tI⟩ ?_
 refine eG 2 (g := false == false) (fun _ => sdOutside_ac 400 0 999) ?_
 refine aX hTT 4 [(0, .c (True ∧ (false = false → (false == false) = true))), (2, .c (gA (false == false) True)), (3, .c (gB (false == false) True))] ⟨⟨tI, (by (intro h; rw [h]; rfl))⟩, ⟨⟨tI, tI⟩, (fun _ => tI)⟩, ⟨⟨(by (exact fun h => h)), tI⟩, (fun _ => tI)⟩, tI⟩ ?_
 refine eG 1 (g := false == false) (fun _ => sdOutside_ac 10 1 65536) ?_
 refine aX hTT 4 [(0, .c (True ∧ (false = false → (false == false) = true))), (2, .c (gA (false == false) True)), (3, .c (gB (false == false) True))] ⟨⟨tI, (by (intro h; rw [h]; rfl))⟩, ⟨⟨tI, tI⟩, (fun _ => tI)⟩, ⟨⟨(by (exact fun h => h)), tI⟩, (fun _ => tI)⟩, tI⟩ ?_
 refine eG 1 (g := false == false) (fun _ => sdOutside_ac 5 0 1048576) ?_
 refine aX hTT 2 [(0, .c (True ∧ (false = false → (false == false) = true)))] ⟨⟨tI, (by (intro h; rw [h]; rfl))⟩, tI⟩ ?_; refine nK hK ?_; clear hK K; refine sK fun K hK => ?_; refine sK fun K hK => wR 4 ?_; refine aX hTT 8 [] tI ?_; refine nK hK ?_; clear hK K
 refine aw_block ?_
 refine aw_rounds 4 ?_
 refine awr_succ (m := 3) fun K hK => ?_
 refine sK fun K hK => wR 5 ?_; refine aX hTT 1 [] tI ?_; refine nK hK ?_; clear hK K; refine sK fun K hK => ?_; refine w_true (t := true) kR rfl ?_
 refine aw_skip ?_
 refine xt_n (hK _ ?_); clear hK K; refine sK fun K hK => ?_
 refine aw_block ?_
 refine sK fun K hK => wR 6 ?_; refine aX hTT 2 [(0, .c qT10)] ⟨qT10_, tI⟩ ?_; refine nK hK ?_; clear hK K; refine wR 7 ?_; refine aX hTT 3 [(2, .c (gA (false == false) True))] ⟨⟨⟨tI, tI⟩, (fun _ => tI)⟩, tI⟩ ?_
 refine eG 1 (g := false == false) (fun _ => sdOutside_ac 20 0 4194304) ?_
 refine aX hTT 2 [(0, .c (True ∧ (false = false → (false == false) = true)))] ⟨⟨tI, (by (intro h; rw [h]; rfl))⟩, tI⟩ ?_; refine aops_nil ?_; refine xb_n ?_; refine xt_n (hK _ ?_); clear hK K; refine wR 8 ?_; refine aX hTT 2 [(0, .i ((0 : Int) + (1 : Int)))] ⟨oM, tI⟩ ?_; refine nK hK ?_; clear hK K
 refine awr_succ (m := 2) fun K hK => ?_
 refine sK fun K hK => wR 9 ?_; refine aX hTT 1 [] tI ?_; refine nK hK ?_; clear hK K; refine sK fun K hK => ?_; refine w_true (t := true) kR rfl ?_
 refine aw_skip ?_
 refine xt_n (hK _ ?_); clear hK K; refine sK fun K hK => ?_
 refine aw_block ?_
 refine sK fun K hK => wR 10 ?_; refine aX hTT 2 [(0, .c qT11)] ⟨qT11_, tI⟩ ?_; refine nK hK ?_; clear hK K; refine wR 11 ?_; refine aX hTT 3 [(2, .c (gA (false == false) True))] ⟨⟨⟨tI, tI⟩, (fun _ => tI)⟩, tI⟩ ?_
 refine eG 1 (g := false == false) (fun _ => sdOutside_ac 10 0 4194304) ?_
 refine aX hTT 2 [(0, .c (True ∧ (false = false → (false == false) = true)))] ⟨⟨tI, (by (intro h; rw [h]; rfl))⟩, tI⟩ ?_; refine aops_nil ?_; refine xb_n ?_; refine xt_n (hK _ ?_); clear hK K; refine wR 12 ?_; refine aX hTT 2 [(0, .i ((1 : Int) + (1 : Int)))] ⟨oM, tI⟩ ?_; refine nK hK ?_; clear hK K
 refine awr_succ (m := 1) fun K hK => ?_
 refine sK fun K hK => wR 13 ?_; refine aX hTT 1 [] tI ?_; refine nK hK ?_; clear hK K; refine sK fun K hK => ?_; refine w_true (t := true) kR rfl ?_
 refine aw_skip ?_
 refine xt_n (hK _ ?_); clear hK K; refine sK fun K hK => ?_
 refine aw_block ?_
 refine sK fun K hK => wR 14 ?_; refine aX hTT 2 [(0, .c qT12)] ⟨qT12_, tI⟩ ?_; refine nK hK ?_; clear hK K; refine wR 15 ?_; refine aX hTT 3 [(2, .c (gA (false == false) True))] ⟨⟨⟨tI, tI⟩, (fun _ => tI)⟩, tI⟩ ?_
 refine eG 1 (g := false == false) (fun _ => sdOutside_ac 30 0 4194304) ?_
 refine aX hTT 2 [(0, .c (True ∧ (false = false → (false == false) = true)))] ⟨⟨tI, (by (intro h; rw [h]; rfl))⟩, tI⟩ ?_; refine aops_nil ?_; refine xb_n ?_; refine xt_n (hK _ ?_); clear hK K; refine wR 16 ?_; refine aX hTT 2 [(0, .i ((2 : Int) + (1 : Int)))] ⟨oM, tI⟩ ?_; refine nK hK ?_; clear hK K
 refine awr_succ (m := 0) fun K hK => ?_
 refine sK fun K hK => wR 17 ?_; refine aX hTT 1 [] tI ?_; refine nK hK ?_; clear hK K; refine sK fun K hK => ?_; refine w_false (t := false) kR rfl ?_
 refine aw_exit ?_
 refine xt_x ?_; refine xt_x ?_
 refine xb_same ?_
 refine xt_n ?_; clear hK K; clear hK K; refine hK _ ?_; clear hK K; refine sK fun K hK => ?_; refine sK fun K hK => wR 18 ?_; refine aX hTT 1 [] tI ?_; refine nK hK ?_; clear hK K; refine w_false (t := false) kR rfl ?_
 refine aw_skip ?_
 refine xt_n (hK _ ?_); clear hK K; refine sK fun K hK => wR 19 ?_; refine aX hTT 1 [] tI ?_; refine nK hK ?_; clear hK K
 refine aw_ret ?_
 refine rP (V.i 0)
def trk (l : List (Int × Int × Int)) : V := .sl 3 l.length fun i => [.i (l.getD i (0, 0, 0)).1, .i (l.getD i (0, 0, 0)).2.1, .i (l.getD i (0, 0, 0)).2.2]
set_option maxRecDepth 100000 in
theorem CheckTracks1_ac : AC Tryz.prog 112 [trk [(95, 20, 500)]] (.i 0) [] := by
 refine acI hTT hMX Tryz.func112 Tryz.ntmps112 fun C hC hF => ?_
 refine sK fun K hK => wR 2 ?_; refine aX hTT 1 [] tI ?_; refine nK hK ?_; clear hK K; refine sK fun K hK => ?_; refine sK fun K hK => wR 3 ?_; refine aX hTT 3 [] tI ?_; refine nK hK ?_; clear hK K; refine w_false (t := false) kR rfl ?_
 refine aw_skip ?_
 refine xt_n (hK _ ?_); clear hK K; refine sK fun K hK => ?_; refine sK fun K hK => wR 4 ?_; refine aX hTT 3 [] tI ?_; refine nK hK ?_; clear hK K
 refine aw_block ?_
 refine aw_rounds 4 ?_
 refine awr_succ (m := 3) fun K hK => ?_
 refine sK fun K hK => wR 5 ?_; refine aX hTT 1 [] tI ?_; refine nK hK ?_; clear hK K; refine sK fun K hK => ?_; refine w_true (t := true) kR rfl ?_
 refine aw_skip ?_
 refine xt_n (hK _ ?_); clear hK K; refine sK fun K hK => ?_
 refine aw_block ?_
 refine sK fun K hK => wR 6 ?_; refine aX hTT 4 [(0, .c ((0 : Int) ≤ (0 : Int) ∧ (0 : Int) < (↑(1 : Nat) : Int))), (2, .r (pn 4 (V.ref 500004 0) (500004 : Nat) (Ob.box 124 [V.i 0, V.i 0, V.i 0]))), (3, .r (pw ((0 : Nat) + (3 : Nat) ≤ (3 : Nat)) (500004 : Nat) (Ob.box 124 [V.i 95, V.i 20, V.i 500])))] ⟨oM, oM, tI⟩ ?_; refine nK hK ?_; clear hK K; refine sK fun K hK => wR 7 ?_; refine aX hTT 2 [(1, .c qT13)] ⟨qT13_, tI⟩ ?_
 refine eC (sdOutside_ac 95 1 16777216) ?_
 refine aX hTT 3 [(1, .c (gA (false == false) True)), (2, .c (gB (false == false) ((1 : Nat) ≤ (3 : Nat))))] ⟨⟨⟨tI, tI⟩, (fun _ => tI)⟩, ⟨⟨(by (exact fun h => h)), tI⟩, (by (intro _; simp; done))⟩, tI⟩ ?_
 refine eG 1 (g := false == false) (fun _ => sdOutside_ac 20 1 4096) ?_
 refine aX hTT 4 [(0, .c (True ∧ (false = false → (false == false) = true))), (2, .c (gA (false == false) True)), (3, .c (gB (false == false) ((2 : Nat) ≤ (3 : Nat))))] ⟨⟨tI, (by (intro h; rw [h]; rfl))⟩, ⟨⟨tI, tI⟩, (fun _ => tI)⟩, ⟨⟨(by (exact fun h => h)), tI⟩, (by (intro _; simp; done))⟩, tI⟩ ?_
 refine eG 1 (g := false == false) (fun _ => sdOutside_ac 500 0 4194304) ?_
 refine aX hTT 1 [(0, .c (True ∧ (false = false → (false == false) = true)))] ⟨⟨tI, (by (intro h; rw [h]; rfl))⟩, tI⟩ ?_; refine nK hK ?_; clear hK K; refine w_false (t := false) kR rfl ?_
 refine aw_skip ?_
 refine xb_n ?_; refine xt_n (hK _ ?_); clear hK K; refine wR 8 ?_; refine aX hTT 2 [(0, .i ((0 : Int) + (1 : Int)))] ⟨oM, tI⟩ ?_; refine nK hK ?_; clear hK K
 refine awr_succ (m := 2) fun K hK => ?_
 refine sK fun K hK => wR 9 ?_; refine aX hTT 1 [] tI ?_; refine nK hK ?_; clear hK K; refine sK fun K hK => ?_; refine w_false (t := false) kR rfl ?_
 refine aw_exit ?_
 refine xt_x ?_; refine xt_x ?_
 refine xb_same ?_
 refine xt_n ?_; clear hK K; clear hK K; refine hK _ ?_; clear hK K; refine sK fun K hK => wR 10 ?_; refine aX hTT 1 [] tI ?_; refine nK hK ?_; clear hK K
 refine aw_ret ?_
 refine rP (V.i 0)
set_option maxRecDepth 100000 in
theorem CheckTracks3_ac : AC Tryz.prog 112 [trk [(95, 20, 500), (30, 40, 800), (41, 10, 0)]] (.i 0) [] := by
 refine acI hTT hMX Tryz.func112 Tryz.ntmps112 fun C hC hF => ?_
 refine sK fun K hK => wR 2 ?_; refine aX hTT 1 [] tI ?_; refine nK hK ?_; clear hK K; refine sK fun K hK => ?_; refine sK fun K hK => wR 3 ?_; refine aX hTT 3 [] tI ?_; refine nK hK ?_; clear hK K; refine w_false (t := false) kR rfl ?_
 refine aw_skip ?_
 refine xt_n (hK _ ?_); clear hK K; refine sK fun K hK => ?_; refine sK fun K hK => wR 4 ?_; refine aX hTT 3 [] tI ?_; refine nK hK ?_; clear hK K
 refine aw_block ?_
 refine aw_rounds 4 ?_
 refine awr_succ (m := 3) fun K hK => ?_
 refine sK fun K hK => wR 5 ?_; refine aX hTT 1 [] tI ?_; refine nK hK ?_; clear hK K; refine sK fun K hK => ?_; refine w_true (t := true) kR rfl ?_
 refine aw_skip ?_
 refine xt_n (hK _ ?_); clear hK K; refine sK fun K hK => ?_
 refine aw_block ?_
 refine sK fun K hK => wR 6 ?_; refine aX hTT 4 [(0, .c qT10), (2, .r (pn 4 (V.ref 500004 0) (500004 : Nat) (Ob.box 124 [V.i 0, V.i 0, V.i 0]))), (3, .r (pw ((0 : Nat) + (3 : Nat) ≤ (3 : Nat)) (500004 : Nat) (Ob.box 124 [V.i 95, V.i 20, V.i 500])))] ⟨qT10_, oM, tI⟩ ?_; refine nK hK ?_; clear hK K; refine sK fun K hK => wR 7 ?_; refine aX hTT 2 [(1, .c qT13)] ⟨qT13_, tI⟩ ?_
 refine eC (sdOutside_ac 95 1 16777216) ?_
 refine aX hTT 3 [(1, .c (gA (false == false) True)), (2, .c (gB (false == false) ((1 : Nat) ≤ (3 : Nat))))] ⟨⟨⟨tI, tI⟩, (fun _ => tI)⟩, ⟨⟨(by (exact fun h => h)), tI⟩, (by (intro _; simp; done))⟩, tI⟩ ?_
 refine eG 1 (g := false == false) (fun _ => sdOutside_ac 20 1 4096) ?_
 refine aX hTT 4 [(0, .c (True ∧ (false = false → (false == false) = true))), (2, .c (gA (false == false) True)), (3, .c (gB (false == false) ((2 : Nat) ≤ (3 : Nat))))] ⟨⟨tI, (by (intro h; rw [h]; rfl))⟩, ⟨⟨tI, tI⟩, (fun _ => tI)⟩, ⟨⟨(by (exact fun h => h)), tI⟩, (by (intro _; simp; done))⟩, tI⟩ ?_
 refine eG 1 (g := false == false) (fun _ => sdOutside_ac 500 0 4194304) ?_
 refine aX hTT 1 [(0, .c (True ∧ (false = false → (false == false) = true)))] ⟨⟨tI, (by (intro h; rw [h]; rfl))⟩, tI⟩ ?_; refine nK hK ?_; clear hK K; refine w_false (t := false) kR rfl ?_
 refine aw_skip ?_
 refine xb_n ?_; refine xt_n (hK _ ?_); clear hK K; refine wR 8 ?_; refine aX hTT 2 [(0, .i ((0 : Int) + (1 : Int)))] ⟨oM, tI⟩ ?_; refine nK hK ?_; clear hK K
 refine awr_succ (m := 2) fun K hK => ?_
 refine sK fun K hK => wR 9 ?_; refine aX hTT 1 [] tI ?_; refine nK hK ?_; clear hK K; refine sK fun K hK => ?_; refine w_true (t := true) kR rfl ?_
 refine aw_skip ?_
 refine xt_n (hK _ ?_); clear hK K; refine sK fun K hK => ?_
 refine aw_block ?_
 refine sK fun K hK => wR 10 ?_; refine aX hTT 4 [(0, .c qT11), (2, .r (pn 4 (V.ref 900004 0) (900004 : Nat) (Ob.box 124 [V.i 0, V.i 0, V.i 0]))), (3, .r (pw ((0 : Nat) + (3 : Nat) ≤ (3 : Nat)) (900004 : Nat) (Ob.box 124 [V.i 30, V.i 40, V.i 800])))] ⟨qT11_, oM, tI⟩ ?_; refine nK hK ?_; clear hK K; refine sK fun K hK => wR 11 ?_; refine aX hTT 2 [(1, .c qT13)] ⟨qT13_, tI⟩ ?_
 refine eC (sdOutside_ac 30 1 16777216) ?_
 refine aX hTT 3 [(1, .c (gA (false == false) True)), (2, .c (gB (false == false) ((1 : Nat) ≤ (3 : Nat))))] ⟨⟨⟨tI, tI⟩, (fun _ => tI)⟩, ⟨⟨(by (exact fun h => h)), tI⟩, (by (intro _; simp; done))⟩, tI⟩ ?_
 refine eG 1 (g := false == false) (fun _ => sdOutside_ac 40 1 4096) ?_
 refine aX hTT 4 [(0, .c (True ∧ (false = false → (false == false) = true))), (2, .c (gA (false == false) True)), (3, .c (gB (false == false) ((2 : Nat) ≤ (3 : Nat))))] ⟨⟨tI, (by (intro h; rw [h]; rfl))⟩, ⟨⟨tI, tI⟩, (fun _ => tI)⟩, ⟨⟨(by (exact fun h => h)), tI⟩, (by (intro _; simp; done))⟩, tI⟩ ?_
 refine eG 1 (g := false == false) (fun _ => sdOutside_ac 800 0 4194304) ?_
 refine aX hTT 1 [(0, .c (True ∧ (false = false → (false == false) = true)))] ⟨⟨tI, (by (intro h; rw [h]; rfl))⟩, tI⟩ ?_; refine nK hK ?_; clear hK K; refine w_false (t := false) kR rfl ?_
 refine aw_skip ?_
 refine xb_n ?_; refine xt_n (hK _ ?_); clear hK K; refine wR 12 ?_; refine aX hTT 2 [(0, .i ((1 : Int) + (1 : Int)))] ⟨oM, tI⟩ ?_; refine nK hK ?_; clear hK K
 refine awr_succ (m := 1) fun K hK => ?_
 refine sK fun K hK => wR 13 ?_; refine aX hTT 1 [] tI ?_; refine nK hK ?_; clear hK K; refine sK fun K hK => ?_; refine w_true (t := true) kR rfl ?_
 refine aw_skip ?_
 refine xt_n (hK _ ?_); clear hK K; refine sK fun K hK => ?_
 refine aw_block ?_
 refine sK fun K hK => wR 14 ?_; refine aX hTT 4 [(0, .c qT12), (2, .r (pn 4 (V.ref 1300004 0) (1300004 : Nat) (Ob.box 124 [V.i 0, V.i 0, V.i 0]))), (3, .r (pw ((0 : Nat) + (3 : Nat) ≤ (3 : Nat)) (1300004 : Nat) (Ob.box 124 [V.i 41, V.i 10, V.i 0])))] ⟨qT12_, oM, tI⟩ ?_; refine nK hK ?_; clear hK K; refine sK fun K hK => wR 15 ?_; refine aX hTT 2 [(1, .c qT13)] ⟨qT13_, tI⟩ ?_
 refine eC (sdOutside_ac 41 1 16777216) ?_
 refine aX hTT 3 [(1, .c (gA (false == false) True)), (2, .c (gB (false == false) ((1 : Nat) ≤ (3 : Nat))))] ⟨⟨⟨tI, tI⟩, (fun _ => tI)⟩, ⟨⟨(by (exact fun h => h)), tI⟩, (by (intro _; simp; done))⟩, tI⟩ ?_
 refine eG 1 (g := false == false) (fun _ => sdOutside_ac 10 1 4096) ?_
 refine aX hTT 4 [(0, .c (True ∧ (false = false → (false == false) = true))), (2, .c (gA (false == false) True)), (3, .c (gB (false == false) ((2 : Nat) ≤ (3 : Nat))))] ⟨⟨tI, (by (intro h; rw [h]; rfl))⟩, ⟨⟨tI, tI⟩, (fun _ => tI)⟩, ⟨⟨(by (exact fun h => h)), tI⟩, (by (intro _; simp; done))⟩, tI⟩ ?_
 refine eG 1 (g := false == false) (fun _ => sdOutside_ac 0 0 4194304) ?_
 refine aX hTT 1 [(0, .c (True ∧ (false = false → (false == false) = true)))] ⟨⟨tI, (by (intro h; rw [h]; rfl))⟩, tI⟩ ?_; refine nK hK ?_; clear hK K; refine w_false (t := false) kR rfl ?_
 refine aw_skip ?_
 refine xb_n ?_; refine xt_n (hK _ ?_); clear hK K; refine wR 16 ?_; refine aX hTT 2 [(0, .i ((2 : Int) + (1 : Int)))] ⟨oM, tI⟩ ?_; refine nK hK ?_; clear hK K
 refine awr_succ (m := 0) fun K hK => ?_
 refine sK fun K hK => wR 17 ?_; refine aX hTT 1 [] tI ?_; refine nK hK ?_; clear hK K; refine sK fun K hK => ?_; refine w_false (t := false) kR rfl ?_
 refine aw_exit ?_
 refine xt_x ?_; refine xt_x ?_
 refine xb_same ?_
 refine xt_n ?_; clear hK K; clear hK K; refine hK _ ?_; clear hK K; refine sK fun K hK => wR 18 ?_; refine aX hTT 1 [] tI ?_; refine nK hK ?_; clear hK K
 refine aw_ret ?_
 refine rP (V.i 0)
set_option maxRecDepth 100000 in
theorem open1_ac : AC Tryz.prog 91 [.agg fmtF, trk [(95, 20, 500)]] (.tup [.ptr (fmtF ++ [trk [(95, 20, 500)]]), .i 0]) [] := by
 refine acI hTT hMX Tryz.func91 Tryz.ntmps91 fun C hC hF => ?_
 refine sK fun K hK => wR 2 ?_; refine aX hTT 3 [] tI ?_; refine nK hK ?_; clear hK K; refine sK fun K hK => ?_; refine sK fun K hK => wR 3 ?_; refine aX hTT 1 [] tI ?_
 refine eC (CheckFormatF_ac) ?_
 refine aX hTT 1 [] tI ?_; refine nK hK ?_; clear hK K; refine sK fun K hK => wR 4 ?_; refine aX hTT 2 [] tI ?_; refine nK hK ?_; clear hK K; refine w_false (t := false) kR rfl ?_
 refine aw_skip ?_
 refine xt_n (hK _ ?_); clear hK K; refine sK fun K hK => ?_; refine sK fun K hK => wR 5 ?_; refine aX hTT 1 [] tI ?_
 refine eC (CheckTracks1_ac) ?_
 refine aX hTT 1 [] tI ?_; refine nK hK ?_; clear hK K; refine sK fun K hK => wR 6 ?_; refine aX hTT 2 [] tI ?_; refine nK hK ?_; clear hK K; refine w_false (t := false) kR rfl ?_
 refine aw_skip ?_
 refine xt_n (hK _ ?_); clear hK K; refine sK fun K hK => wR 7 ?_; refine aX hTT 6 [] tI ?_; refine nK hK ?_; clear hK K
 refine aw_ret ?_
 refine rP (V.tup [V.ptr [V.c (Value.string nF), V.i 1000, V.i 400, V.i 10, V.i 20, V.i 10, V.i 30, V.i 5, V.sl 3 1 fun (i : Nat) => [V.i (Prod.fst (List.getD [((95 : Int), (20 : Int), (500 : Int))] i ((0 : Int), (0 : Int), (0 : Int)))), V.i (Prod.fst (Prod.snd (List.getD [((95 : Int), (20 : Int), (500 : Int))] i ((0 : Int), (0 : Int), (0 : Int))))), V.i (Prod.snd (Prod.snd (List.getD [((95 : Int), (20 : Int), (500 : Int))] i ((0 : Int), (0 : Int), (0 : Int)))))]], V.i 0])
set_option maxRecDepth 100000 in
theorem open3_ac : AC Tryz.prog 91 [.agg fmtF, trk [(95, 20, 500), (30, 40, 800), (41, 10, 0)]] (.tup [.ptr (fmtF ++ [trk [(95, 20, 500), (30, 40, 800), (41, 10, 0)]]), .i 0]) [] := by
 refine acI hTT hMX Tryz.func91 Tryz.ntmps91 fun C hC hF => ?_
 refine sK fun K hK => wR 2 ?_; refine aX hTT 3 [] tI ?_; refine nK hK ?_; clear hK K; refine sK fun K hK => ?_; refine sK fun K hK => wR 3 ?_; refine aX hTT 1 [] tI ?_
 refine eC (CheckFormatF_ac) ?_
 refine aX hTT 1 [] tI ?_; refine nK hK ?_; clear hK K; refine sK fun K hK => wR 4 ?_; refine aX hTT 2 [] tI ?_; refine nK hK ?_; clear hK K; refine w_false (t := false) kR rfl ?_
 refine aw_skip ?_
 refine xt_n (hK _ ?_); clear hK K; refine sK fun K hK => ?_; refine sK fun K hK => wR 5 ?_; refine aX hTT 1 [] tI ?_
 refine eC (CheckTracks3_ac) ?_
 refine aX hTT 1 [] tI ?_; refine nK hK ?_; clear hK K; refine sK fun K hK => wR 6 ?_; refine aX hTT 2 [] tI ?_; refine nK hK ?_; clear hK K; refine w_false (t := false) kR rfl ?_
 refine aw_skip ?_
 refine xt_n (hK _ ?_); clear hK K; refine sK fun K hK => wR 7 ?_; refine aX hTT 6 [] tI ?_; refine nK hK ?_; clear hK K
 refine aw_ret ?_
 refine rP (V.tup [V.ptr [V.c (Value.string nF), V.i 1000, V.i 400, V.i 10, V.i 20, V.i 10, V.i 30, V.i 5, V.sl 3 3 fun (i : Nat) => [V.i (Prod.fst (List.getD [((95 : Int), (20 : Int), (500 : Int)), ((30 : Int), (40 : Int), (800 : Int)), ((41 : Int), (10 : Int), (0 : Int))] i ((0 : Int), (0 : Int), (0 : Int)))), V.i (Prod.fst (Prod.snd (List.getD [((95 : Int), (20 : Int), (500 : Int)), ((30 : Int), (40 : Int), (800 : Int)), ((41 : Int), (10 : Int), (0 : Int))] i ((0 : Int), (0 : Int), (0 : Int))))), V.i (Prod.snd (Prod.snd (List.getD [((95 : Int), (20 : Int), (500 : Int)), ((30 : Int), (40 : Int), (800 : Int)), ((41 : Int), (10 : Int), (0 : Int))] i ((0 : Int), (0 : Int), (0 : Int)))))]], V.i 0])
set_option maxRecDepth 100000 in
theorem sdWidth_ac (l : List (Int × Int × Int)) (a b c : Int) (ha : 0 ≤ a ∧ a ≤ 16777216) (hb : 0 ≤ b ∧ b ≤ 4096) : AC Tryz.prog 94 [.ptr (fmtF ++ [trk l]), .agg [.i a, .i b, .i c]] (.i (b * (a + 10 - 1).tdiv 10)) [] := by
 have h1 : 0 ≤ (a + 10 - 1).tdiv 10 ∧ (a + 10 - 1).tdiv 10 ≤ 16777225 := by
  rw [Int.tdiv_eq_ediv_of_nonneg oM]; omega
 have h2 := Int.mul_nonneg hb.1 h1.1
 have h3 : b * (a + 10 - 1).tdiv 10 ≤ 4096 * 16777225 := Int.mul_le_mul hb.2 h1.2 h1.1 (by decide)
 refine acI hTT hMX Tryz.func94 Tryz.ntmps94 fun C hC hF => ?_
 refine sK fun K hK => wR 2 ?_; refine aX hTT 2 [] tI ?_; refine nK hK ?_; clear hK K; refine sK fun K hK => wD 3 ?_; refine aX hTT 19 [(9, .i (a + 10)), (10, .i (a + 10 - (1 : Int))), (16, .c ((0 : Int) < (10 : Int) ∧ (-9223372036854775808 : Int) ≤ a + 10 - (1 : Int) ∧ a + 10 - (1 : Int) ≤ (9223372036854775807 : Int))), (17, .i (b * Int.tdiv (a + 10 - (1 : Int)) (10 : Int)))] ⟨oM, oM, ⟨oM, oM⟩, oM, tI⟩ ?_; refine aops_nil ⟨kR, ?_⟩; refine xt_n (hK _ ?_); clear hK K
 refine aw_ret ?_
 refine rP (V.i (b * Int.tdiv (a + 10 - (1 : Int)) (10 : Int)))
set_option maxRecDepth 100000 in
theorem SdWidth_ac : AC Tryz.prog 65 [.agg fmtF, .agg [.i 95, .i 20, .i 500]] (.tup [.i 200, .i 0]) [] := by
 refine acI hTT hMX Tryz.func65 Tryz.ntmps65 fun C hC hF => ?_
 refine sK fun K hK => wR 2 ?_; refine aX hTT 4 [] tI ?_; refine nK hK ?_; clear hK K; refine sK fun K hK => wR 3 ?_; refine aX hTT 3 [] tI ?_
 refine eC (AC.conv (open1_ac) (args' := [V.agg [V.c (Value.string nF), V.i 1000, V.i 400, V.i 10, V.i 20, V.i 10, V.i 30, V.i 5], V.sl 3 1 fun (i : Nat) => List.take (3 : Nat) (List.drop (i * 3) [V.i 95, V.i 20, V.i 500])]) ⟨RImp.refl _, ?_, trivial⟩) ?_
 ·
  exact RImp.rows rfl fun i hi => by
   obtain rfl : i = 0 := by simpa using hi
   rfl
 refine aX hTT 5 [] tI ?_; refine nK hK ?_; clear hK K; refine sK fun K hK => ?_; refine sK fun K hK => wR 4 ?_; refine aX hTT 2 [] tI ?_; refine nK hK ?_; clear hK K; refine w_false (t := false) kR rfl ?_
 refine aw_skip ?_
 refine xt_n (hK _ ?_); clear hK K; refine sK fun K hK => wR 5 ?_; refine aX hTT 2 [] tI ?_
 refine eC (sdWidth_ac [(95, 20, 500)] 95 20 500 (by decide) (by decide)) ?_
 refine aX hTT 2 [] tI ?_; refine nK hK ?_; clear hK K
 refine aw_ret ?_
 refine rP (V.tup [V.i 200, V.i 0])
abbrev yyT11 := (appRow (1 : Nat) (fun (i : Nat) => List.take (1 : Nat) (List.drop (i * 1) [V.i 0])) fun (i : Nat) => List.take (1 : Nat) (List.drop (i * 1) [V.i 1]))
abbrev yyT10 : Ob := Ob.row 3 1 3 (appRow (2 : Nat) yyT11 fun (i : Nat) => List.take (1 : Nat) (List.drop (i * 1) [V.i 2]))
set_option maxRecDepth 100000 in
theorem span3_ac : AC Tryz.prog 114 [.i 0, .i 3] (.own 0) [.row 3 1 3 fun i => [.i i]] := by
 refine acI hTT hMX Tryz.func114 Tryz.ntmps114 fun C hC hF => ?_
 refine sK fun K hK => wR 2 ?_; refine aX hTT 1 [] tI ?_; refine nK hK ?_; clear hK K; refine sK fun K hK => wR 3 ?_; refine aX hTT 1 [] tI ?_; refine nK hK ?_; clear hK K; refine sK fun K hK => ?_
 refine aw_block ?_
 refine aw_rounds 4 ?_
 refine awr_succ (m := 3) fun K hK => ?_
 refine sK fun K hK => ?_; refine sK fun K hK => wR 4 ?_; refine aX hTT 3 [] tI ?_; refine nK hK ?_; clear hK K; refine w_true (t := true) kR rfl ?_
 refine aw_skip ?_
 refine xt_n (hK _ ?_); clear hK K; refine sK fun K hK => ?_
 refine aw_block ?_
 refine wR 5 ?_; refine aX hTT 5 [(3, .r (PR.mk (some (14 : Nat)) (some ((1 : Nat) ≤ (1099511627776 : Nat))) (V.own 400014) [((400014 : Nat), some (Ob.row 3 1 1 fun (i : Nat) => List.take (1 : Nat) (List.drop (i * 1) [V.i 0])))] false))] ⟨oM, tI⟩ ?_; refine aops_nil ?_; refine xb_n ?_; refine xt_n (hK _ ?_); clear hK K; refine wR 6 ?_; refine aX hTT 3 [(1, .i ((0 : Int) + (1 : Int)))] ⟨oM, tI⟩ ?_; refine nK hK ?_; clear hK K
 refine awr_succ (m := 2) fun K hK => ?_
 refine sK fun K hK => ?_; refine sK fun K hK => wR 7 ?_; refine aX hTT 3 [] tI ?_; refine nK hK ?_; clear hK K; refine w_true (t := true) kR rfl ?_
 refine aw_skip ?_
 refine xt_n (hK _ ?_); clear hK K; refine sK fun K hK => ?_
 refine aw_block ?_
 refine wR 8 ?_; refine aX hTT 5 [(3, .r (PR.mk (some (14 : Nat)) (some ((1 : Nat) + (1 : Nat) ≤ (1099511627776 : Nat))) (V.own 700014) [((400014 : Nat), none), ((700014 : Nat), some (Ob.row 3 1 2 yyT11))] false))] ⟨oM, tI⟩ ?_; refine aops_nil ?_; refine xb_n ?_; refine xt_n (hK _ ?_); clear hK K; refine wR 9 ?_; refine aX hTT 3 [(1, .i ((1 : Int) + (1 : Int)))] ⟨oM, tI⟩ ?_; refine nK hK ?_; clear hK K
 refine awr_succ (m := 1) fun K hK => ?_
 refine sK fun K hK => ?_; refine sK fun K hK => wR 10 ?_; refine aX hTT 3 [] tI ?_; refine nK hK ?_; clear hK K; refine w_true (t := true) kR rfl ?_
 refine aw_skip ?_
 refine xt_n (hK _ ?_); clear hK K; refine sK fun K hK => ?_
 refine aw_block ?_
 refine wR 11 ?_; refine aX hTT 5 [(3, .r (PR.mk (some (14 : Nat)) (some ((2 : Nat) + (1 : Nat) ≤ (1099511627776 : Nat))) (V.own 1000014) [((700014 : Nat), none), ((1000014 : Nat), some (yyT10))] false))] ⟨oM, tI⟩ ?_; refine aops_nil ?_; refine xb_n ?_; refine xt_n (hK _ ?_); clear hK K; refine wR 12 ?_; refine aX hTT 3 [(1, .i ((2 : Int) + (1 : Int)))] ⟨oM, tI⟩ ?_; refine nK hK ?_; clear hK K
 refine awr_succ (m := 0) fun K hK => ?_
 refine sK fun K hK => ?_; refine sK fun K hK => wR 13 ?_; refine aX hTT 3 [] tI ?_; refine nK hK ?_; clear hK K; refine w_false (t := false) kR rfl ?_
 refine aw_exit ?_
 refine xt_x ?_; refine xt_x ?_
 refine xb_same ?_
 refine xt_n ?_; clear hK K; clear hK K; refine hK _ ?_; clear hK K; refine sK fun K hK => wR 14 ?_; refine aX hTT 2 [] tI ?_; refine nK hK ?_; clear hK K
 refine aw_ret ?_
 refine ret_own [(0, 1000014)] [(4, V.own 0)] (.inr rfl) (.cons kR .nil) (.cons ⟨yyT10, kR, .row kR ?_⟩ .nil) kR kR kR kR
 intro i hi
 rcases (by omega : i = 0 ∨ i = 1 ∨ i = 2) with rfl | rfl | rfl <;> rfl
set_option maxRecDepth 100000 in
theorem isNaN64_ac (a : Int) : AC Tryz.prog 179 [.i a] (.b false) [] := by
 refine acI hTT hMX Tryz.func179 Tryz.ntmps179 fun C hC hF => ?_
 refine sK fun K hK => wR 2 ?_; refine aX hTT 1 [] tI ?_; refine nK hK ?_; clear hK K; refine sK fun K hK => wR 3 ?_; refine aX hTT 4 [] tI ?_; refine nK hK ?_; clear hK K
 refine aw_ret ?_
 refine ret_pure (v' := V.b !decide (a = a)) (.inr rfl) kR ?_ kR
 simp
set_option maxRecDepth 100000 in
theorem Compare64_ac (a b : Int) : AC Tryz.prog 147 [.i a, .i b] (.i (if a < b then -1 else if b < a then 1 else 0)) [] := by
 refine acI hTT hMX Tryz.func147 Tryz.ntmps147 fun C hC hF => ?_
 refine sK fun K hK => wR 2 ?_; refine aX hTT 1 [] tI ?_; refine nK hK ?_; clear hK K; refine sK fun K hK => wR 3 ?_; refine aX hTT 1 [] tI ?_
 refine eC (isNaN64_ac a) ?_
 refine aX hTT 1 [] tI ?_; refine nK hK ?_; clear hK K; refine sK fun K hK => wR 4 ?_; refine aX hTT 1 [] tI ?_
 refine eC (isNaN64_ac b) ?_
 refine aX hTT 1 [] tI ?_; refine nK hK ?_; clear hK K; refine sK fun K hK => ?_; refine sK fun K hK => wR 5 ?_; refine aX hTT 1 [] tI ?_; refine nK hK ?_; clear hK K; refine w_false (t := false) kR rfl ?_
 refine aw_skip ?_
 refine xt_n (hK _ ?_); clear hK K; refine sK fun K hK => ?_; refine sK fun K hK => wR 6 ?_; refine aX hTT 1 [] tI ?_; refine nK hK ?_; clear hK K; refine w_false (t := false) kR rfl ?_
 refine aw_skip ?_
 refine xt_n (hK _ ?_); clear hK K; refine sK fun K hK => ?_; refine sK fun K hK => wR 7 ?_; refine aX hTT 3 [] tI ?_; refine nK hK ?_; clear hK K
 refine w_cond (t := decide (a < b)) kR (fun c1 => ?_) (fun c1 => ?_)
 ·
  refine sK fun K hK => ?_
  refine wR 8 ?_; refine aX hTT 1 [] tI ?_; refine nK hK ?_; clear hK K
  refine aw_ret ?_
  refine xt_r ?_
  refine ret_pure (v' := V.i (-1)) (.inr rfl) kR ?_ kR
  simp at c1
  rw [if_pos c1]
 refine aw_skip ?_
 refine xt_n (hK _ ?_); clear hK K; refine sK fun K hK => ?_; refine sK fun K hK => wR 8 ?_; refine aX hTT 3 [] tI ?_; refine nK hK ?_; clear hK K
 refine w_cond (t := decide (b < a)) kR (fun c2 => ?_) (fun c2 => ?_)
 ·
  refine sK fun K hK => ?_
  refine wR 9 ?_; refine aX hTT 1 [] tI ?_; refine nK hK ?_; clear hK K
  refine aw_ret ?_
  refine xt_r ?_
  refine ret_pure (v' := V.i 1) (.inr rfl) kR ?_ kR
  simp at c1 c2
  rw [if_neg oM, if_pos c2]
 refine aw_skip ?_
 refine xt_n (hK _ ?_); clear hK K; refine sK fun K hK => wR 9 ?_; refine aX hTT 1 [] tI ?_; refine nK hK ?_; clear hK K
 refine aw_ret ?_
 refine ret_pure (v' := V.i 0) (.inr rfl) kR ?_ kR
 simp at c1 c2
 rw [if_neg oM, if_neg oM]
set_option maxRecDepth 100000 in
theorem isNaNI_ac (a : Int) : AC Tryz.prog 180 [.i a] (.b false) [] := by
 refine acI hTT hMX Tryz.func180 Tryz.ntmps180 fun C hC hF => ?_
 refine sK fun K hK => wR 2 ?_; refine aX hTT 1 [] tI ?_; refine nK hK ?_; clear hK K; refine sK fun K hK => wR 3 ?_; refine aX hTT 4 [] tI ?_; refine nK hK ?_; clear hK K
 refine aw_ret ?_
 refine ret_pure (v' := V.b !decide (a = a)) (.inr rfl) kR ?_ kR
 simp
set_option maxRecDepth 100000 in
theorem CompareI_ac (a b : Int) : AC Tryz.prog 148 [.i a, .i b] (.i (if a < b then -1 else if b < a then 1 else 0)) [] := by
 refine acI hTT hMX Tryz.func148 Tryz.ntmps148 fun C hC hF => ?_
 refine sK fun K hK => wR 2 ?_; refine aX hTT 1 [] tI ?_; refine nK hK ?_; clear hK K; refine sK fun K hK => wR 3 ?_; refine aX hTT 1 [] tI ?_
 refine eC (isNaNI_ac a) ?_
 refine aX hTT 1 [] tI ?_; refine nK hK ?_; clear hK K; refine sK fun K hK => wR 4 ?_; refine aX hTT 1 [] tI ?_
 refine eC (isNaNI_ac b) ?_
 refine aX hTT 1 [] tI ?_; refine nK hK ?_; clear hK K; refine sK fun K hK => ?_; refine sK fun K hK => wR 5 ?_; refine aX hTT 1 [] tI ?_; refine nK hK ?_; clear hK K; refine w_false (t := false) kR rfl ?_
 refine aw_skip ?_
 refine xt_n (hK _ ?_); clear hK K; refine sK fun K hK => ?_; refine sK fun K hK => wR 6 ?_; refine aX hTT 1 [] tI ?_; refine nK hK ?_; clear hK K; refine w_false (t := false) kR rfl ?_
 refine aw_skip ?_
 refine xt_n (hK _ ?_); clear hK K; refine sK fun K hK => ?_; refine sK fun K hK => wR 7 ?_; refine aX hTT 3 [] tI ?_; refine nK hK ?_; clear hK K
 refine w_cond (t := decide (a < b)) kR (fun c1 => ?_) (fun c1 => ?_)
 ·
  refine sK fun K hK => ?_
  refine wR 8 ?_; refine aX hTT 1 [] tI ?_; refine nK hK ?_; clear hK K
  refine aw_ret ?_
  refine xt_r ?_
  refine ret_pure (v' := V.i (-1)) (.inr rfl) kR ?_ kR
  simp at c1
  rw [if_pos c1]
 refine aw_skip ?_
 refine xt_n (hK _ ?_); clear hK K; refine sK fun K hK => ?_; refine sK fun K hK => wR 8 ?_; refine aX hTT 3 [] tI ?_; refine nK hK ?_; clear hK K
 refine w_cond (t := decide (b < a)) kR (fun c2 => ?_) (fun c2 => ?_)
 ·
  refine sK fun K hK => ?_
  refine wR 9 ?_; refine aX hTT 1 [] tI ?_; refine nK hK ?_; clear hK K
  refine aw_ret ?_
  refine xt_r ?_
  refine ret_pure (v' := V.i 1) (.inr rfl) kR ?_ kR
  simp at c1 c2
  rw [if_neg oM, if_pos c2]
 refine aw_skip ?_
 refine xt_n (hK _ ?_); clear hK K; refine sK fun K hK => wR 9 ?_; refine aX hTT 1 [] tI ?_; refine nK hK ?_; clear hK K
 refine aw_ret ?_
 refine ret_pure (v' := V.i 0) (.inr rfl) kR ?_ kR
 simp at c1 c2
 rw [if_neg oM, if_neg oM]
set_option maxRecDepth 100000 in
theorem Or1_ac : AC Tryz.prog 146 [.sl 1 2 fun i => List.take 1 (List.drop (i * 1) [.i (-1), .i 1])] (.i (-1)) [] := by
 refine acI hTT hMX Tryz.func146 Tryz.ntmps146 fun C hC hF => ?_
 refine sK fun K hK => wR 2 ?_; refine aX hTT 1 [] tI ?_; refine nK hK ?_; clear hK K; refine sK fun K hK => wR 3 ?_; refine aX hTT 1 [] tI ?_; refine nK hK ?_; clear hK K; refine sK fun K hK => ?_; refine sK fun K hK => wR 4 ?_; refine aX hTT 3 [] tI ?_; refine nK hK ?_; clear hK K
 refine aw_block ?_
 refine aw_rounds 3 ?_
 refine awr_succ (m := 2) fun K hK => ?_
 refine sK fun K hK => wR 5 ?_; refine aX hTT 1 [] tI ?_; refine nK hK ?_; clear hK K; refine sK fun K hK => ?_; refine w_true (t := true) kR rfl ?_
 refine aw_skip ?_
 refine xt_n (hK _ ?_); clear hK K; refine sK fun K hK => ?_
 refine aw_block ?_
 refine sK fun K hK => wR 6 ?_; refine aX hTT 3 [(0, .c ((0 : Int) ≤ (0 : Int) ∧ (0 : Int) < (↑(2 : Nat) : Int)))] ⟨oM, tI⟩ ?_; refine nK hK ?_; clear hK K; refine sK fun K hK => wR 7 ?_; refine aX hTT 3 [] tI ?_; refine nK hK ?_; clear hK K; refine w_true (t := true) kR rfl ?_; refine sK fun K hK => wR 8 ?_; refine aX hTT 2 [] tI ?_; refine nK hK ?_; clear hK K
 refine aw_ret ?_
 refine xb_r ?_
 refine xt_r ?_; refine xt_r ?_
 refine xb_r ?_
 refine xt_r ?_
 refine rP (V.i (-1))
set_option maxRecDepth 100000 in
theorem Or2_ac : AC Tryz.prog 146 [.sl 1 2 fun i => List.take 1 (List.drop (i * 1) [.i 1, .i 1])] (.i 1) [] := by
 refine acI hTT hMX Tryz.func146 Tryz.ntmps146 fun C hC hF => ?_
 refine sK fun K hK => wR 2 ?_; refine aX hTT 1 [] tI ?_; refine nK hK ?_; clear hK K; refine sK fun K hK => wR 3 ?_; refine aX hTT 1 [] tI ?_; refine nK hK ?_; clear hK K; refine sK fun K hK => ?_; refine sK fun K hK => wR 4 ?_; refine aX hTT 3 [] tI ?_; refine nK hK ?_; clear hK K
 refine aw_block ?_
 refine aw_rounds 3 ?_
 refine awr_succ (m := 2) fun K hK => ?_
 refine sK fun K hK => wR 5 ?_; refine aX hTT 1 [] tI ?_; refine nK hK ?_; clear hK K; refine sK fun K hK => ?_; refine w_true (t := true) kR rfl ?_
 refine aw_skip ?_
 refine xt_n (hK _ ?_); clear hK K; refine sK fun K hK => ?_
 refine aw_block ?_
 refine sK fun K hK => wR 6 ?_; refine aX hTT 3 [(0, .c ((0 : Int) ≤ (0 : Int) ∧ (0 : Int) < (↑(2 : Nat) : Int)))] ⟨oM, tI⟩ ?_; refine nK hK ?_; clear hK K; refine sK fun K hK => wR 7 ?_; refine aX hTT 3 [] tI ?_; refine nK hK ?_; clear hK K; refine w_true (t := true) kR rfl ?_; refine sK fun K hK => wR 8 ?_; refine aX hTT 2 [] tI ?_; refine nK hK ?_; clear hK K
 refine aw_ret ?_
 refine xb_r ?_
 refine xt_r ?_; refine xt_r ?_
 refine xb_r ?_
 refine xt_r ?_
 refine rP (V.i 1)
def tr3 : List (Int × Int × Int) := [(95, 20, 500), (30, 40, 800), (41, 10, 0)]
set_option maxRecDepth 100000 in
theorem usual1_ac : AC Tryz.prog 131 [.ptr (fmtF ++ [trk tr3]), .i 1, .i 0] (.i (-1)) [] := by
 refine acI hTT hMX Tryz.func131 Tryz.ntmps131 fun C hC hF => ?_
 refine sK fun K hK => wR 2 ?_; refine aX hTT 1 [] tI ?_; refine nK hK ?_; clear hK K; refine sK fun K hK => wD 3 ?_; refine aX hTT 16 [(5, .c qT10), (13, .c qT11)] ⟨qT10_, qT11_, tI⟩ ?_
 refine eC (Compare64_ac 500 800) ?_
 refine aX hTT 2 [] tI ?_
 refine eC (CompareI_ac 1 0) ?_
 refine aX hTT 1 [] tI ?_
 refine eC (Or1_ac) ?_
 refine aX hTT 1 [] tI ?_; refine aops_nil ⟨kR, ?_⟩; refine xt_n (hK _ ?_); clear hK K
 refine aw_ret ?_
 refine rP (V.i (-1))
set_option maxRecDepth 100000 in
theorem usual2_ac : AC Tryz.prog 131 [.ptr (fmtF ++ [trk tr3]), .i 2, .i 0] (.i 1) [] := by
 refine acI hTT hMX Tryz.func131 Tryz.ntmps131 fun C hC hF => ?_
 refine sK fun K hK => wR 2 ?_; refine aX hTT 1 [] tI ?_; refine nK hK ?_; clear hK K; refine sK fun K hK => wD 3 ?_; refine aX hTT 16 [(5, .c qT10), (13, .c qT12)] ⟨qT10_, qT12_, tI⟩ ?_
 refine eC (Compare64_ac 500 0) ?_
 refine aX hTT 2 [] tI ?_
 refine eC (CompareI_ac 2 0) ?_
 refine aX hTT 1 [] tI ?_
 refine eC (Or2_ac) ?_
 refine aX hTT 1 [] tI ?_; refine aops_nil ⟨kR, ?_⟩; refine xt_n (hK _ ?_); clear hK K
 refine aw_ret ?_
 refine rP (V.i 1)
def usualV : V := .fn (.func 131) [.ptr (fmtF ++ [trk tr3])] []
set_option maxRecDepth 100000 in
theorem insSort_ac : AM Tryz.prog 169 [.own 500, .i 0, .i 3, usualV] [.row 3 1 3 fun i => [.i i]] (.tup []) [some (.row 3 1 3 fun i => [.i (gi [1, 0, 2] i)])] [] := by
 refine am_intro hTT hMX (fn := Tryz.f169) (N := _) ⟨Tryz.func169, rfl, Tryz.ntmps169, kR⟩ (by simp) rfl (by simp) (by simp) fun C hF => ?_
 refine sK fun K hK => wR 2 ?_; refine aX hTT 3 [(1, .i ((0 : Int) + (1 : Int)))] ⟨oM, tI⟩ ?_; refine nK hK ?_; clear hK K
 refine aw_block ?_
 refine aw_rounds 4 ?_
 refine awr_succ (m := 3) fun K hK => ?_
 refine sK fun K hK => ?_; refine sK fun K hK => wR 3 ?_; refine aX hTT 3 [] tI ?_; refine nK hK ?_; clear hK K; refine w_true (t := true) kR rfl ?_
 refine aw_skip ?_
 refine xt_n (hK _ ?_); clear hK K; refine sK fun K hK => ?_
 refine aw_block ?_
 refine sK fun K hK => wR 4 ?_; refine aX hTT 2 [] tI ?_; refine nK hK ?_; clear hK K
 refine aw_block ?_
 refine aw_rounds 4 ?_
 refine awr_succ (m := 3) fun K hK => ?_
 refine sK fun K hK => ?_; refine sK fun K hK => wD 5 ?_
 refine aops_n hTT (M := []) (n := 14) [pv (18 : Nat) (V.i (1 : Int)), pv (19 : Nat) (V.i (0 : Int)), pv (20 : Nat) (V.b true), pv (21 : Nat) (V.b true), pc (22 : Nat) ((True ∧ True) ∧ ((true == true) = true → True)) (V.gd (true == true) (V.fn (Fn.func (131 : Nat)) [V.ptr [V.c (Value.string nF), V.i (1000 : Int), V.i (400 : Int), V.i (10 : Int), V.i (20 : Int), V.i (10 : Int), V.i (30 : Int), V.i (5 : Int), V.sl (3 : Nat) (3 : Nat) fun (i : Nat) => [V.i (Prod.fst (List.getD tr3 i ((0 : Int), (0 : Int), (0 : Int)))), V.i (Prod.fst (Prod.snd (List.getD tr3 i ((0 : Int), (0 : Int), (0 : Int))))), V.i (Prod.snd (Prod.snd (List.getD tr3 i ((0 : Int), (0 : Int), (0 : Int)))))]]] [])), pc (23 : Nat) ((True ∧ True) ∧ ((true == true) = true → True)) (V.gd (true == true) (V.own (500 : Nat))), pc (24 : Nat) ((True ∧ True) ∧ ((true == true) = true → True)) (V.gd (true == true) (V.i (1 : Int))), pc (25 : Nat) ((((true == true) = true → (true == true) = true) ∧ ((true == true) = true → (true == true) = true) ∧ True) ∧ ((true == true) = true → (0 : Int) ≤ (1 : Int) ∧ (1 : Int) < (↑(3 : Nat) : Int))) (V.gd (true == true) (V.oel (500 : Nat) (1 : Nat) (1 : Nat) (0 : Nat))), pc (26 : Nat) ((((true == true) = true → (true == true) = true) ∧ True) ∧ ((true == true) = true → (1 : Nat) < (3 : Nat) ∧ (0 : Nat) ≤ (1 : Nat))) (V.gd (true == true) (V.i (1 : Int))), pc (27 : Nat) ((True ∧ True) ∧ ((true == true) = true → True)) (V.gd (true == true) (V.own (500 : Nat))), pc (28 : Nat) ((True ∧ True) ∧ ((true == true) = true → True)) (V.gd (true == true) (V.i (1 : Int))), pc (29 : Nat) ((((true == true) = true → (true == true) = true) ∧ True ∧ True) ∧ ((true == true) = true → (-9223372036854775808 : Int) ≤ (1 : Int) - (1 : Int) ∧ (1 : Int) - (1 : Int) ≤ (9223372036854775807 : Int))) (V.gd (true == true) (V.i (0 : Int))), pc (30 : Nat) ((((true == true) = true → (true == true) = true) ∧ ((true == true) = true → (true == true) = true) ∧ True) ∧ ((true == true) = true → (0 : Int) ≤ (0 : Int) ∧ (0 : Int) < (↑(3 : Nat) : Int))) (V.gd (true == true) (V.oel (500 : Nat) (1 : Nat) (0 : Nat) (0 : Nat))), pc (31 : Nat) ((((true == true) = true → (true == true) = true) ∧ True) ∧ ((true == true) = true → (0 : Nat) < (3 : Nat) ∧ (0 : Nat) ≤ (1 : Nat))) (V.gd (true == true) (V.i (0 : Int)))] kR kR ⟨⟨⟨tI, tI⟩, (fun _ => tI)⟩, ⟨⟨tI, tI⟩, (fun _ => tI)⟩, ⟨⟨tI, tI⟩, (fun _ => tI)⟩, ⟨⟨(by (exact fun h => h)), ⟨(by (exact fun h => h)), tI⟩⟩, (by (intro _; simp; done))⟩, ⟨⟨(by (exact fun h => h)), tI⟩, (by (intro _; simp; done))⟩, ⟨⟨tI, tI⟩, (fun _ => tI)⟩, ⟨⟨tI, tI⟩, (fun _ => tI)⟩, ⟨⟨(by (exact fun h => h)), ⟨tI, tI⟩⟩, (by (intro _; simp; done))⟩, ⟨⟨(by (exact fun h => h)), ⟨(by (exact fun h => h)), tI⟩⟩, (by (intro _; simp; done))⟩, ⟨⟨(by (exact fun h => h)), tI⟩, (by (intro _; simp; done))⟩, tI⟩ ?_
 refine e_callG 3 (g := true == true) (first := [V.ptr [V.c (Value.string nF), V.i (1000 : Int), V.i (400 : Int), V.i (10 : Int), V.i (20 : Int), V.i (10 : Int), V.i (30 : Int), V.i (5 : Int), V.sl (3 : Nat) (3 : Nat) fun (i : Nat) => [V.i (Prod.fst (List.getD tr3 i ((0 : Int), (0 : Int), (0 : Int)))), V.i (Prod.fst (Prod.snd (List.getD tr3 i ((0 : Int), (0 : Int), (0 : Int))))), V.i (Prod.snd (Prod.snd (List.getD tr3 i ((0 : Int), (0 : Int), (0 : Int)))))]]]) (caps := []) kR (fun _ => usual1_ac) kR kR kR kR kR kR ?_
 refine aops_n hTT (M := []) (n := 2) [pc (33 : Nat) ((((true == true) = true → (true == true) = true) ∧ True ∧ True) ∧ ((true == true) = true → True)) (V.gd (true == true) (V.b true)), pc (34 : Nat) ((true = true → (true == true) = true) ∧ True) (V.b true)] kR kR ⟨⟨⟨(by (exact fun h => h)), ⟨tI, tI⟩⟩, (fun _ => tI)⟩, ⟨(by (exact fun h => h)), tI⟩, tI⟩ ?_
 refine aops_nil ⟨kR, ?_⟩; refine xt_n (hK _ ?_); clear hK K; refine w_true (t := true) kR rfl ?_
 refine aw_skip ?_
 refine xt_n (hK _ ?_); clear hK K; refine sK fun K hK => ?_
 refine aw_block ?_
 refine wD 6 ?_
 refine aops_n hTT (M := []) (n := 18) [pv (37 : Nat) (V.own (500 : Nat)), pv (38 : Nat) (V.i (1 : Int)), pv (39 : Nat) (V.own (500 : Nat)), pv (40 : Nat) (V.i (1 : Int)), pc (41 : Nat) ((-9223372036854775808 : Int) ≤ (1 : Int) - (1 : Int) ∧ (1 : Int) - (1 : Int) ≤ (9223372036854775807 : Int)) (V.i (0 : Int)), pv (42 : Nat) (V.own (500 : Nat)), pv (43 : Nat) (V.i (1 : Int)), pc (44 : Nat) ((-9223372036854775808 : Int) ≤ (1 : Int) - (1 : Int) ∧ (1 : Int) - (1 : Int) ≤ (9223372036854775807 : Int)) (V.i (0 : Int)), pc (45 : Nat) ((0 : Int) ≤ (0 : Int) ∧ (0 : Int) < (↑(3 : Nat) : Int)) (V.oel (500 : Nat) (1 : Nat) (0 : Nat) (0 : Nat)), pc (46 : Nat) ((0 : Nat) < (3 : Nat) ∧ (0 : Nat) ≤ (1 : Nat)) (V.i (0 : Int)), pv (47 : Nat) (V.own (500 : Nat)), pv (48 : Nat) (V.i (1 : Int)), pc (49 : Nat) ((0 : Int) ≤ (1 : Int) ∧ (1 : Int) < (↑(3 : Nat) : Int)) (V.oel (500 : Nat) (1 : Nat) (1 : Nat) (0 : Nat)), pc (50 : Nat) ((1 : Nat) < (3 : Nat) ∧ (0 : Nat) ≤ (1 : Nat)) (V.i (1 : Int)), pc (51 : Nat) ((0 : Int) ≤ (1 : Int) ∧ (1 : Int) < (↑(3 : Nat) : Int)) (V.oel (500 : Nat) (1 : Nat) (1 : Nat) (0 : Nat)), pw ((1 : Nat) < (3 : Nat) ∧ (0 : Nat) + (1 : Nat) ≤ (1 : Nat)) (500 : Nat) (Ob.row (3 : Nat) (1 : Nat) (3 : Nat) fun (j : Nat) => if j = 1 then [V.i (0 : Int)] else [V.i (↑j : Int)]), pc (52 : Nat) ((0 : Int) ≤ (0 : Int) ∧ (0 : Int) < (↑(3 : Nat) : Int)) (V.oel (500 : Nat) (1 : Nat) (0 : Nat) (0 : Nat)), pw ((0 : Nat) < (3 : Nat) ∧ (0 : Nat) + (1 : Nat) ≤ (1 : Nat)) (500 : Nat) (Ob.row (3 : Nat) (1 : Nat) (3 : Nat) fun (j : Nat) => if j = 0 then [V.i (1 : Int)] else if j = 1 then [V.i (0 : Int)] else [V.i (↑j : Int)])] kR kR ⟨oM, oM, oM, oM, oM, oM, oM, oM, oM, oM, tI⟩ ?_
 refine aops_nil ⟨kR, ?_⟩; refine xb_n ?_; refine xt_n (hK _ ?_); clear hK K; refine wR 7 ?_; refine aX hTT 3 [(1, .i ((1 : Int) - (1 : Int)))] ⟨oM, tI⟩ ?_; refine nK hK ?_; clear hK K
 refine awr_succ (m := 2) fun K hK => ?_
 refine sK fun K hK => ?_; refine sK fun K hK => wD 8 ?_
 refine aops_n hTT (M := []) (n := 14) [pv (18 : Nat) (V.i (0 : Int)), pv (19 : Nat) (V.i (0 : Int)), pv (20 : Nat) (V.b false), pv (21 : Nat) (V.b false), pc (22 : Nat) ((True ∧ True) ∧ ((false == true) = true → True)) (V.gd (false == true) (V.fn (Fn.func (131 : Nat)) [V.ptr [V.c (Value.string nF), V.i (1000 : Int), V.i (400 : Int), V.i (10 : Int), V.i (20 : Int), V.i (10 : Int), V.i (30 : Int), V.i (5 : Int), V.sl (3 : Nat) (3 : Nat) fun (i : Nat) => [V.i (Prod.fst (List.getD tr3 i ((0 : Int), (0 : Int), (0 : Int)))), V.i (Prod.fst (Prod.snd (List.getD tr3 i ((0 : Int), (0 : Int), (0 : Int))))), V.i (Prod.snd (Prod.snd (List.getD tr3 i ((0 : Int), (0 : Int), (0 : Int)))))]]] [])), pc (23 : Nat) ((True ∧ True) ∧ ((false == true) = true → True)) (V.gd (false == true) (V.own (500 : Nat))), pc (24 : Nat) ((True ∧ True) ∧ ((false == true) = true → True)) (V.gd (false == true) (V.i (0 : Int))), pc (25 : Nat) ((((false == true) = true → (false == true) = true) ∧ ((false == true) = true → (false == true) = true) ∧ True) ∧ ((false == true) = true → (0 : Int) ≤ (0 : Int) ∧ (0 : Int) < (↑(3 : Nat) : Int))) (V.gd (false == true) (V.oel (500 : Nat) (1 : Nat) (0 : Nat) (0 : Nat))), pc (26 : Nat) ((((false == true) = true → (false == true) = true) ∧ True) ∧ ((false == true) = true → (0 : Nat) < (3 : Nat) ∧ (0 : Nat) ≤ (1 : Nat))) (V.gd (false == true) (V.i (1 : Int))), pc (27 : Nat) ((True ∧ True) ∧ ((false == true) = true → True)) (V.gd (false == true) (V.own (500 : Nat))), pc (28 : Nat) ((True ∧ True) ∧ ((false == true) = true → True)) (V.gd (false == true) (V.i (0 : Int))), pc (29 : Nat) ((((false == true) = true → (false == true) = true) ∧ True ∧ True) ∧ ((false == true) = true → (-9223372036854775808 : Int) ≤ (0 : Int) - (1 : Int) ∧ (0 : Int) - (1 : Int) ≤ (9223372036854775807 : Int))) (V.gd (false == true) (V.i (-1 : Int))), pc (30 : Nat) ((((false == true) = true → (false == true) = true) ∧ ((false == true) = true → (false == true) = true) ∧ True) ∧ ((false == true) = true → (0 : Int) ≤ (-1 : Int) ∧ (-1 : Int) < (↑(3 : Nat) : Int))) (V.gd (false == true) (V.oel (500 : Nat) (1 : Nat) (Int.toNat (-1 : Int)) (0 : Nat))), pc (31 : Nat) ((((false == true) = true → (false == true) = true) ∧ True) ∧ ((false == true) = true → Int.toNat (-1 : Int) < (3 : Nat) ∧ (0 : Nat) ≤ (1 : Nat))) (V.gd (false == true) (V.i (1 : Int)))] kR kR ⟨⟨⟨tI, tI⟩, (fun _ => tI)⟩, ⟨⟨tI, tI⟩, (fun _ => tI)⟩, ⟨⟨tI, tI⟩, (fun _ => tI)⟩, ⟨⟨(by (exact fun h => h)), ⟨(by (exact fun h => h)), tI⟩⟩, (by (intro _; simp; done))⟩, ⟨⟨(by (exact fun h => h)), tI⟩, (by (intro _; simp; done))⟩, ⟨⟨tI, tI⟩, (fun _ => tI)⟩, ⟨⟨tI, tI⟩, (fun _ => tI)⟩, ⟨⟨(by (exact fun h => h)), ⟨tI, tI⟩⟩, (by (intro _; simp; done))⟩, ⟨⟨(by (exact fun h => h)), ⟨(by (exact fun h => h)), tI⟩⟩, (by (intro h; simp at h; done))⟩, ⟨⟨(by (exact fun h => h)), tI⟩, (by (intro _; simp; done))⟩, tI⟩ ?_
 refine aops_gfb kR rfl ?_
 refine aops_gfb kR rfl ?_
 refine aops_n hTT (M := []) (n := 1) [pc (34 : Nat) ((false = true → false = true) ∧ True) (V.b false)] kR kR ⟨⟨(by (exact fun h => h)), tI⟩, tI⟩ ?_
 refine aops_nil ⟨kR, ?_⟩; refine xt_n (hK _ ?_); clear hK K; refine w_false (t := false) kR rfl ?_
 refine aw_exit ?_
 refine xt_x ?_; refine xt_x ?_
 refine xb_same ?_
 refine xb_n ?_; refine xt_n ?_; clear hK K; clear hK K; refine hK _ ?_; clear hK K; refine wR 9 ?_; refine aX hTT 3 [(1, .i ((1 : Int) + (1 : Int)))] ⟨oM, tI⟩ ?_; refine nK hK ?_; clear hK K
 refine awr_succ (m := 2) fun K hK => ?_
 refine sK fun K hK => ?_; refine sK fun K hK => wR 10 ?_; refine aX hTT 3 [] tI ?_; refine nK hK ?_; clear hK K; refine w_true (t := true) kR rfl ?_
 refine aw_skip ?_
 refine xt_n (hK _ ?_); clear hK K; refine sK fun K hK => ?_
 refine aw_block ?_
 refine sK fun K hK => wR 11 ?_; refine aX hTT 2 [] tI ?_; refine nK hK ?_; clear hK K
 refine aw_block ?_
 refine aw_rounds 4 ?_
 refine awr_succ (m := 3) fun K hK => ?_
 refine sK fun K hK => ?_; refine sK fun K hK => wD 12 ?_
 refine aops_n hTT (M := []) (n := 14) [pv (18 : Nat) (V.i (2 : Int)), pv (19 : Nat) (V.i (0 : Int)), pv (20 : Nat) (V.b true), pv (21 : Nat) (V.b true), pc (22 : Nat) ((True ∧ True) ∧ ((true == true) = true → True)) (V.gd (true == true) (V.fn (Fn.func (131 : Nat)) [V.ptr [V.c (Value.string nF), V.i (1000 : Int), V.i (400 : Int), V.i (10 : Int), V.i (20 : Int), V.i (10 : Int), V.i (30 : Int), V.i (5 : Int), V.sl (3 : Nat) (3 : Nat) fun (i : Nat) => [V.i (Prod.fst (List.getD tr3 i ((0 : Int), (0 : Int), (0 : Int)))), V.i (Prod.fst (Prod.snd (List.getD tr3 i ((0 : Int), (0 : Int), (0 : Int))))), V.i (Prod.snd (Prod.snd (List.getD tr3 i ((0 : Int), (0 : Int), (0 : Int)))))]]] [])), pc (23 : Nat) ((True ∧ True) ∧ ((true == true) = true → True)) (V.gd (true == true) (V.own (500 : Nat))), pc (24 : Nat) ((True ∧ True) ∧ ((true == true) = true → True)) (V.gd (true == true) (V.i (2 : Int))), pc (25 : Nat) ((((true == true) = true → (true == true) = true) ∧ ((true == true) = true → (true == true) = true) ∧ True) ∧ ((true == true) = true → (0 : Int) ≤ (2 : Int) ∧ (2 : Int) < (↑(3 : Nat) : Int))) (V.gd (true == true) (V.oel (500 : Nat) (1 : Nat) (2 : Nat) (0 : Nat))), pc (26 : Nat) ((((true == true) = true → (true == true) = true) ∧ True) ∧ ((true == true) = true → (2 : Nat) < (3 : Nat) ∧ (0 : Nat) ≤ (1 : Nat))) (V.gd (true == true) (V.i (2 : Int))), pc (27 : Nat) ((True ∧ True) ∧ ((true == true) = true → True)) (V.gd (true == true) (V.own (500 : Nat))), pc (28 : Nat) ((True ∧ True) ∧ ((true == true) = true → True)) (V.gd (true == true) (V.i (2 : Int))), pc (29 : Nat) ((((true == true) = true → (true == true) = true) ∧ True ∧ True) ∧ ((true == true) = true → (-9223372036854775808 : Int) ≤ (2 : Int) - (1 : Int) ∧ (2 : Int) - (1 : Int) ≤ (9223372036854775807 : Int))) (V.gd (true == true) (V.i (1 : Int))), pc (30 : Nat) ((((true == true) = true → (true == true) = true) ∧ ((true == true) = true → (true == true) = true) ∧ True) ∧ ((true == true) = true → (0 : Int) ≤ (1 : Int) ∧ (1 : Int) < (↑(3 : Nat) : Int))) (V.gd (true == true) (V.oel (500 : Nat) (1 : Nat) (1 : Nat) (0 : Nat))), pc (31 : Nat) ((((true == true) = true → (true == true) = true) ∧ True) ∧ ((true == true) = true → (1 : Nat) < (3 : Nat) ∧ (0 : Nat) ≤ (1 : Nat))) (V.gd (true == true) (V.i (0 : Int)))] kR kR ⟨⟨⟨tI, tI⟩, (fun _ => tI)⟩, ⟨⟨tI, tI⟩, (fun _ => tI)⟩, ⟨⟨tI, tI⟩, (fun _ => tI)⟩, ⟨⟨(by (exact fun h => h)), ⟨(by (exact fun h => h)), tI⟩⟩, (by (intro _; simp; done))⟩, ⟨⟨(by (exact fun h => h)), tI⟩, (by (intro _; simp; done))⟩, ⟨⟨tI, tI⟩, (fun _ => tI)⟩, ⟨⟨tI, tI⟩, (fun _ => tI)⟩, ⟨⟨(by (exact fun h => h)), ⟨tI, tI⟩⟩, (by (intro _; simp; done))⟩, ⟨⟨(by (exact fun h => h)), ⟨(by (exact fun h => h)), tI⟩⟩, (by (intro _; simp; done))⟩, ⟨⟨(by (exact fun h => h)), tI⟩, (by (intro _; simp; done))⟩, tI⟩ ?_
 refine e_callG 3 (g := true == true) (first := [V.ptr [V.c (Value.string nF), V.i (1000 : Int), V.i (400 : Int), V.i (10 : Int), V.i (20 : Int), V.i (10 : Int), V.i (30 : Int), V.i (5 : Int), V.sl (3 : Nat) (3 : Nat) fun (i : Nat) => [V.i (Prod.fst (List.getD tr3 i ((0 : Int), (0 : Int), (0 : Int)))), V.i (Prod.fst (Prod.snd (List.getD tr3 i ((0 : Int), (0 : Int), (0 : Int))))), V.i (Prod.snd (Prod.snd (List.getD tr3 i ((0 : Int), (0 : Int), (0 : Int)))))]]]) (caps := []) kR (fun _ => usual2_ac) kR kR kR kR kR kR ?_
 refine aops_n hTT (M := []) (n := 2) [pc (33 : Nat) ((((true == true) = true → (true == true) = true) ∧ True ∧ True) ∧ ((true == true) = true → True)) (V.gd (true == true) (V.b false)), pc (34 : Nat) ((true = true → (true == true) = true) ∧ True) (V.b false)] kR kR ⟨⟨⟨(by (exact fun h => h)), ⟨tI, tI⟩⟩, (fun _ => tI)⟩, ⟨(by (exact fun h => h)), tI⟩, tI⟩ ?_
 refine aops_nil ⟨kR, ?_⟩; refine xt_n (hK _ ?_); clear hK K; refine w_false (t := false) kR rfl ?_
 refine aw_exit ?_
 refine xt_x ?_; refine xt_x ?_
 refine xb_same ?_
 refine xb_n ?_; refine xt_n ?_; clear hK K; clear hK K; refine hK _ ?_; clear hK K; refine wR 13 ?_; refine aX hTT 3 [(1, .i ((2 : Int) + (1 : Int)))] ⟨oM, tI⟩ ?_; refine nK hK ?_; clear hK K
 refine awr_succ (m := 1) fun K hK => ?_
 refine sK fun K hK => ?_; refine sK fun K hK => wR 14 ?_; refine aX hTT 3 [] tI ?_; refine nK hK ?_; clear hK K; refine w_false (t := false) kR rfl ?_
 refine aw_exit ?_
 refine xt_x ?_; refine xt_x ?_
 refine xb_same ?_
 refine retM (v' := V.tup []) [] [] (.inl rfl) .nil (.cons ⟨Ob.row (3 : Nat) (1 : Nat) (3 : Nat) fun (j : Nat) => if j = 0 then [V.i (1 : Int)] else if j = 1 then [V.i (0 : Int)] else [V.i (↑j : Int)], kR, .row kR ?_⟩ .nil) kR kR kR kR kR kR kR
 intro i hi
 rcases (by omega : i = 0 ∨ i = 1 ∨ i = 2) with rfl | rfl | rfl <;> rfl
set_option maxRecDepth 100000 in
theorem pdq_ac : AM Tryz.prog 144 [.own 500, .i 0, .i 3, .i 2, usualV] [.row 3 1 3 fun i => [.i i]] (.tup []) [some (.row 3 1 3 fun i => [.i (gi [1, 0, 2] i)])] [] := by
 refine am_intro hTT hMX (fn := Tryz.f144) (N := _) ⟨Tryz.func144, rfl, Tryz.ntmps144, kR⟩ (by simp) rfl (by simp) (by simp) fun C hF => ?_
 refine sK fun K hK => wR 2 ?_; refine aX hTT 1 [] tI ?_; refine nK hK ?_; clear hK K; refine sK fun K hK => wR 3 ?_; refine aX hTT 1 [] tI ?_; refine nK hK ?_; clear hK K
 refine aw_block ?_
 refine aw_rounds 4 ?_
 refine awr_succ (m := 3) fun K hK => ?_
 refine aw_block ?_
 refine sK fun K hK => wR 4 ?_; refine aX hTT 4 [(2, .i ((3 : Int) - (0 : Int)))] ⟨oM, tI⟩ ?_; refine nK hK ?_; clear hK K; refine sK fun K hK => ?_; refine sK fun K hK => wR 5 ?_; refine aX hTT 2 [] tI ?_; refine nK hK ?_; clear hK K; refine w_true (t := true) kR rfl ?_; refine sK fun K hK => wR 6 ?_; refine aX hTT 4 [] tI ?_
 refine aops_callM [500] (first := []) (caps := []) (ins' := [Ob.row 3 1 3 fun (i : Nat) => [V.i (↑i : Int)]]) (v' := V.tup []) (δ := [(500, Option.some (Ob.row 3 1 3 fun (i : Nat) => V.renL (nameG (5 : Nat) (some 30) [(500 : Nat)]) [V.i (gi [(1 : Int), (0 : Int), (2 : Int)] i)]))]) (kp := [500]) (insSort_ac) kR kR kR kR kR kR rfl rfl kR (.row kR (fun _ _ => rfl) (fun _ _ => rfl) .nil) kR kR kR ?_
 refine nK hK ?_; clear hK K
 refine aw_ret ?_
 refine xt_r ?_
 refine xb_r ?_
 refine xt_r ?_
 refine xb_r ?_
 refine retM (v' := V.tup []) [] [] (.inr rfl) .nil (.cons ⟨Ob.row 3 1 3 fun (i : Nat) => V.renL (nameG (5 : Nat) (some (30 : Tmp)) [(500 : Nat)]) [V.i (gi [(1 : Int), (0 : Int), (2 : Int)] i)], kR, .row kR (fun _ _ => rfl)⟩ .nil) kR kR kR kR kR kR kR
set_option maxRecDepth 100000 in
theorem bLen64_ac : AC Tryz.prog 178 [.c (.int .u64 3)] (.i 2) [] := by
 refine acI hTT hMX Tryz.func178 Tryz.ntmps178 fun C hC hF => ?_
 refine sK fun K hK => wR 2 ?_; refine aX hTT 1 [] tI ?_; refine nK hK ?_; clear hK K; refine sK fun K hK => ?_; refine sK fun K hK => wR 3 ?_; refine aX hTT 2 [] tI ?_; refine nK hK ?_; clear hK K; refine w_false (t := false) kR rfl ?_
 refine aw_skip ?_
 refine xt_n (hK _ ?_); clear hK K; refine sK fun K hK => ?_; refine sK fun K hK => wR 4 ?_; refine aX hTT 2 [] tI ?_; refine nK hK ?_; clear hK K; refine w_false (t := false) kR rfl ?_
 refine aw_skip ?_
 refine xt_n (hK _ ?_); clear hK K; refine sK fun K hK => ?_; refine sK fun K hK => wR 5 ?_; refine aX hTT 2 [] tI ?_; refine nK hK ?_; clear hK K; refine w_false (t := false) kR rfl ?_
 refine aw_skip ?_
 refine xt_n (hK _ ?_); clear hK K; refine sK fun K hK => wR 6 ?_; refine aX hTT 7 [(2, .c ((0 : Int) ≤ (3 : Int) ∧ (3 : Int) ≤ (255 : Int))), (3, .c ((0 : Int) ≤ (3 : Int) ∧ (3 : Int) < (↑(ByteArray.size (ByteArray.mk (List.toArray (List.append (List.append [(0 : UInt8), (1 : UInt8), (2 : UInt8), (2 : UInt8), (3 : UInt8), (3 : UInt8), (3 : UInt8), (3 : UInt8), (4 : UInt8), (4 : UInt8), (4 : UInt8), (4 : UInt8), (4 : UInt8), (4 : UInt8), (4 : UInt8), (4 : UInt8), (5 : UInt8), (5 : UInt8), (5 : UInt8), (5 : UInt8), (5 : UInt8), (5 : UInt8), (5 : UInt8), (5 : UInt8), (5 : UInt8), (5 : UInt8), (5 : UInt8), (5 : UInt8), (5 : UInt8), (5 : UInt8), (5 : UInt8), (5 : UInt8), (6 : UInt8), (6 : UInt8), (6 : UInt8), (6 : UInt8), (6 : UInt8), (6 : UInt8), (6 : UInt8), (6 : UInt8), (6 : UInt8), (6 : UInt8), (6 : UInt8), (6 : UInt8), (6 : UInt8), (6 : UInt8), (6 : UInt8), (6 : UInt8), (6 : UInt8), (6 : UInt8), (6 : UInt8), (6 : UInt8), (6 : UInt8), (6 : UInt8), (6 : UInt8), (6 : UInt8), (6 : UInt8), (6 : UInt8), (6 : UInt8), (6 : UInt8), (6 : UInt8), (6 : UInt8), (6 : UInt8), (6 : UInt8)] [(7 : UInt8), (7 : UInt8), (7 : UInt8), (7 : UInt8), (7 : UInt8), (7 : UInt8), (7 : UInt8), (7 : UInt8), (7 : UInt8), (7 : UInt8), (7 : UInt8), (7 : UInt8), (7 : UInt8), (7 : UInt8), (7 : UInt8), (7 : UInt8), (7 : UInt8), (7 : UInt8), (7 : UInt8), (7 : UInt8), (7 : UInt8), (7 : UInt8), (7 : UInt8), (7 : UInt8), (7 : UInt8), (7 : UInt8), (7 : UInt8), (7 : UInt8), (7 : UInt8), (7 : UInt8), (7 : UInt8), (7 : UInt8), (7 : UInt8), (7 : UInt8), (7 : UInt8), (7 : UInt8), (7 : UInt8), (7 : UInt8), (7 : UInt8), (7 : UInt8), (7 : UInt8), (7 : UInt8), (7 : UInt8), (7 : UInt8), (7 : UInt8), (7 : UInt8), (7 : UInt8), (7 : UInt8), (7 : UInt8), (7 : UInt8), (7 : UInt8), (7 : UInt8), (7 : UInt8), (7 : UInt8), (7 : UInt8), (7 : UInt8), (7 : UInt8), (7 : UInt8), (7 : UInt8), (7 : UInt8), (7 : UInt8), (7 : UInt8), (7 : UInt8), (7 : UInt8)]) (List.append [(8 : UInt8), (8 : UInt8), (8 : UInt8), (8 : UInt8), (8 : UInt8), (8 : UInt8), (8 : UInt8), (8 : UInt8), (8 : UInt8), (8 : UInt8), (8 : UInt8), (8 : UInt8), (8 : UInt8), (8 : UInt8), (8 : UInt8), (8 : UInt8), (8 : UInt8), (8 : UInt8), (8 : UInt8), (8 : UInt8), (8 : UInt8), (8 : UInt8), (8 : UInt8), (8 : UInt8), (8 : UInt8), (8 : UInt8), (8 : UInt8), (8 : UInt8), (8 : UInt8), (8 : UInt8), (8 : UInt8), (8 : UInt8), (8 : UInt8), (8 : UInt8), (8 : UInt8), (8 : UInt8), (8 : UInt8), (8 : UInt8), (8 : UInt8), (8 : UInt8), (8 : UInt8), (8 : UInt8), (8 : UInt8), (8 : UInt8), (8 : UInt8), (8 : UInt8), (8 : UInt8), (8 : UInt8), (8 : UInt8), (8 : UInt8), (8 : UInt8), (8 : UInt8), (8 : UInt8), (8 : UInt8), (8 : UInt8), (8 : UInt8), (8 : UInt8), (8 : UInt8), (8 : UInt8), (8 : UInt8), (8 : UInt8), (8 : UInt8), (8 : UInt8), (8 : UInt8)] [(8 : UInt8), (8 : UInt8), (8 : UInt8), (8 : UInt8), (8 : UInt8), (8 : UInt8), (8 : UInt8), (8 : UInt8), (8 : UInt8), (8 : UInt8), (8 : UInt8), (8 : UInt8), (8 : UInt8), (8 : UInt8), (8 : UInt8), (8 : UInt8), (8 : UInt8), (8 : UInt8), (8 : UInt8), (8 : UInt8), (8 : UInt8), (8 : UInt8), (8 : UInt8), (8 : UInt8), (8 : UInt8), (8 : UInt8), (8 : UInt8), (8 : UInt8), (8 : UInt8), (8 : UInt8), (8 : UInt8), (8 : UInt8), (8 : UInt8), (8 : UInt8), (8 : UInt8), (8 : UInt8), (8 : UInt8), (8 : UInt8), (8 : UInt8), (8 : UInt8), (8 : UInt8), (8 : UInt8), (8 : UInt8), (8 : UInt8), (8 : UInt8), (8 : UInt8), (8 : UInt8), (8 : UInt8), (8 : UInt8), (8 : UInt8), (8 : UInt8), (8 : UInt8), (8 : UInt8), (8 : UInt8), (8 : UInt8), (8 : UInt8), (8 : UInt8), (8 : UInt8), (8 : UInt8), (8 : UInt8), (8 : UInt8), (8 : UInt8), (8 : UInt8), (8 : UInt8)]))))) : Int))), (4, .i ((2 : Int))), (5, .i ((0 : Int) + (2 : Int)))] ⟨oM, ⟨oM, (by decide +kernel)⟩, oM, oM, tI⟩ ?_; refine nK hK ?_; clear hK K
 refine aw_ret ?_
 refine rP (V.i 2)
set_option maxRecDepth 100000 in
theorem bLen_ac : AC Tryz.prog 145 [.c (.int .u64 3)] (.i 2) [] := by
 refine acI hTT hMX Tryz.func145 Tryz.ntmps145 fun C hC hF => ?_
 refine sK fun K hK => wR 2 ?_; refine aX hTT 1 [] tI ?_; refine nK hK ?_; clear hK K; refine sK fun K hK => ?_; refine w_false (t := false) kR rfl ?_
 refine aw_skip ?_
 refine xt_n (hK _ ?_); clear hK K; refine sK fun K hK => wR 3 ?_; refine aX hTT 1 [] tI ?_
 refine eC (bLen64_ac) ?_
 refine aX hTT 1 [] tI ?_; refine nK hK ?_; clear hK K
 refine aw_ret ?_
 refine rP (V.i 2)
set_option maxRecDepth 100000 in
theorem SortFunc_ac : AM Tryz.prog 130 [.own 500, usualV] [.row 3 1 3 fun i => [.i i]] (.tup []) [some (.row 3 1 3 fun i => [.i (gi [1, 0, 2] i)])] [] := by
 refine am_intro hTT hMX (fn := Tryz.f130) (N := _) ⟨Tryz.func130, rfl, Tryz.ntmps130, kR⟩ (by simp) rfl (by simp) (by simp) fun C hF => ?_
 refine sK fun K hK => wR 2 ?_; refine aX hTT 3 [] tI ?_; refine nK hK ?_; clear hK K; refine wR 3 ?_; refine aX hTT 4 [(3, .c ((0 : Int) ≤ (3 : Int) ∧ (3 : Int) ≤ (18446744073709551615 : Int)))] ⟨oM, tI⟩ ?_
 refine eC (bLen_ac) ?_
 refine aX hTT 1 [] tI ?_
 refine aops_callM [500] (first := []) (caps := []) (ins' := [Ob.row 3 1 3 fun (i : Nat) => [V.i (↑i : Int)]]) (v' := V.tup []) (δ := [(500, Option.some (Ob.row 3 1 3 fun (i : Nat) => V.renL (nameG (2 : Nat) (some 13) [(500 : Nat)]) [V.i (gi [(1 : Int), (0 : Int), (2 : Int)] i)]))]) (kp := [500]) (pdq_ac) kR kR kR kR kR kR rfl rfl kR (.row kR (fun _ _ => rfl) (fun _ _ => rfl) .nil) kR kR kR ?_
 refine aops_nil ?_
 refine retM (v' := V.tup []) [] [] (.inl rfl) .nil (.cons ⟨Ob.row 3 1 3 fun (i : Nat) => V.renL (nameG (2 : Nat) (some (13 : Tmp)) [(500 : Nat)]) [V.i (gi [(1 : Int), (0 : Int), (2 : Int)] i)], kR, .row kR (fun _ _ => rfl)⟩ .nil) kR kR kR kR kR kR kR
def sp3 : V := .sl 1 3 fun i => [.i i]
def sp3R : Ob := .row 3 1 3 fun i => [.i i]
abbrev yyT12 : Ob := Ob.row 3 1 3 (appRow (0 : Nat) (fun (i : Nat) => List.take (1 : Nat) (List.drop (i * 1) (repV (0 : Nat) [V.c (Value.int IntKind.i64 0)]))) fun (i : Nat) => [V.i (↑i : Int)])
set_option maxRecDepth 100000 in
theorem sClone_ac : AC Tryz.prog 129 [sp3] (.own 0) [.row 3 1 3 fun i => [.i i]] := by
 refine acI hTT hMX Tryz.func129 Tryz.ntmps129 fun C hC hF => ?_
 refine sK fun K hK => wR 2 ?_
 refine aops_x (M := [5]) hTT 1 [] tI ?_
 refine nK hK ?_; clear hK K; refine sK fun K hK => ?_; refine sK fun K hK => wR 3 ?_
 refine aops_x (M := [5]) hTT 2 [(1, .c ((0 : Nat) < (3 : Nat)))] ⟨oM, tI⟩ ?_
 refine nK hK ?_; clear hK K; refine w_false (t := false) kR rfl ?_
 refine aw_skip ?_
 refine xt_n (hK _ ?_); clear hK K; refine sK fun K hK => wR 4 ?_
 refine aops_x (M := [5]) hTT 4 [(0, .r (pn 5 (V.own 300005) (300005 : Nat) (Ob.row 3 1 0 fun (i : Nat) => List.take (1 : Nat) (List.drop (i * 1) (repV (0 : Nat) [V.c (Value.int IntKind.i64 0)]))))), (2, .r (PR.mk (some (7 : Nat)) (some ((0 : Nat) + (3 : Nat) ≤ (1099511627776 : Nat))) (V.own 300007) [((300005 : Nat), none), ((300007 : Nat), some (yyT12))] false))] ⟨oM, tI⟩ ?_
 refine nK hK ?_; clear hK K
 refine aw_ret ?_
 refine ret_own [(0, 300007)] [(2, V.own 0)] (.inr rfl) (.cons kR .nil) (.cons ⟨yyT12, kR, .row kR (fun _ _ => rfl)⟩ .nil) kR kR kR kR
theorem sCloneR : AM Tryz.prog 129 [.own 500] [sp3R] (.own 0) [none] [sp3R] :=
 sClone_ac.row 3 (sz := 1) (n := 3) (row := fun i => [.i i]) rfl rfl (by decide) rfl (fun _ _ => rfl) (fun _ => rfl)
def so3 : V := .sl 1 3 fun i => [.i (gi [1, 0, 2] i)]
set_option maxRecDepth 100000 in
theorem order_ac : AM Tryz.prog 113 [.ptr (fmtF ++ [trk tr3]), .own 500] [sp3R] (.own 0) [none] [.row 3 1 3 fun i => [.i (gi [1, 0, 2] i)]] := by
 refine am_intro hTT hMX (fn := Tryz.f113) (N := _) ⟨Tryz.func113, rfl, Tryz.ntmps113, kR⟩ (by simp) rfl (by simp) (by simp) fun C hF => ?_
 refine sK fun K hK => wR 2 ?_; refine aX hTT 1 [] tI ?_; refine nK hK ?_; clear hK K; refine sK fun K hK => wR 3 ?_; refine aX hTT 1 [] tI ?_
 refine aops_callM [500] (first := []) (caps := []) (ins' := [Ob.row 3 1 3 fun (i : Nat) => [V.i (↑i : Int)]]) (v' := V.own 200006) (δ := [(500, Option.none), (200006, Option.some (Ob.row 3 1 3 fun (i : Nat) => V.renL (nameG (2 : Nat) (some 6) [(500 : Nat)]) [V.i (↑i : Int)]))]) (kp := [500]) (sCloneR) kR kR kR kR kR kR rfl rfl kR (.row kR (fun _ _ => rfl) (fun _ _ => rfl) .nil) kR kR kR ?_
 refine aX hTT 1 [] tI ?_; refine nK hK ?_; clear hK K; refine sK fun K hK => wR 4 ?_; refine aX hTT 3 [] tI ?_
 refine aops_callM [200006] (first := []) (caps := []) (ins' := [Ob.row 3 1 3 fun (i : Nat) => V.renL (nameG (2 : Nat) (some (6 : Tmp)) [(500 : Nat)]) [V.i (↑i : Int)]]) (v' := V.tup []) (δ := [(200006, Option.some (Ob.row 3 1 3 fun (i : Nat) => V.renL (nameG (3 : Nat) (some 10) [(200006 : Nat)]) [V.i (gi [(1 : Int), (0 : Int), (2 : Int)] i)]))]) (kp := [200006]) (SortFunc_ac) kR kR kR kR kR kR rfl rfl kR (.row kR (fun _ _ => rfl) (fun _ _ => rfl) .nil) kR kR kR ?_
 refine nK hK ?_; clear hK K; refine sK fun K hK => wR 5 ?_; refine aX hTT 2 [] tI ?_; refine nK hK ?_; clear hK K
 refine aw_ret ?_
 refine retM (v' := V.own 0) [(0, 200006)] [(4, V.own 0)] (.inr rfl) (.cons kR .nil) (.cons ⟨Ob.row 3 1 3 fun (i : Nat) => V.renL (nameG (3 : Nat) (some (10 : Tmp)) [(200006 : Nat)]) [V.i (gi [(1 : Int), (0 : Int), (2 : Int)] i)], kR, .row kR (fun _ _ => rfl)⟩ .nil) kR kR kR kR kR kR kR
set_option maxRecDepth 100000 in
theorem sd_all_ac : AC Tryz.prog 92 [.ptr (fmtF ++ [trk tr3])] (.own 0) [.row 3 1 3 fun i => [.i (gi [1, 0, 2] i)]] := by
 refine acI hTT hMX Tryz.func92 Tryz.ntmps92 fun C hC hF => ?_
 refine sK fun K hK => wR 2 ?_; refine aX hTT 1 [] tI ?_; refine nK hK ?_; clear hK K; refine sK fun K hK => wR 3 ?_; refine aX hTT 6 [] tI ?_
 refine e_callO (first := []) (caps := []) (k := 200009) (v' := V.own 200009) (ob' := Ob.row 3 1 3 fun (i : Nat) => V.renL (callG (2 : Nat) (some 9)) [V.i (↑i : Int)]) (span3_ac) kR kR kR kR kR kR kR ?_
 skip
 refine aops_callM [200009] (first := []) (caps := []) (ins' := [Ob.row 3 1 3 fun (i : Nat) => V.renL (callG (2 : Nat) (some (9 : Tmp))) [V.i (↑i : Int)]]) (v' := V.own 200010) (δ := [(200009, Option.none), (200010, Option.some (Ob.row 3 1 3 fun (i : Nat) => V.renL (nameG (2 : Nat) (some 10) [(200009 : Nat)]) [V.i (gi [(1 : Int), (0 : Int), (2 : Int)] i)]))]) (kp := [200009]) (order_ac) kR kR kR kR kR kR rfl rfl kR (.row kR (fun _ _ => rfl) (fun _ _ => rfl) .nil) kR kR kR ?_
 refine aX hTT 1 [] tI ?_; refine nK hK ?_; clear hK K
 refine aw_ret ?_
 refine ret_own [(0, 200010)] [(2, V.own 0)] (.inr rfl) (.cons kR .nil) (.cons ⟨Ob.row 3 1 3 fun (i : Nat) => V.renL (nameG (2 : Nat) (some (10 : Tmp)) [(200009 : Nat)]) [V.i (gi [(1 : Int), (0 : Int), (2 : Int)] i)], kR, .row kR (fun _ _ => rfl)⟩ .nil) kR kR kR kR
def bandR : Nat → List V := fun j => [.i (gi [1, 0, 2] j), .i (gi [980, 850, 640] j), .i (gi [860, 650, 590] j)]
abbrev yyT15 : List V := [V.i (gi [(1 : Int), (0 : Int), (2 : Int)] (0 : Nat)), V.i 980, V.i 860]
abbrev yyT14 := (appRow (1 : Nat) (fun (i : Nat) => List.take (3 : Nat) (List.drop (i * 3) yyT15)) fun (i : Nat) => List.take (3 : Nat) (List.drop (i * 3) [V.i (gi [(1 : Int), (0 : Int), (2 : Int)] (1 : Nat)), V.i 850, V.i 650]))
abbrev yyT13 : Ob := Ob.row 207 3 3 (appRow (2 : Nat) yyT14 fun (i : Nat) => List.take (3 : Nat) (List.drop (i * 3) [V.i (gi [(1 : Int), (0 : Int), (2 : Int)] (2 : Nat)), V.i 640, V.i 590]))
set_option maxRecDepth 100000 in
theorem lay_ac : AC Tryz.prog 115 [.ptr (fmtF ++ [trk tr3]), so3] (.tup [.own 0, .i 3, .i 0]) [.row 207 3 3 bandR] := by
 refine acI hTT hMX Tryz.func115 Tryz.ntmps115 fun C hC hF => ?_
 refine sK fun K hK => wR 2 ?_; refine aX hTT 3 [] tI ?_; refine nK hK ?_; clear hK K; refine sK fun K hK => wR 3 ?_; refine aX hTT 1 [] tI ?_; refine nK hK ?_; clear hK K; refine sK fun K hK => wD 4 ?_; refine aX hTT 12 [(10, .i ((1000 : Int) - (20 : Int)))] ⟨oM, tI⟩ ?_; refine aops_nil ⟨kR, ?_⟩; refine xt_n (hK _ ?_); clear hK K; refine sK fun K hK => ?_; refine sK fun K hK => wR 5 ?_; refine aX hTT 3 [] tI ?_; refine nK hK ?_; clear hK K
 refine aw_block ?_
 refine aw_rounds 4 ?_
 refine awr_succ (m := 3) fun K hK => ?_
 refine sK fun K hK => wR 6 ?_; refine aX hTT 1 [] tI ?_; refine nK hK ?_; clear hK K; refine sK fun K hK => ?_; refine w_true (t := true) kR rfl ?_
 refine aw_skip ?_
 refine xt_n (hK _ ?_); clear hK K; refine sK fun K hK => ?_
 refine aw_block ?_
 refine sK fun K hK => wR 7 ?_; refine aX hTT 5 [(1, .c qT10)] ⟨qT10_, tI⟩ ?_; refine nK hK ?_; clear hK K; refine sK fun K hK => ?_; refine sK fun K hK => wR 8 ?_; refine aX hTT 2 [] tI ?_; refine nK hK ?_; clear hK K; refine w_false (t := false) kR rfl ?_
 refine aw_skip ?_
 refine xt_n (hK _ ?_); clear hK K; refine sK fun K hK => wR 9 ?_; refine aX hTT 11 [(9, .c qT14)] ⟨qT14_, tI⟩ ?_
 refine eC (sdWidth_ac tr3 30 40 800 (by decide) (by decide)) ?_
 refine aX hTT 4 [(0, .i ((980 : Int) - (40 : Int) * Int.tdiv ((30 : Int) + (10 : Int) - (1 : Int)) (10 : Int))), (2, .r (pn 11 (V.ref 800011 0) (800011 : Nat) (Ob.box 207 [V.i 0, V.i 0, V.i 0]))), (3, .r (pw ((0 : Nat) + (3 : Nat) ≤ (3 : Nat)) (800011 : Nat) (Ob.box 207 yyT15)))] ⟨⟨(by decide +kernel), (by decide +kernel)⟩, oM, tI⟩ ?_; refine nK hK ?_; clear hK K; refine sK fun K hK => ?_; refine sK fun K hK => wR 10 ?_; refine aX hTT 3 [(1, .c ((2 : Nat) ≤ (3 : Nat)))] ⟨oM, tI⟩ ?_; refine nK hK ?_; clear hK K; refine sK fun K hK => wR 11 ?_; refine aX hTT 10 [(6, .c qT14)] ⟨qT14_, tI⟩ ?_; refine nK hK ?_; clear hK K; refine w_false (t := false) kR rfl ?_
 refine aw_skip ?_
 refine xt_n (hK _ ?_); clear hK K; refine wR 12 ?_; refine aX hTT 5 [(1, .c ((0 : Nat) ≤ (3 : Nat))), (3, .r (PR.mk (some (69 : Nat)) (some ((1 : Nat) ≤ (1099511627776 : Nat))) (V.own 1100069) [((1100069 : Nat), some (Ob.row 207 3 1 fun (i : Nat) => List.take (3 : Nat) (List.drop (i * 3) yyT15)))] false))] ⟨oM, oM, tI⟩ ?_; refine aops_nil ?_; refine xb_n ?_; refine xt_n (hK _ ?_); clear hK K; refine wR 13 ?_; refine aX hTT 2 [(0, .i ((0 : Int) + (1 : Int)))] ⟨oM, tI⟩ ?_; refine nK hK ?_; clear hK K
 refine awr_succ (m := 2) fun K hK => ?_
 refine sK fun K hK => wR 14 ?_; refine aX hTT 1 [] tI ?_; refine nK hK ?_; clear hK K; refine sK fun K hK => ?_; refine w_true (t := true) kR rfl ?_
 refine aw_skip ?_
 refine xt_n (hK _ ?_); clear hK K; refine sK fun K hK => ?_
 refine aw_block ?_
 refine sK fun K hK => wR 15 ?_; refine aX hTT 5 [(1, .c qT11)] ⟨qT11_, tI⟩ ?_; refine nK hK ?_; clear hK K; refine sK fun K hK => ?_; refine sK fun K hK => wR 16 ?_; refine aX hTT 2 [] tI ?_; refine nK hK ?_; clear hK K; refine w_true (t := true) kR rfl ?_; refine wR 17 ?_; refine aX hTT 8 [(6, .i ((860 : Int) - (10 : Int)))] ⟨oM, tI⟩ ?_; refine nK hK ?_; clear hK K; refine sK fun K hK => wR 18 ?_; refine aX hTT 11 [(9, .c qT15)] ⟨qT15_, tI⟩ ?_
 refine eC (sdWidth_ac tr3 95 20 500 (by decide) (by decide)) ?_
 refine aX hTT 4 [(0, .i ((850 : Int) - (20 : Int) * Int.tdiv ((95 : Int) + (10 : Int) - (1 : Int)) (10 : Int))), (2, .r (pn 11 (V.ref 1700011 0) (1700011 : Nat) (Ob.box 207 [V.i 0, V.i 0, V.i 0]))), (3, .r (pw ((0 : Nat) + (3 : Nat) ≤ (3 : Nat)) (1700011 : Nat) (Ob.box 207 [V.i (gi [(1 : Int), (0 : Int), (2 : Int)] (1 : Nat)), V.i 850, V.i 650])))] ⟨⟨(by decide +kernel), (by decide +kernel)⟩, oM, tI⟩ ?_; refine nK hK ?_; clear hK K; refine sK fun K hK => ?_; refine sK fun K hK => wR 19 ?_; refine aX hTT 3 [(1, .c ((2 : Nat) ≤ (3 : Nat)))] ⟨oM, tI⟩ ?_; refine nK hK ?_; clear hK K; refine sK fun K hK => wR 20 ?_; refine aX hTT 10 [(6, .c qT15)] ⟨qT15_, tI⟩ ?_; refine nK hK ?_; clear hK K; refine w_false (t := false) kR rfl ?_
 refine aw_skip ?_
 refine xt_n (hK _ ?_); clear hK K; refine wR 21 ?_; refine aX hTT 5 [(1, .c ((0 : Nat) ≤ (3 : Nat))), (3, .r (PR.mk (some (69 : Nat)) (some ((1 : Nat) + (1 : Nat) ≤ (1099511627776 : Nat))) (V.own 2000069) [((1100069 : Nat), none), ((2000069 : Nat), some (Ob.row 207 3 2 yyT14))] false))] ⟨oM, oM, tI⟩ ?_; refine aops_nil ?_; refine xb_n ?_; refine xt_n (hK _ ?_); clear hK K; refine wR 22 ?_; refine aX hTT 2 [(0, .i ((1 : Int) + (1 : Int)))] ⟨oM, tI⟩ ?_; refine nK hK ?_; clear hK K
 refine awr_succ (m := 1) fun K hK => ?_
 refine sK fun K hK => wR 23 ?_; refine aX hTT 1 [] tI ?_; refine nK hK ?_; clear hK K; refine sK fun K hK => ?_; refine w_true (t := true) kR rfl ?_
 refine aw_skip ?_
 refine xt_n (hK _ ?_); clear hK K; refine sK fun K hK => ?_
 refine aw_block ?_
 refine sK fun K hK => wR 24 ?_; refine aX hTT 5 [(1, .c qT12)] ⟨qT12_, tI⟩ ?_; refine nK hK ?_; clear hK K; refine sK fun K hK => ?_; refine sK fun K hK => wR 25 ?_; refine aX hTT 2 [] tI ?_; refine nK hK ?_; clear hK K; refine w_true (t := true) kR rfl ?_; refine wR 26 ?_; refine aX hTT 8 [(6, .i ((650 : Int) - (10 : Int)))] ⟨oM, tI⟩ ?_; refine nK hK ?_; clear hK K; refine sK fun K hK => wR 27 ?_; refine aX hTT 11 [(9, .c qT16)] ⟨qT16_, tI⟩ ?_
 refine eC (sdWidth_ac tr3 41 10 0 (by decide) (by decide)) ?_
 refine aX hTT 4 [(0, .i ((640 : Int) - (10 : Int) * Int.tdiv ((41 : Int) + (10 : Int) - (1 : Int)) (10 : Int))), (2, .r (pn 11 (V.ref 2600011 0) (2600011 : Nat) (Ob.box 207 [V.i 0, V.i 0, V.i 0]))), (3, .r (pw ((0 : Nat) + (3 : Nat) ≤ (3 : Nat)) (2600011 : Nat) (Ob.box 207 [V.i (gi [(1 : Int), (0 : Int), (2 : Int)] (2 : Nat)), V.i 640, V.i 590])))] ⟨⟨(by decide +kernel), (by decide +kernel)⟩, oM, tI⟩ ?_; refine nK hK ?_; clear hK K; refine sK fun K hK => ?_; refine sK fun K hK => wR 28 ?_; refine aX hTT 3 [(1, .c ((2 : Nat) ≤ (3 : Nat)))] ⟨oM, tI⟩ ?_; refine nK hK ?_; clear hK K; refine sK fun K hK => wR 29 ?_; refine aX hTT 10 [(6, .c qT16)] ⟨qT16_, tI⟩ ?_; refine nK hK ?_; clear hK K; refine w_false (t := false) kR rfl ?_
 refine aw_skip ?_
 refine xt_n (hK _ ?_); clear hK K; refine wR 30 ?_; refine aX hTT 5 [(1, .c ((0 : Nat) ≤ (3 : Nat))), (3, .r (PR.mk (some (69 : Nat)) (some ((2 : Nat) + (1 : Nat) ≤ (1099511627776 : Nat))) (V.own 2900069) [((2000069 : Nat), none), ((2900069 : Nat), some (yyT13))] false))] ⟨oM, oM, tI⟩ ?_; refine aops_nil ?_; refine xb_n ?_; refine xt_n (hK _ ?_); clear hK K; refine wR 31 ?_; refine aX hTT 2 [(0, .i ((2 : Int) + (1 : Int)))] ⟨oM, tI⟩ ?_; refine nK hK ?_; clear hK K
 refine awr_succ (m := 0) fun K hK => ?_
 refine sK fun K hK => wR 32 ?_; refine aX hTT 1 [] tI ?_; refine nK hK ?_; clear hK K; refine sK fun K hK => ?_; refine w_false (t := false) kR rfl ?_
 refine aw_exit ?_
 refine xt_x ?_; refine xt_x ?_
 refine xb_same ?_
 refine xt_n ?_; clear hK K; clear hK K; refine hK _ ?_; clear hK K; refine sK fun K hK => ?_; refine sK fun K hK => wD 33 ?_; refine aX hTT 13 [(6, .i ((590 : Int) - (30 : Int)))] ⟨oM, tI⟩ ?_; refine aops_nil ⟨kR, ?_⟩; refine xt_n (hK _ ?_); clear hK K; refine w_false (t := false) kR rfl ?_
 refine aw_skip ?_
 refine xt_n (hK _ ?_); clear hK K; refine sK fun K hK => wR 34 ?_; refine aX hTT 6 [] tI ?_; refine nK hK ?_; clear hK K
 refine aw_ret ?_
 refine ret_own [(0, 2900069)] [(4, V.own 0), (5, V.i 3), (6, V.i 0)] (.inr rfl) (.cons kR (.cons kR (.cons kR .nil))) (.cons ⟨yyT13, kR, .row kR ?_⟩ .nil) kR kR kR kR
 intro i hi
 rcases (by omega : i = 0 ∨ i = 1 ∨ i = 2) with rfl | rfl | rfl <;> rfl
set_option maxRecDepth 100000 in
theorem possible_ac : AC Tryz.prog 93 [.ptr (fmtF ++ [trk tr3]), so3] (.b true) [] := by
 refine acI hTT hMX Tryz.func93 Tryz.ntmps93 fun C hC hF => ?_
 refine sK fun K hK => wR 2 ?_; refine aX hTT 1 [] tI ?_; refine nK hK ?_; clear hK K; refine sK fun K hK => wR 3 ?_; refine aX hTT 2 [] tI ?_
 refine e_callO (first := []) (caps := []) (k := 200011) (v' := V.tup [V.own 200011, V.i 3, V.i 0]) (ob' := Ob.row 207 3 3 fun (i : Nat) => V.renL (callG (2 : Nat) (some 11)) (bandR i)) (lay_ac) kR kR kR kR kR kR kR ?_
 refine aX hTT 7 [] tI ?_; refine nK hK ?_; clear hK K; refine sK fun K hK => wR 4 ?_; refine aX hTT 3 [] tI ?_; refine nK hK ?_; clear hK K
 refine aw_ret ?_
 refine rP (V.b true)
theorem possR : AM Tryz.prog 93 [.ptr (fmtF ++ [trk tr3]), .own 500] [.row 3 1 3 fun i => [.i (gi [1, 0, 2] i)]] (.b true) [some (.row 3 1 3 fun i => [.i (gi [1, 0, 2] i)])] [] :=
 possible_ac.rowK 3 (sz := 1) (n := 3) (row := fun i => [.i (gi [1, 0, 2] i)]) rfl rfl (by decide) (fun _ => rfl) rfl (by simp)
set_option maxRecDepth 100000 in
theorem Arrange0_ac : AC Tryz.prog 64 [.agg fmtF, trk tr3] (.tup [.own 0, .i 0]) [.row 3 1 3 fun i => [.i (gi [1, 0, 2] i)]] := by
 refine acI hTT hMX Tryz.func64 Tryz.ntmps64 fun C hC hF => ?_
 refine sK fun K hK => wR 2 ?_; refine aX hTT 3 [] tI ?_; refine nK hK ?_; clear hK K; refine sK fun K hK => wR 3 ?_; refine aX hTT 2 [] tI ?_
 refine eC (open3_ac) ?_
 refine aX hTT 5 [] tI ?_; refine nK hK ?_; clear hK K; refine sK fun K hK => ?_; refine sK fun K hK => wR 4 ?_; refine aX hTT 2 [] tI ?_; refine nK hK ?_; clear hK K; refine w_false (t := false) kR rfl ?_
 refine aw_skip ?_
 refine xt_n (hK _ ?_); clear hK K; refine sK fun K hK => ?_; refine sK fun K hK => wR 5 ?_; refine aX hTT 1 [] tI ?_
 refine e_callO (first := []) (caps := []) (k := 400019) (v' := V.own 400019) (ob' := Ob.row 3 1 3 fun (i : Nat) => V.renL (callG (4 : Nat) (some 19)) [V.i (gi [(1 : Int), (0 : Int), (2 : Int)] i)]) (sd_all_ac) kR kR kR kR kR kR kR ?_
 refine aX hTT 1 [] tI ?_; refine nK hK ?_; clear hK K; refine sK fun K hK => wR 6 ?_; refine aX hTT 2 [] tI ?_
 refine aops_callR [400019] (first := []) (caps := []) (ins' := [Ob.row 3 1 3 fun (i : Nat) => V.renL (callG (4 : Nat) (some (19 : Tmp))) [V.i (gi [(1 : Int), (0 : Int), (2 : Int)] i)]]) (v' := V.b true) (δ := []) (kp := [400019]) (possR) kR kR kR kR kR kR kR rfl kR kR ⟨(fun _ _ => rfl), tI⟩ kR kR kR ?_
 refine nK hK ?_; clear hK K; refine w_true (t := true) kR rfl ?_; refine sK fun K hK => wR 7 ?_; refine aX hTT 3 [] tI ?_; refine nK hK ?_; clear hK K
 refine aw_ret ?_
 refine xt_r ?_
 refine ret_own [(0, 400019)] [(4, V.own 0), (5, V.i 0)] (.inr rfl) (.cons kR (.cons kR .nil)) (.cons ⟨Ob.row 3 1 3 fun (i : Nat) => V.renL (callG (4 : Nat) (some (19 : Tmp))) [V.i (gi [(1 : Int), (0 : Int), (2 : Int)] i)], kR, .row kR (fun _ _ => rfl)⟩ .nil) kR kR kR kR
theorem Arrange_ac : AC Tryz.prog 64 [.agg fmtF, trk tr3] (.tup [so3, .i 0]) [] := AC.shut1 Arrange0_ac rfl (fun i _ => rfl) (fun _ => rfl) rfl rfl
end Go.Proofs.YtepkjobndmmejaaGreatDoor

namespace Go.Proofs.YtepkjobndmmejaaGreatDoor
open Go.Ab Go.RowKit Go.Dw Go.Shelf
abbrev yyT50 : List V := [V.c (Value.string (ByteArray.mk #[(102 : UInt8)])), V.i 1000, V.i 400, V.i 10, V.i 20, V.i 10, V.i 30, V.i 5]
set_option maxRecDepth 100000 in
theorem works04_ac : AC Tryz.prog 32 [] (.b true) [] := by
 refine acI hTT hMX Tryz.func32 Tryz.ntmps32 fun C hC hF => ?_
 refine sK fun K hK => wR 2 ?_; refine aX hTT 1 [] tI ?_; refine nK hK ?_; clear hK K; refine sK fun K hK => wR 3 ?_; refine aX hTT 3 [(1, .r (pn 1 (V.ref 200001 0) (200001 : Nat) (Ob.box 122 [V.c (Value.string (ByteArray.mk #[])), V.i 0, V.i 0, V.i 0, V.i 0, V.i 0, V.i 0, V.i 0]))), (2, .r (pw ((0 : Nat) + (8 : Nat) ≤ (8 : Nat)) (200001 : Nat) (Ob.box 122 yyT50)))] ⟨oM, tI⟩ ?_; refine nK hK ?_; clear hK K; refine sK fun K hK => wR 4 ?_; refine aX hTT 5 [] tI ?_; refine nK hK ?_; clear hK K; refine sK fun K hK => wR 5 ?_; refine aX hTT 2 [(0, .c ((0 : Nat) ≤ (8 : Nat)))] ⟨oM, tI⟩ ?_
 refine eC (AC.conv (Arrange_ac) (args' := [V.agg yyT50, V.sl 3 3 fun (i : Nat) => List.take (3 : Nat) (List.drop (i * 3) [V.i 95, V.i 20, V.i 500, V.i 30, V.i 40, V.i 800, V.i 41, V.i 10, V.i 0])]) ⟨RImp.refl _, ?_, trivial⟩) ?_
 ·
  exact RImp.rows rfl fun i hi => by
   have hi : i < 3 := hi
   rcases (by omega : i = 0 ∨ i = 1 ∨ i = 2) with rfl | rfl | rfl <;> rfl
 refine aX hTT 5 [] tI ?_; refine nK hK ?_; clear hK K; refine sK fun K hK => wD 6 ?_; refine aX hTT 4 [(0, .c ((0 : Nat) ≤ (8 : Nat))), (2, .c ((0 : Int) ≤ (0 : Int) ∧ (0 : Int) < (↑(3 : Nat) : Int)))] ⟨oM, oM, tI⟩ ?_
 refine eC (SdWidth_ac) ?_
 refine aX hTT 5 [] tI ?_; refine aops_nil ⟨kR, ?_⟩; refine xt_n (hK _ ?_); clear hK K; refine sK fun K hK => wR 7 ?_; refine aX hTT 22 [(3, .c (gA (true == true) True)), (4, .c (gD (true == true) True)), (5, .c ((true = true → (true == true) = true) ∧ True)), (7, .c (gA (true == true) True)), (8, .c (gB (true == true) True)), (9, .c (gD (true == true) True)), (10, .c ((true = true → (true == true) = true) ∧ True)), (12, .c (gA (true == true) True)), (13, .c (gD (true == true) ((0 : Int) ≤ (0 : Int) ∧ (0 : Int) < (↑(3 : Nat) : Int)))), (14, .c (gB (true == true) True)), (15, .c (gD (true == true) True)), (16, .c ((true = true → (true == true) = true) ∧ True)), (18, .c (gA (true == true) True)), (19, .c (gD (true == true) True)), (20, .c ((true = true → (true == true) = true) ∧ True))] ⟨⟨⟨tI, tI⟩, (fun _ => tI)⟩, ⟨⟨(by (exact fun h => h)), ⟨tI, tI⟩⟩, (fun _ => tI)⟩, ⟨(by (exact fun h => h)), tI⟩, ⟨⟨tI, tI⟩, (fun _ => tI)⟩, ⟨⟨(by (exact fun h => h)), tI⟩, (fun _ => tI)⟩, ⟨⟨(by (exact fun h => h)), ⟨tI, tI⟩⟩, (fun _ => tI)⟩, ⟨(by (exact fun h => h)), tI⟩, ⟨⟨tI, tI⟩, (fun _ => tI)⟩, ⟨⟨(by (exact fun h => h)), ⟨tI, tI⟩⟩, (by (intro _; simp; done))⟩, ⟨⟨(by (exact fun h => h)), tI⟩, (fun _ => tI)⟩, ⟨⟨(by (exact fun h => h)), ⟨tI, tI⟩⟩, (fun _ => tI)⟩, ⟨(by (exact fun h => h)), tI⟩, ⟨⟨tI, tI⟩, (fun _ => tI)⟩, ⟨⟨(by (exact fun h => h)), ⟨tI, tI⟩⟩, (fun _ => tI)⟩, ⟨(by (exact fun h => h)), tI⟩, tI⟩ ?_
 refine eG 0 (g := true == true) (fun _ => works03_ac) ?_
 refine aX hTT 2 [(0, .c ((true = true → (true == true) = true) ∧ True))] ⟨⟨(by (exact fun h => h)), tI⟩, tI⟩ ?_; refine nK hK ?_; clear hK K
 refine aw_ret ?_
 refine rP (V.b true)
end Go.Proofs.YtepkjobndmmejaaGreatDoor

namespace Go.Proofs.YtepkjobndmmejaaGreatDoor
open Go.Ab Go.RowKit Go.Dw Go.Shelf
def w6L : List Pt := [(-100, 100), (-100, 90), (-95, 100)]
theorem w6R : AC Tryz.prog 27 [.agg [V.ints [0, 2, 10]], V.pts w6L] (.tup [V.pts [(-100, 92), (-97, 90), (-95, 92)], .i 0]) [] := by
 have A := Read_ac [0, 2, 10] w6L (by decide) (by decide)
 rw [show wallsR [0, 2, 10] w6L = [(-100, 92), (-97, 90), (-95, 92)] by decide +kernel, show checkBoth [0, 2, 10] w6L = 0 by decide +kernel] at A
 exact A
theorem w6B : AC Tryz.prog 23 [V.pts w6L] (.tup [.agg [.i 0, .i 25], .i 0]) [] := by
 have A := Balance_ac w6L (by decide)
 rw [show balArm w6L = (0, 25) by decide +kernel, show checkPts w6L = 0 by decide +kernel] at A
 exact A
abbrev zzT60 : V := V.sl 2 3 fun (i : Nat) => List.take (2 : Nat) (List.drop (i * 2) [V.i (-100), V.i 100, V.i (-100), V.i 90, V.i (-95), V.i 100])
set_option maxRecDepth 100000 in
theorem works06_ac : AC Tryz.prog 10 [] (.b true) [] := by
 refine acI hTT hMX Tryz.func10 Tryz.ntmps10 fun C hC hF => ?_
 refine sK fun K hK => wR 2 ?_; refine aX hTT 1 [] tI ?_; refine nK hK ?_; clear hK K; refine sK fun K hK => wR 3 ?_; refine aX hTT 5 [] tI ?_; refine nK hK ?_; clear hK K; refine sK fun K hK => wR 4 ?_; refine aX hTT 3 [] tI ?_
 refine eC (AC.conv (w6R) (args' := [V.agg [V.sl 1 3 fun (i : Nat) => List.take (1 : Nat) (List.drop (i * 1) [V.i 0, V.i 2, V.i 10])], zzT60]) ⟨?_, ?_, trivial⟩) ?_
 ·
  exact RImp.agg ⟨RImp.lit1 [0, 2, 10], trivial⟩
 ·
  exact gLit3 rfl rfl rfl
 refine aX hTT 5 [] tI ?_; refine nK hK ?_; clear hK K; refine sK fun K hK => wR 5 ?_; refine aX hTT 1 [] tI ?_
 refine eC (AC.conv (w6B) (args' := [zzT60]) ⟨?_, trivial⟩) ?_
 ·
  exact gLit3 rfl rfl rfl
 refine aX hTT 6 [(3, .r (pn 4 (V.ref 400004 0) (400004 : Nat) (Ob.box 66 [V.i 0, V.i 0]))), (4, .r (pw ((0 : Nat) + (2 : Nat) ≤ (2 : Nat)) (400004 : Nat) (Ob.box 66 [V.i 0, V.i 25])))] ⟨oM, tI⟩ ?_; refine nK hK ?_; clear hK K; refine sK fun K hK => wR 6 ?_; refine aX hTT 24 [(3, .c (gA (true == true) True)), (4, .c (gD (true == true) True)), (5, .c ((true = true → (true == true) = true) ∧ True)), (7, .c (gA (true == true) True)), (8, .c (gB (true == true) True)), (9, .c (gD (true == true) True)), (10, .c ((true = true → (true == true) = true) ∧ True)), (12, .c (gA (true == true) True)), (13, .c (gD (true == true) ((0 : Int) ≤ (1 : Int) ∧ (1 : Int) < (↑(3 : Nat) : Int)))), (14, .c (gB (true == true) True)), (15, .c ((True ∧ True ∧ True) ∧ ((true == true) = true → True))), (16, .c (gC (true == true) True)), (17, .c ((true = true → (true == true) = true) ∧ True)), (19, .c (gA (true == true) ((0 : Nat) ≤ (2 : Nat)))), (20, .c (gA (true == true) True)), (21, .c (gC (true == true) True)), (22, .c ((true = true → (true == true) = true) ∧ True))] ⟨⟨⟨tI, tI⟩, (fun _ => tI)⟩, ⟨⟨(by (exact fun h => h)), ⟨tI, tI⟩⟩, (fun _ => tI)⟩, ⟨(by (exact fun h => h)), tI⟩, ⟨⟨tI, tI⟩, (fun _ => tI)⟩, ⟨⟨(by (exact fun h => h)), tI⟩, (fun _ => tI)⟩, ⟨⟨(by (exact fun h => h)), ⟨tI, tI⟩⟩, (fun _ => tI)⟩, ⟨(by (exact fun h => h)), tI⟩, ⟨⟨tI, tI⟩, (fun _ => tI)⟩, ⟨⟨(by (exact fun h => h)), ⟨tI, tI⟩⟩, (by (intro _; simp; done))⟩, ⟨⟨(by (exact fun h => h)), tI⟩, (fun _ => tI)⟩, ⟨⟨tI, ⟨tI, tI⟩⟩, (fun _ => tI)⟩, ⟨⟨(by (exact fun h => h)), ⟨(by (exact fun h => h)), tI⟩⟩, (fun _ => tI)⟩, ⟨(by (exact fun h => h)), tI⟩, ⟨⟨tI, tI⟩, (by (intro _; simp; done))⟩, ⟨⟨tI, tI⟩, (fun _ => tI)⟩, ⟨⟨(by (exact fun h => h)), ⟨(by (exact fun h => h)), tI⟩⟩, (fun _ => tI)⟩, ⟨(by (exact fun h => h)), tI⟩, tI⟩ ?_
 refine eG 0 (g := true == true) (fun _ => works04_ac) ?_
 refine aX hTT 2 [(0, .c ((true = true → (true == true) = true) ∧ True))] ⟨⟨(by (exact fun h => h)), tI⟩, tI⟩ ?_; refine nK hK ?_; clear hK K
 refine aw_ret ?_
 refine rP (V.b true)
end Go.Proofs.YtepkjobndmmejaaGreatDoor
