/-
  Several texts in one: Curves and chains applied and undone: both copies; lists that are equal. Condition: as many elements as a slice can have. .. take.Render at one small example. Conditions: told in each theorem.
-/
import Derived.Test.YtplnhbenmgclfaaGreatDoorAbs42
import Derived.Test.YtplnhbenmgclfaaGreatDoorX06
import Derived.Test.YtplnhbenmgclfaaGreatDoorX00
import Derived.Test.YtplnhbenmgclfaaGreatDoorMC
import Derived.Test.YtplnhbenmgclfaaGreatDoorX02
import Derived.Test.YtplnhbenmgclfaaGreatDoorX03
import Derived.Test.YtplnhbenmgclfaaGreatDoorX01
import Derived.Test.YtplnhbenmgclfaaGreatDoorMD
namespace Go.Proofs.YtplnhbenmgclfaaGreatDoor
open Go.Ab Go.RowKit Go.Dw Go.Shelf
theorem cvs_one {c : Cv} (h : cvL c) : cvsL [c] := ⟨by unfold bigL; simp, fun k hk => by simp at hk; subst hk; exact h⟩
def apR (c : Cv) (u : Bool) (x : List Int) : Int × List Int := chR [c] u x
set_option maxRecDepth 100000 in
theorem Apply_ac (c : Cv) (x : List Int) (hc : cvL c) (hx : x.length ≤ bigL) : AC Tryz.prog 86 [V.cv c, V.ints x] (.tup [V.ints (apR c false x).2, .i (apR c false x).1]) [] := by
 refine acI hTT hMX Tryz.func86 Tryz.ntmps86 fun C hC hF => ?_
 refine aw_seq_k fun K hK => wR 2 ?_; refine aX hTT 3 [] True.intro ?_; refine aops_nil (xt_n (hK _ ?_)); clear hK K; refine aw_seq_k fun K hK => wR 3 ?_; refine aX hTT 3 [] True.intro ?_
 refine eC (AC.conv (chain_ac [c] x false (cvs_one hc) hx) (args' := [V.sl 3 1 fun (i : Nat) => List.take (3 : Nat) (List.drop (i * (3 : Nat)) [V.sl 1 (List.length (Cv.feed c)) fun (k : Nat) => [V.i (gi (Cv.feed c) k)], V.sl 1 (List.length (Cv.back c)) fun (k : Nat) => [V.i (gi (Cv.back c) k)], V.i (Cv.share c)]), V.sl 1 (List.length x) fun (k : Nat) => [V.i (gi x k)], V.b false]) ⟨?_, RImp.refl _, RImp.refl _, trivial⟩) ?_
 ·
  refine RImp.rows rfl fun i hi => ?_
  obtain rfl : i = 0 := by omega
  rfl
 refine aX hTT 4 [] True.intro ?_; refine aops_nil (xt_n (hK _ ?_)); clear hK K
 refine aw_ret ?_
 refine rP (V.tup [V.sl 1 (List.length (Prod.snd (chR [c] false x))) fun (k : Nat) => [V.i (gi (Prod.snd (chR [c] false x)) k)], V.i (Prod.fst (chR [c] false x))])
def hl (f : Nat → Int) : Nat → List Int
 | 0 => []
 | t + 1 => f t :: hl f t
end Go.Proofs.YtplnhbenmgclfaaGreatDoor

namespace Go.Proofs.YtplnhbenmgclfaaGreatDoor
open Go.Ab Go.RowKit Go.Dw Go.Shelf
end Go.Proofs.YtplnhbenmgclfaaGreatDoor

namespace Go.Proofs.YtplnhbenmgclfaaGreatDoor
open Go.Ab Go.RowKit Go.Dw Go.Shelf
attribute [local go_sem] Oper.semAt_some
end Go.Proofs.YtplnhbenmgclfaaGreatDoor

namespace Go.Proofs.YtplnhbenmgclfaaGreatDoor
open Go.Ab Go.RowKit Go.Dw Go.Shelf
end Go.Proofs.YtplnhbenmgclfaaGreatDoor

namespace Go.Proofs.YtplnhbenmgclfaaGreatDoor
open Go.Ab Go.RowKit Go.Dw Go.Shelf
end Go.Proofs.YtplnhbenmgclfaaGreatDoor

namespace Go.Proofs.YtplnhbenmgclfaaGreatDoor
open Go.Ab Go.RowKit Go.Dw Go.Shelf
end Go.Proofs.YtplnhbenmgclfaaGreatDoor

namespace Go.Proofs.YtplnhbenmgclfaaGreatDoor
open Go.Ab Go.RowKit Go.Dw Go.Shelf
theorem RImp.agg {us' us : List V} (h : A2 us' us) : RImp (.agg us') (.agg us) := by
 intro w L x hx
 obtain ⟨xs, rfl, hl⟩ := hx.agg_inv
 have hv := h.rv hl.rv
 exact .agg' ⟨hv.1, fun i u x hu hx => ⟨hv.2 i u x hu hx, hl.one x (List.mem_of_getElem? hx)⟩⟩
theorem RImp.lit1 (l : List Int) : RImp (.sl 1 l.length fun i => ((l.map V.i).drop (i * 1)).take 1) (V.ints l) := by
 refine .rows rfl fun i hi => ?_
 rw [Nat.mul_one, List.drop_eq_getElem_cons (by simpa using hi)]
 simp [gi_eq hi]
end Go.Proofs.YtplnhbenmgclfaaGreatDoor

namespace Go.Proofs.YtplnhbenmgclfaaGreatDoor
open Go.Ab Go.RowKit Go.Dw Go.Shelf
def nA : ByteArray := ⟨#[97]⟩
def lett : ByteArray := ⟨#[97, 98, 99, 100, 101, 102, 103, 104, 105, 106, 107, 108, 109, 110, 111, 112, 113, 114, 115, 116, 117, 118, 119, 120, 121, 122, 48, 49, 50, 51, 52, 53, 54, 55, 56, 57]⟩
def arrB (F : Nat → Bool) : List V := (List.range 256).map fun k => V.b (F k)
theorem arrB_len (F : Nat → Bool) : (arrB F).length = 256 := by simp [arrB]
theorem arrB_ren (g : Nat → Nat) (F : Nat → Bool) : V.renL g (arrB F) = arrB F := by kernel_rfl
theorem arrB_set {F G : Nat → Bool} {i : Nat} (h : i < 256) (hx : G i = true) (hG : ∀ k, k ≠ i → G k = F k) : (arrB F).set i (V.b true) = arrB G := by
 refine List.ext_getElem (by simp [arrB]) fun k h1 h2 => ?_
 by_cases hk : k = i
 ·
  subst hk; simp [arrB, hx]
 ·
  rw [List.getElem_set_ne (Ne.symm hk)]; simp [arrB, hG k hk]
def setB (i : Nat) (c : Nat) : Bool := (List.range i).any fun j => strB lett j == (c : Int)
theorem setB_succ {i c : Nat} (h : strB lett i ≠ c) : setB (i + 1) c = setB i c := by
 unfold setB
 rw [List.range_succ, List.any_append]
 simp [h]
theorem setB_same {i c : Nat} (h : strB lett i = c) : setB (i + 1) c = true := by
 unfold setB
 rw [List.range_succ, List.any_append]
 simp [h]
theorem lett_lt : ∀ i : Nat, i < 36 → 0 ≤ strB lett i ∧ strB lett i < 128 := by decide +kernel
set_option maxRecDepth 100000 in
theorem mkSet_ac : AC Tryz.prog 189 [.c (.string lett)] (.tup [.agg (arrB (setB 36)), .b true]) [] := by
 refine acI hTT hMX Tryz.func189 Tryz.ntmps189 fun C hC hF => ?_
 refine aw_seq_k fun K hK => wR 2 ?_
 refine aops_n hTT (M := []) (n := 2) [pn 2 (V.ref 100002 0) (100002 : Nat) (Ob.box 302 (List.replicate 256 (V.b false))), pv 3 (V.b false)] (by kernel_rfl) (by kernel_rfl) True.intro ?_
 refine aops_nil (xt_n (hK _ ?_)); clear hK K; refine aw_seq_k fun K hK => ?_; refine aw_seq_k fun K hK => wR 3 ?_
 refine aops_n hTT (M := []) (n := 1) [pv 4 (V.i 0)] (by kernel_rfl) (by kernel_rfl) True.intro ?_
 refine aops_nil (xt_n (hK _ ?_)); clear hK K
 refine aw_block ?_
 refine w_loop (ι := Nat × List V) (fun x => [(0, .c (.string lett)), (2, .ref 2 0), (4, .i x.1)]) (fun x => [(2, .box 302 x.2)]) (fun x => x.1 ≤ 36 ∧ x.2 = arrB (setB x.1)) (fun x => 36 - x.1) (0, arrB (setB 0)) ⟨by simp, rfl⟩ ?_ ?_
 ·
  show Le _ ⟨mkT [(0, .c (.string lett)), (2, .ref 2 0), (4, .i 0)], mkS [(2, .box 302 (arrB fun _ => false))], 1⟩
  refine le_ren (sl := [(2, Ob.box 302 (List.replicate 256 (V.b false)))]) [(2, 100002)] (.cons (by kernel_rfl) (.cons (by kernel_rfl) (.cons (by kernel_rfl) .nil))) (.cons ⟨Ob.box 302 (List.replicate 256 (V.b false)), (by kernel_rfl), .box (by kernel_rfl)⟩ .nil) (by kernel_rfl) (by kernel_rfl)
 rintro ⟨k, cs⟩ ⟨hk, hcs⟩
 simp only at hk hcs ⊢
 have hlen : cs.length = 256 := by rw [hcs, arrB_len]
 have hs36 : lett.size = 36 := rfl
 refine aw_seq_k fun K hK => ?_; refine aw_seq_k fun K hK => wR 2 ?_
 refine aops_n hTT (M := []) (n := 4) [pv 6 (V.i (↑k : Int)), pv 7 (V.c (Value.string lett)), pv 8 (V.i 36), pv 9 (V.b (decide ((↑k : Int) < (36 : Int))))] (by kernel_rfl) (by kernel_rfl) True.intro ?_
 refine aops_nil (xt_n (hK _ ?_)); clear hK K
 refine w_cond (t := decide ((↑k : Int) < (36 : Int))) (by kernel_rfl) (fun c2 => ?_) (fun c2 => ?_)
 ·
  simp at c2
  have hb := lett_lt k (by omega)
  obtain ⟨x, hx⟩ : ∃ x : Nat, strB lett k = x := ⟨(strB lett k).toNat, by omega⟩
  refine aw_skip ?_
  refine xt_n (hK _ ?_); clear hK K; refine aw_seq_k fun K hK => ?_
  refine aw_block ?_
  refine aw_seq_k fun K hK => wR 3 ?_
  refine aops_n hTT (M := []) (n := 4) [pv 12 (V.c (Value.string lett)), pv 13 (V.i (↑k : Int)), pc 14 ((0 : Int) ≤ (↑k : Int) ∧ (↑k : Int) < (↑(ByteArray.size lett) : Int)) (V.c (Value.int IntKind.u8 (strB lett k))), pv 5 (V.c (Value.int IntKind.u8 (strB lett k)))] (by kernel_rfl) (by kernel_rfl) ⟨(by omega), True.intro⟩ ?_
  refine aops_nil (xt_n (hK _ ?_)); clear hK K; refine aw_seq_k fun K hK => ?_; refine aw_seq_k fun K hK => wR 4 ?_
  refine aops_n hTT (M := []) (n := 2) [pv 15 (V.c (Value.int IntKind.u8 (strB lett k))), pv 16 (V.b (decide ((128 : Int) ≤ strB lett k)))] (by kernel_rfl) (by kernel_rfl) True.intro ?_
  refine aops_nil (xt_n (hK _ ?_)); clear hK K
  refine w_cond (t := decide ((128 : Int) ≤ strB lett k)) (by kernel_rfl) (fun c3 => ?_) (fun c3 => ?_)
  ·
   simp at c3
   omega
  rw [hx]
  have hset : cs.set x (V.b true) = arrB (setB (k + 1)) := by
   rw [hcs]
   exact arrB_set (by omega) (setB_same hx) fun j hj => setB_succ (by omega)
  refine aw_skip ?_
  refine xt_n (hK _ ?_); clear hK K; refine wR 5 ?_
  refine aops_n hTT (M := []) (n := 3) [pv 18 (V.c (Value.int IntKind.u8 (↑x : Int))), pc 19 ((0 : Int) ≤ (↑x : Int) ∧ (↑x : Int) < (↑(256 : Nat) : Int)) (V.ref 2 ((0 : Nat) + x * (1 : Nat))), pw ((0 : Nat) + x * (1 : Nat) + (1 : Nat) ≤ List.length cs) (2 : Nat) (Ob.box 302 (setCells cs ((0 : Nat) + x * (1 : Nat)) [V.c (Value.bool true)]))] (by kernel_rfl) (by kernel_rfl) ⟨(by omega), (by omega), True.intro⟩ ?_
  refine aops_nil ?_; refine xb_n ?_; refine xt_n (hK _ ?_); clear hK K; refine wR 6 ?_
  refine aops_n hTT (M := []) (n := 3) [pv 10 (V.i (↑k : Int)), pc 11 ((-9223372036854775808 : Int) ≤ (↑k : Int) + (1 : Int) ∧ (↑k : Int) + (1 : Int) ≤ (9223372036854775807 : Int)) (V.i ((↑k : Int) + (1 : Int))), pv 4 (V.i ((↑k : Int) + (1 : Int)))] (by kernel_rfl) (by kernel_rfl) ⟨(by omega), True.intro⟩ ?_
  refine aops_nil ?_; refine xt_n ?_
  refine ⟨(k + 1, cs.set x (V.b true)), ⟨by simp only; omega, hset⟩, ?_, by simp only; omega⟩
  show Le _ ⟨mkT [(0, .c (.string lett)), (2, .ref 2 0), (4, .i ((k + 1 : Nat) : Int))], mkS [(2, .box 302 (cs.set x (V.b true)))], 1⟩
  refine le_ren (tl := [(0, V.c (Value.string lett)), (2, V.ref 2 0), (4, V.i (↑(k + (1 : Nat)) : Int))]) (sl := [(2, Ob.box 302 (List.set cs x (V.b true)))]) [(2, 2)] (.cons (by kernel_rfl) (.cons (by kernel_rfl) (.cons (by kernel_rfl) .nil))) (.cons ⟨Ob.box 302 (setCells cs ((0 : Nat) + x * (1 : Nat)) [V.c (Value.bool true)]), (by kernel_rfl), .box ?_⟩ .nil) (by kernel_rfl) (by kernel_rfl)
  rw [hset, arrB_ren, ← hset, Nat.zero_add, Nat.mul_one]
  rfl
 ·
  simp at c2
  obtain rfl : k = 36 := by omega
  rw [hcs]
  refine aw_exit ?_
  refine xt_x ?_; refine xt_x ?_
  refine xb_same ?_
  refine xt_n ?_; clear hK K; refine hK _ ?_; clear hK K; refine aw_seq_k fun K hK => wR 3 ?_
  refine aops_n hTT (M := []) (n := 3) [pc 20 ((0 : Nat) ≤ (256 : Nat)) (V.agg (arrB (setB 36))), pw ((0 : Nat) + (256 : Nat) ≤ (256 : Nat)) (2 : Nat) (Ob.box 302 (arrB (setB 36))), pv 3 (V.b true)] (by kernel_rfl) (by kernel_rfl) ⟨(by omega), (by omega), True.intro⟩ ?_
  refine aops_nil (xt_n (hK _ ?_)); clear hK K
  refine aw_ret ?_
  refine rP (V.tup [V.agg (arrB (setB 36)), V.b true])
set_option maxRecDepth 100000 in
theorem cont_ac : AC Tryz.prog 199 [.ptr (arrB (setB 36)), .c (.int .u8 97)] (.b true) [] := by
 refine acI hTT hMX Tryz.func199 Tryz.ntmps199 fun C hC hF => ?_
 refine aw_seq_k fun K hK => wR 2 ?_; refine aX hTT 1 [] True.intro ?_; refine aops_nil (xt_n (hK _ ?_)); clear hK K; refine aw_seq_k fun K hK => wR 3 ?_; refine aX hTT 6 [(3, .c ((0 : Int) ≤ (97 : Int) ∧ (97 : Int) < (↑(256 : Nat) : Int)))] ⟨(by omega), True.intro⟩ ?_; refine aops_nil (xt_n (hK _ ?_)); clear hK K
 refine aw_ret ?_
 refine rP (V.b (setB (36 : Nat) 97))
set_option maxRecDepth 100000 in
theorem trimR_ac : AC Tryz.prog 191 [.c (.string nA), .ptr (arrB (setB 36))] (.c (.string ⟨#[]⟩)) [] := by
 refine acI hTT hMX Tryz.func191 Tryz.ntmps191 fun C hC hF => ?_
 refine aw_seq_k fun K hK => wR 2 ?_; refine aX hTT 1 [] True.intro ?_; refine aops_nil (xt_n (hK _ ?_)); clear hK K; refine aw_seq_k fun K hK => ?_
 refine aw_block ?_
 refine aw_rounds 3 ?_
 refine awr_succ (m := 2) fun K hK => ?_
 refine aw_seq_k fun K hK => ?_; refine aw_seq_k fun K hK => wR 3 ?_; refine aX hTT 3 [] True.intro ?_; refine aops_nil (xt_n (hK _ ?_)); clear hK K; refine w_true (t := true) (by kernel_rfl) rfl ?_
 refine aw_skip ?_
 refine xt_n (hK _ ?_); clear hK K
 refine aw_block ?_
 refine aw_seq_k fun K hK => ?_; refine aw_seq_k fun K hK => wR 4 ?_; refine aX hTT 6 [(4, .i ((1 : Int) - (1 : Int))), (5, .c ((0 : Int) ≤ (0 : Int) ∧ (0 : Int) < (↑(ByteArray.size nA) : Int)))] ⟨(by omega), ⟨(by omega), (by decide +kernel)⟩, True.intro⟩ ?_
 refine eC (cont_ac) ?_
 refine aX hTT 1 [] True.intro ?_; refine aops_nil (xt_n (hK _ ?_)); clear hK K; refine w_false (t := false) (by kernel_rfl) rfl ?_
 refine aw_skip ?_
 refine xt_n (hK _ ?_); clear hK K; refine wR 5 ?_; refine aX hTT 6 [(3, .i ((1 : Int) - (1 : Int))), (4, .c ((0 : Int) ≤ (0 : Int) ∧ (0 : Int) ≤ (0 : Int) ∧ (0 : Int) ≤ (↑(ByteArray.size nA) : Int)))] ⟨(by omega), ⟨(by omega), (by omega)⟩, True.intro⟩ ?_; refine aops_nil ?_; refine xb_n ?_; refine xt_n (hK _ ?_); clear hK K
 refine awr_succ (m := 1) fun K hK => ?_
 refine aw_seq_k fun K hK => ?_; refine aw_seq_k fun K hK => wR 6 ?_; refine aX hTT 3 [] True.intro ?_; refine aops_nil (xt_n (hK _ ?_)); clear hK K; refine w_false (t := false) (by kernel_rfl) rfl ?_
 refine aw_exit ?_
 refine xt_x ?_; refine xt_x ?_
 refine xb_same ?_
 refine xt_n ?_; clear hK K; clear hK K; refine hK _ ?_; clear hK K; refine aw_seq_k fun K hK => wR 7 ?_; refine aX hTT 2 [] True.intro ?_; refine aops_nil (xt_n (hK _ ?_)); clear hK K
 refine aw_ret ?_
 refine rP (V.c (Value.string (ByteArray.extract nA (0 : Nat) (0 : Nat))))
set_option maxRecDepth 100000 in
theorem trimL_ac : AC Tryz.prog 190 [.c (.string ⟨#[]⟩), .ptr (arrB (setB 36))] (.c (.string ⟨#[]⟩)) [] := by
 refine acI hTT hMX Tryz.func190 Tryz.ntmps190 fun C hC hF => ?_
 refine aw_seq_k fun K hK => wR 2 ?_; refine aX hTT 1 [] True.intro ?_; refine aops_nil (xt_n (hK _ ?_)); clear hK K; refine aw_seq_k fun K hK => ?_
 refine aw_block ?_
 refine aw_rounds 3 ?_
 refine awr_succ (m := 2) fun K hK => ?_
 refine aw_seq_k fun K hK => ?_; refine aw_seq_k fun K hK => wR 3 ?_; refine aX hTT 3 [] True.intro ?_; refine aops_nil (xt_n (hK _ ?_)); clear hK K; refine w_false (t := false) (by kernel_rfl) rfl ?_
 refine aw_exit ?_
 refine xt_x ?_; refine xt_x ?_
 refine xb_same ?_
 refine xt_n ?_; clear hK K; clear hK K; refine hK _ ?_; clear hK K; refine aw_seq_k fun K hK => wR 4 ?_; refine aX hTT 2 [] True.intro ?_; refine aops_nil (xt_n (hK _ ?_)); clear hK K
 refine aw_ret ?_
 refine rP (V.c (Value.string (ByteArray.mk #[])))
set_option maxRecDepth 100000 in
theorem Trim_ac : AC Tryz.prog 179 [.c (.string nA), .c (.string lett)] (.c (.string ⟨#[]⟩)) [] := by
 refine acI hTT hMX Tryz.func179 Tryz.ntmps179 fun C hC hF => ?_
 refine aw_seq_k fun K hK => wR 2 ?_; refine aX hTT 1 [] True.intro ?_; refine aops_nil (xt_n (hK _ ?_)); clear hK K; refine aw_seq_k fun K hK => ?_; refine aw_seq_k fun K hK => wR 3 ?_; refine aX hTT 6 [(3, .c (gA (false == false) True)), (4, .c (gD (false == false) True)), (5, .c (True ∧ (false = false → (false == false) = true)))] ⟨⟨⟨True.intro, True.intro⟩, (fun _ => True.intro)⟩, ⟨⟨(by (exact fun h => h)), ⟨True.intro, True.intro⟩⟩, (fun _ => True.intro)⟩, ⟨True.intro, (by (intro h; rw [h]; rfl))⟩, True.intro⟩ ?_; refine aops_nil (xt_n (hK _ ?_)); clear hK K; refine w_false (t := false) (by kernel_rfl) rfl ?_
 refine aw_skip ?_
 refine xt_n (hK _ ?_); clear hK K; refine aw_seq_k fun K hK => ?_; refine aw_seq_k fun K hK => wR 4 ?_; refine aX hTT 8 [(4, .c (gA (false == true) True)), (5, .c (gD (false == true) ((0 : Int) ≤ (0 : Int) ∧ (0 : Int) < (↑(ByteArray.size lett) : Int)))), (6, .c (gD (false == true) True)), (7, .c ((false = true → (false == true) = true) ∧ True))] ⟨⟨⟨True.intro, True.intro⟩, (fun _ => True.intro)⟩, ⟨⟨(by (exact fun h => h)), ⟨True.intro, True.intro⟩⟩, (by (intro h; simp at h; done))⟩, ⟨⟨(by (exact fun h => h)), ⟨True.intro, True.intro⟩⟩, (fun _ => True.intro)⟩, ⟨(by (exact fun h => h)), True.intro⟩, True.intro⟩ ?_; refine aops_nil (xt_n (hK _ ?_)); clear hK K; refine w_false (t := false) (by kernel_rfl) rfl ?_
 refine aw_skip ?_
 refine xt_n (hK _ ?_); clear hK K; refine aw_seq_k fun K hK => ?_; refine aw_seq_k fun K hK => wR 5 ?_; refine aX hTT 1 [] True.intro ?_
 refine eC (mkSet_ac) ?_
 refine aX hTT 6 [(3, .r (pn 5 (V.ref 400005 0) (400005 : Nat) (Ob.box 302 (List.replicate 256 (V.b false))))), (4, .r (pw ((0 : Nat) + (256 : Nat) ≤ (256 : Nat)) (400005 : Nat) (Ob.box 302 (arrB (setB 36)))))] ⟨(by omega), True.intro⟩ ?_; refine aops_nil (xt_n (hK _ ?_)); clear hK K; refine aw_seq_k fun K hK => wR 6 ?_; refine aX hTT 1 [] True.intro ?_; refine aops_nil (xt_n (hK _ ?_)); clear hK K; refine w_true (t := true) (by kernel_rfl) rfl ?_; refine aw_seq_k fun K hK => ?_
 refine w_le (le_freezeBox (t := (302 : Nat)) (cs := (arrB (setB 36))) 400005 (by kernel_rfl) (by kernel_rfl)) ?_
 refine wR 7 ?_; refine aX hTT 1 [] True.intro ?_
 refine eC (trimR_ac) ?_
 skip
 refine eC (trimL_ac) ?_
 refine aX hTT 1 [] True.intro ?_; refine aops_nil (xt_n (hK _ ?_)); clear hK K
 refine aw_ret ?_
 refine xt_r ?_
 refine rP (V.c (Value.string (ByteArray.mk #[])))
set_option maxRecDepth 100000 in
theorem tIsName_ac : AC Tryz.prog 166 [.c (.string nA)] (.b true) [] := by
 refine acI hTT hMX Tryz.func166 Tryz.ntmps166 fun C hC hF => ?_
 refine aw_seq_k fun K hK => wR 2 ?_; refine aX hTT 1 [] True.intro ?_; refine aops_nil (xt_n (hK _ ?_)); clear hK K; refine aw_seq_k fun K hK => wR 3 ?_; refine aX hTT 9 [(3, .c (gA (true == true) True)), (4, .c (gB (true == true) True)), (5, .c (gD (true == true) True)), (6, .c ((true = true → (true == true) = true) ∧ True)), (8, .c (gA (true == true) True))] ⟨⟨⟨True.intro, True.intro⟩, (fun _ => True.intro)⟩, ⟨⟨(by (exact fun h => h)), True.intro⟩, (fun _ => True.intro)⟩, ⟨⟨(by (exact fun h => h)), ⟨True.intro, True.intro⟩⟩, (fun _ => True.intro)⟩, ⟨(by (exact fun h => h)), True.intro⟩, ⟨⟨True.intro, True.intro⟩, (fun _ => True.intro)⟩, True.intro⟩ ?_
 refine eG 1 (g := true == true) (fun _ => Trim_ac) ?_
 refine aX hTT 3 [(0, .c (gD (true == true) True)), (1, .c ((true = true → (true == true) = true) ∧ True))] ⟨⟨⟨(by (exact fun h => h)), ⟨True.intro, True.intro⟩⟩, (fun _ => True.intro)⟩, ⟨(by (exact fun h => h)), True.intro⟩, True.intro⟩ ?_; refine aops_nil (xt_n (hK _ ?_)); clear hK K
 refine aw_ret ?_
 refine rP (V.b true)
def datV : V := .sl 2 2 fun i => List.take 2 (List.drop (i * 2) [.i 10, .i (-10), .i 5, .i 0])
abbrev zzT20 : V := V.sl 2 2 fun (i : Nat) => List.take (2 : Nat) (List.drop (i * (2 : Nat)) [V.i 10, V.i (-10), V.i 5, V.i 0])
set_option maxRecDepth 100000 in
theorem checkTake_ac : AC Tryz.prog 138 [.agg [.c (.string nA), datV]] (.i 0) [] := by
 refine acI hTT hMX Tryz.func138 Tryz.ntmps138 fun C hC hF => ?_
 refine aw_seq_k fun K hK => wR 2 ?_; refine aX hTT 2 [] True.intro ?_; refine aops_nil (xt_n (hK _ ?_)); clear hK K; refine aw_seq_k fun K hK => wR 3 ?_; refine aX hTT 2 [] True.intro ?_
 refine eC (AC.conv (tCheckSamples_ac [(10, -10), (5, 0)] (by decide)) (args' := [zzT20]) ⟨?_, trivial⟩) ?_
 ·
  exact RImp.rows rfl fun i hi => by
   have hi : i < 2 := hi
   rcases (by omega : i = 0 ∨ i = 1) with rfl | rfl <;> rfl
 refine aX hTT 1 [] True.intro ?_; refine aops_nil (xt_n (hK _ ?_)); clear hK K; refine aw_seq_k fun K hK => ?_; refine aw_seq_k fun K hK => wR 4 ?_; refine aX hTT 5 [(3, .c (gA (true == true) True)), (4, .c (gB (true == true) True))] ⟨⟨⟨True.intro, True.intro⟩, (fun _ => True.intro)⟩, ⟨⟨(by (exact fun h => h)), True.intro⟩, (fun _ => True.intro)⟩, True.intro⟩ ?_
 refine eG 1 (g := true == true) (fun h => tIsName_ac) ?_
 refine aX hTT 8 [(0, .c (gB (true == true) True)), (1, .c (gB (true == true) True)), (2, .c (gA (true == true && false == false) True)), (3, .c (gB (true == true && false == false) True)), (4, .c (gB (true == true && false == false) True)), (5, .c (gD (true == true && false == false) True)), (6, .c (((true == true) = true → (true == true) = true) ∧ ((true == true) = true → True) ∧ ((true == true) = true → false = false → (true == true && false == false) = true))), (7, .c ((true = true → (true == true) = true) ∧ True))] ⟨⟨⟨(by (exact fun h => h)), True.intro⟩, (fun _ => True.intro)⟩, ⟨⟨(by (exact fun h => h)), True.intro⟩, (fun _ => True.intro)⟩, ⟨⟨True.intro, True.intro⟩, (fun _ => True.intro)⟩, ⟨⟨(by (exact fun h => h)), True.intro⟩, (fun _ => True.intro)⟩, ⟨⟨(by (exact fun h => h)), True.intro⟩, (fun _ => True.intro)⟩, ⟨⟨(by (exact fun h => h)), ⟨True.intro, True.intro⟩⟩, (fun _ => True.intro)⟩, ⟨(by (exact fun h => h)), ⟨(fun _ => True.intro), (by (intro _; simp; done))⟩⟩, ⟨(by (exact fun h => h)), True.intro⟩, True.intro⟩ ?_; refine aops_nil (xt_n (hK _ ?_)); clear hK K; refine w_false (t := false) (by kernel_rfl) rfl ?_
 refine aw_skip ?_
 refine xt_n (hK _ ?_); clear hK K; refine aw_seq_k fun K hK => wR 5 ?_; refine aX hTT 2 [] True.intro ?_; refine aops_nil (xt_n (hK _ ?_)); clear hK K
 refine aw_ret ?_
 refine rP (V.i (sChk [((10 : Int), (-10 : Int)), ((5 : Int), (0 : Int))]))
def tksV : V := .sl 2 1 fun _ => [.c (.string nA), datV]
set_option maxRecDepth 100000 in
theorem CheckTakes_ac : AC Tryz.prog 100 [tksV] (.i 0) [] := by
 refine acI hTT hMX Tryz.func100 Tryz.ntmps100 fun C hC hF => ?_
 refine aw_seq_k fun K hK => wR 2 ?_; refine aX hTT 1 [] True.intro ?_; refine aops_nil (xt_n (hK _ ?_)); clear hK K; refine aw_seq_k fun K hK => ?_; refine aw_seq_k fun K hK => wR 3 ?_; refine aX hTT 8 [(4, .c (gA (false == false) True)), (5, .c (gB (false == false) True)), (6, .c (gD (false == false) True)), (7, .c (True ∧ (false = false → (false == false) = true)))] ⟨⟨⟨True.intro, True.intro⟩, (fun _ => True.intro)⟩, ⟨⟨(by (exact fun h => h)), True.intro⟩, (fun _ => True.intro)⟩, ⟨⟨(by (exact fun h => h)), ⟨True.intro, True.intro⟩⟩, (fun _ => True.intro)⟩, ⟨True.intro, (by (intro h; rw [h]; rfl))⟩, True.intro⟩ ?_; refine aops_nil (xt_n (hK _ ?_)); clear hK K; refine w_false (t := false) (by kernel_rfl) rfl ?_
 refine aw_skip ?_
 refine xt_n (hK _ ?_); clear hK K; refine aw_seq_k fun K hK => wR 4 ?_; refine aX hTT 1 [] True.intro ?_; refine aops_nil (xt_n (hK _ ?_)); clear hK K; refine aw_seq_k fun K hK => wR 5 ?_; refine aX hTT 2 [(0, .r (pn 16 (V.own 400016) (400016 : Nat) (Ob.mp (true, (0 : Nat)) (MF.mk [] fun (x : MK) => none))))] True.intro ?_; refine aops_nil (xt_n (hK _ ?_)); clear hK K; refine aw_seq_k fun K hK => ?_; refine aw_seq_k fun K hK => wR 6 ?_; refine aX hTT 3 [] True.intro ?_; refine aops_nil (xt_n (hK _ ?_)); clear hK K
 refine aw_block ?_
 refine aw_rounds 3 ?_
 refine awr_succ (m := 2) fun K hK => ?_
 refine aw_seq_k fun K hK => wR 7 ?_; refine aX hTT 1 [] True.intro ?_; refine aops_nil (xt_n (hK _ ?_)); clear hK K; refine aw_seq_k fun K hK => ?_; refine w_true (t := true) (by kernel_rfl) rfl ?_
 refine aw_skip ?_
 refine xt_n (hK _ ?_); clear hK K; refine aw_seq_k fun K hK => ?_
 refine aw_block ?_
 refine aw_seq_k fun K hK => wR 8 ?_; refine aX hTT 4 [(0, .c ((0 : Int) ≤ (0 : Int) ∧ (0 : Int) < (↑(1 : Nat) : Int))), (2, .r (pn 6 (V.ref 700006 0) (700006 : Nat) (Ob.box 195 [V.c (Value.string (ByteArray.mk #[])), V.nil]))), (3, .r (pw ((0 : Nat) + (2 : Nat) ≤ (2 : Nat)) (700006 : Nat) (Ob.box 195 [V.c (Value.string nA), zzT20])))] ⟨(by omega), (by omega), True.intro⟩ ?_; refine aops_nil (xt_n (hK _ ?_)); clear hK K; refine aw_seq_k fun K hK => ?_; refine aw_seq_k fun K hK => wR 9 ?_; refine aX hTT 1 [(0, .c ((0 : Nat) ≤ (2 : Nat)))] ⟨(by omega), True.intro⟩ ?_
 refine eC (checkTake_ac) ?_
 refine aX hTT 1 [] True.intro ?_; refine aops_nil (xt_n (hK _ ?_)); clear hK K
 refine aw_block ?_
 refine aw_seq_k fun K hK => wR 10 ?_; refine aX hTT 3 [] True.intro ?_; refine aops_nil (xt_n (hK _ ?_)); clear hK K; refine w_false (t := false) (by kernel_rfl) rfl ?_; refine aw_seq_k fun K hK => wR 11 ?_; refine aX hTT 3 [] True.intro ?_; refine aops_nil (xt_n (hK _ ?_)); clear hK K; refine w_false (t := false) (by kernel_rfl) rfl ?_
 refine aw_skip ?_
 refine xb_n ?_; refine xt_n (hK _ ?_); clear hK K; refine wR 12 ?_; refine aX hTT 6 [(2, .c ((0 : Nat) ≤ (2 : Nat))), (3, .c (mget (MF.mk [] fun (x : MK) => none) (MK.s nA) (V.c (Value.int IntKind.i64 0)) = V.c (Value.int IntKind.i64 (mgetI (MF.mk [] fun (x : MK) => none) (MK.s nA))))), (4, .i ((0 : Int) + (1 : Int))), (5, .r (PR.mk none none V.any [((400016 : Nat), some (Ob.mp (true, (1 : Nat)) (MF.mk [(MK.s nA, V.i 1)] (MF.rest (MF.mk [] fun (x : MK) => none)))))] false))] ⟨(by omega), ?_, (by omega), True.intro⟩ ?_
 ·
  rfl
 refine aops_nil ?_; refine xb_n ?_; refine xt_n (hK _ ?_); clear hK K; refine wR 13 ?_; refine aX hTT 2 [(0, .i ((0 : Int) + (1 : Int)))] ⟨(by omega), True.intro⟩ ?_; refine aops_nil (xt_n (hK _ ?_)); clear hK K
 refine awr_succ (m := 1) fun K hK => ?_
 refine aw_seq_k fun K hK => wR 14 ?_; refine aX hTT 1 [] True.intro ?_; refine aops_nil (xt_n (hK _ ?_)); clear hK K; refine aw_seq_k fun K hK => ?_; refine w_false (t := false) (by kernel_rfl) rfl ?_
 refine aw_exit ?_
 refine xt_x ?_; refine xt_x ?_
 refine xb_same ?_
 refine xt_n ?_; clear hK K; clear hK K; refine hK _ ?_; clear hK K; refine aw_seq_k fun K hK => ?_; refine aw_seq_k fun K hK => wR 15 ?_; refine aX hTT 9 [(3, .c (gA (true == true) True)), (4, .c (gB (true == true) True)), (5, .c (gA (true == true) True)), (6, .c (gB (true == true) True)), (7, .c (gC (true == true) True)), (8, .c ((true = true → (true == true) = true) ∧ True))] ⟨⟨⟨True.intro, True.intro⟩, (fun _ => True.intro)⟩, ⟨⟨(by (exact fun h => h)), True.intro⟩, (fun _ => True.intro)⟩, ⟨⟨True.intro, True.intro⟩, (fun _ => True.intro)⟩, ⟨⟨(by (exact fun h => h)), True.intro⟩, (fun _ => True.intro)⟩, ⟨⟨(by (exact fun h => h)), ⟨(by (exact fun h => h)), True.intro⟩⟩, (fun _ => True.intro)⟩, ⟨(by (exact fun h => h)), True.intro⟩, True.intro⟩ ?_; refine aops_nil (xt_n (hK _ ?_)); clear hK K; refine w_false (t := false) (by kernel_rfl) rfl ?_
 refine aw_skip ?_
 refine xt_n (hK _ ?_); clear hK K; refine aw_seq_k fun K hK => wR 16 ?_; refine aX hTT 2 [] True.intro ?_; refine aops_nil (xt_n (hK _ ?_)); clear hK K
 refine aw_ret ?_
 refine rP (V.i 0)
def ptC : List V := [.i 0, .i 0, .i 2, .i 0, .i 0, .i 0, .i 500]
def ptsV : V := .sl 7 1 fun _ => ptC
abbrev yyT20 := (betB (0 : Int) (-4096 : Int) (4096 : Int) && betB (0 : Int) (0 : Int) (1000 : Int) && betB (0 : Int) (0 : Int) (1000 : Int) && betB (500 : Int) (0 : Int) (4000 : Int))
abbrev yyT22 := (betB (0 : Int) (-4096 : Int) (4096 : Int) && betB (0 : Int) (0 : Int) (1000 : Int) && betB (0 : Int) (0 : Int) (1000 : Int))
abbrev yyT21 := (yyT22 == true)
abbrev yyT24 := (betB (0 : Int) (-4096 : Int) (4096 : Int) && betB (0 : Int) (0 : Int) (1000 : Int))
abbrev yyT23 := (yyT24 == true)
set_option maxRecDepth 100000 in
theorem good_ac : AM Tryz.prog 101 [.ref 500 0, .agg ptC] [.box 122 [tksV, .nil, .i 0]] (.b true) [some (.box 122 [tksV, .nil, .i 0])] [] := by
 refine am_intro hTT hMX (fn := Tryz.f101) (N := _) ⟨Tryz.func101, rfl, Tryz.ntmps101, by kernel_rfl⟩ (by simp) rfl (by simp) (by simp) fun C hF => ?_
 refine aw_seq_k fun K hK => wR 2 ?_; refine aX hTT 2 [] True.intro ?_; refine aops_nil (xt_n (hK _ ?_)); clear hK K; refine aw_seq_k fun K hK => ?_; refine aw_seq_k fun K hK => wD 3 ?_; refine aX hTT 40 ((4, .c (gA (false == false) True)) :: (5, .c (gB (false == false) True)) :: (6, .c (gA (false == false) True)) :: (7, .c (gB (false == false) True)) :: (8, .c (gB (false == false) True)) :: (9, .c (gB (false == false) ((0 : Nat) ≤ (3 : Nat)))) :: (10, .c (gB (false == false) True)) :: (11, .c (gC (false == false) True)) :: (12, .c (True ∧ (false = false → (false == false) = true))) :: (14, .c (gA (false == false) True)) :: (15, .c (gB (false == false) True)) :: (16, .c (gD (false == false) True)) :: (17, .c (True ∧ (false = false → (false == false) = true))) :: (19, .c (gA (false == false) True)) :: (20, .c (gB (false == false) True)) :: (21, .c (gA (false == false) True)) :: (22, .c (gB (false == false) True)) :: (23, .c (gC (false == false) True)) :: (24, .c (True ∧ (false = false → (false == false) = true))) :: (26, .c (gA (false == false) True)) :: (27, .c (gB (false == false) True)) :: (28, .c (gA (false == false) True)) :: (29, .c (gB (false == false) True)) :: (30, .c (gB (false == false) True)) :: (31, .c (gB (false == false) ((0 : Nat) ≤ (3 : Nat)))) :: (32, .c (gA (false == false) True)) :: (33, .c (gB (false == false) True)) :: (34, .c (gC (false == false) ((0 : Int) ≤ (0 : Int) ∧ (0 : Int) < (↑(1 : Nat) : Int)))) :: (35, .c (gB (false == false) True)) :: (36, .c (gB (false == false) True)) :: (37, .c (gB (false == false) True)) :: (38, .c (gC (false == false) True)) :: (39, .c (True ∧ (false = false → (false == false) = true))) :: []) ⟨⟨⟨True.intro, True.intro⟩, (fun _ => True.intro)⟩, ⟨⟨(by (exact fun h => h)), True.intro⟩, (fun _ => True.intro)⟩, ⟨⟨True.intro, True.intro⟩, (fun _ => True.intro)⟩, ⟨⟨(by (exact fun h => h)), True.intro⟩, (fun _ => True.intro)⟩, ⟨⟨(by (exact fun h => h)), True.intro⟩, (fun _ => True.intro)⟩, ⟨⟨(by (exact fun h => h)), True.intro⟩, (by (intro _; simp; done))⟩, ⟨⟨(by (exact fun h => h)), True.intro⟩, (fun _ => True.intro)⟩, ⟨⟨(by (exact fun h => h)), ⟨(by (exact fun h => h)), True.intro⟩⟩, (fun _ => True.intro)⟩, ⟨True.intro, (by (intro h; rw [h]; rfl))⟩, ⟨⟨True.intro, True.intro⟩, (fun _ => True.intro)⟩, ⟨⟨(by (exact fun h => h)), True.intro⟩, (fun _ => True.intro)⟩, ⟨⟨(by (exact fun h => h)), ⟨True.intro, True.intro⟩⟩, (fun _ => True.intro)⟩, ⟨True.intro, (by (intro h; rw [h]; rfl))⟩, ⟨⟨True.intro, True.intro⟩, (fun _ => True.intro)⟩, ⟨⟨(by (exact fun h => h)), True.intro⟩, (fun _ => True.intro)⟩, ⟨⟨True.intro, True.intro⟩, (fun _ => True.intro)⟩, ⟨⟨(by (exact fun h => h)), True.intro⟩, (fun _ => True.intro)⟩, ⟨⟨(by (exact fun h => h)), ⟨(by (exact fun h => h)), True.intro⟩⟩, (fun _ => True.intro)⟩, ⟨True.intro, (by (intro h; rw [h]; rfl))⟩, ⟨⟨True.intro, True.intro⟩, (fun _ => True.intro)⟩, ⟨⟨(by (exact fun h => h)), True.intro⟩, (fun _ => True.intro)⟩, ⟨⟨True.intro, True.intro⟩, (fun _ => True.intro)⟩, ⟨⟨(by (exact fun h => h)), True.intro⟩, (fun _ => True.intro)⟩, ⟨⟨(by (exact fun h => h)), True.intro⟩, (fun _ => True.intro)⟩, ⟨⟨(by (exact fun h => h)), True.intro⟩, (by (intro _; simp; done))⟩, ⟨⟨True.intro, True.intro⟩, (fun _ => True.intro)⟩, ⟨⟨(by (exact fun h => h)), True.intro⟩, (fun _ => True.intro)⟩, ⟨⟨(by (exact fun h => h)), ⟨(by (exact fun h => h)), True.intro⟩⟩, (by (intro _; simp; done))⟩, ⟨⟨(by (exact fun h => h)), True.intro⟩, (fun _ => True.intro)⟩, ⟨⟨(by (exact fun h => h)), True.intro⟩, (fun _ => True.intro)⟩, ⟨⟨(by (exact fun h => h)), True.intro⟩, (fun _ => True.intro)⟩, ⟨⟨(by (exact fun h => h)), ⟨(by (exact fun h => h)), True.intro⟩⟩, (fun _ => True.intro)⟩, ⟨True.intro, (by (intro h; rw [h]; rfl))⟩, True.intro⟩ ?_; refine aops_nil ⟨by kernel_rfl, ?_⟩; refine xt_n (hK _ ?_); clear hK K; refine w_false (t := false) (by kernel_rfl) rfl ?_
 refine aw_skip ?_
 refine xt_n (hK _ ?_); clear hK K; refine aw_seq_k fun K hK => wR 4 ?_; refine aX hTT 2 [] True.intro ?_
 refine eC (tBetween_ac 0 (-4096) 4096) ?_
 refine aX hTT 3 [(1, .c (gA (betB (0 : Int) (-4096 : Int) (4096 : Int) == true) True)), (2, .c (gB (betB (0 : Int) (-4096 : Int) (4096 : Int) == true) True))] ⟨⟨⟨True.intro, True.intro⟩, (fun _ => True.intro)⟩, ⟨⟨(by (exact fun h => h)), True.intro⟩, (fun _ => True.intro)⟩, True.intro⟩ ?_
 refine eG 1 (g := betB (0 : Int) (-4096 : Int) (4096 : Int) == true) (fun h => tBetween_ac 0 0 1000) ?_
 refine aX hTT 4 [(0, .c ((betB (0 : Int) (-4096 : Int) (4096 : Int) = true → (betB (0 : Int) (-4096 : Int) (4096 : Int) == true) = true) ∧ True)), (2, .c (gA yyT23 True)), (3, .c (gB yyT23 True))] ⟨⟨(by (exact fun h => h)), True.intro⟩, ⟨⟨True.intro, True.intro⟩, (fun _ => True.intro)⟩, ⟨⟨(by (exact fun h => h)), True.intro⟩, (fun _ => True.intro)⟩, True.intro⟩ ?_
 refine eG 1 (g := yyT24 == true) (fun h => tBetween_ac 0 0 1000) ?_
 refine aX hTT 4 [(0, .c ((yyT24 = true → yyT23 = true) ∧ True)), (2, .c (gA yyT21 True)), (3, .c (gB yyT21 True))] ⟨⟨(by (exact fun h => h)), True.intro⟩, ⟨⟨True.intro, True.intro⟩, (fun _ => True.intro)⟩, ⟨⟨(by (exact fun h => h)), True.intro⟩, (fun _ => True.intro)⟩, True.intro⟩ ?_
 refine eG 1 (g := yyT22 == true) (fun h => tBetween_ac 500 0 4000) ?_
 refine aX hTT 2 [(0, .c ((yyT22 = true → yyT21 = true) ∧ True))] ⟨⟨(by (exact fun h => h)), True.intro⟩, True.intro⟩ ?_; refine aops_nil (xt_n (hK _ ?_)); clear hK K
 refine aw_ret ?_
 refine retM (v' := V.b yyT20) [] [(4, V.b yyT20)] (.inr rfl) (.cons (by kernel_rfl) .nil) (.cons ⟨Ob.box 122 [V.sl 2 1 fun (x : Nat) => [V.c (Value.string nA), datV], V.nil, V.i 0], (by kernel_rfl), .box (by kernel_rfl)⟩ .nil) (by kernel_rfl) (by kernel_rfl) (by kernel_rfl) (by kernel_rfl) (by kernel_rfl) (by kernel_rfl) (by kernel_rfl)
end Go.Proofs.YtplnhbenmgclfaaGreatDoor
