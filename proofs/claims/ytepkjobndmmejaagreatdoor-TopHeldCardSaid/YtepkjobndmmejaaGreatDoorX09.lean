/-
  Several texts in one: Loops whose number of rounds is a numeral, walked round by round. No condition. .. A call that panics, and a deferred closure that recovers, for values without addresses. No condition but those that a contract names.
-/
import Derived.LoopNIn
import Derived.RecoverIn
import Derived.Test.YtepkjobndmmejaaGreatDoorMB
import Derived.Test.YtepkjobndmmejaaGreatDoorMD
import Derived.Test.YtepkjobndmmejaaGreatDoorX00
import Derived.Test.YtepkjobndmmejaaGreatDoorAbs42
import Derived.Test.YtepkjobndmmejaaGreatDoorX01
import Derived.Test.YtepkjobndmmejaaGreatDoorMC
import Derived.Test.YtepkjobndmmejaaGreatDoorX02
import Derived.Test.YtepkjobndmmejaaGreatDoorX08
namespace Go.Ab
open Go.RowKit Go.Dw
def AWR {P : Program} {N : Nat} (C : Cx P N) (c : Code) (Q : Exit → S → Prop) : Nat → S → Prop
  | 0, _ => False
  | m + 1, s => AW C c (XThen (AWR C c Q m) Q) s
section
variable {P : Program} {N : Nat} {C : Cx P N} {Q : Exit → S → Prop} {s : S} {c : Code}
theorem awr_succ {m : Nat} (h : ∀ K : S → Prop, (∀ s', AWR C c Q m s' → K s') → AW C c (XThen K Q) s) : AWR C c Q (m + 1) s := h _ fun _ h => h
theorem aw_rounds (m : Nat) (h : AWR C c Q m s) : AW C (.loop c) Q s := by
  intro a w g
  refine wpIn_loop_rounds m ?_
  have key : ∀ m s a w0 w, Tch C.W w0 w → AWR C c Q m s → Gm C s a w → Code.roundsIn C.F 0 P c (fun e a' w' => ∃ s', Q e s' ∧ Gm C s' a' w' ∧ Tch C.W w0 w') m a w := by
    intro m
    induction m with
    | zero => intro s a w0 w _ h; exact h.elim
    | succ m ih =>
      intro s a w0 w t0 h g
      refine wpIn_mono (h a w g) ?_
      rintro e a' w' ⟨s', q, g', t⟩
      cases e with
      | normal => exact ih s' a' w0 w' (t0.trans t) q g'
      | _ => exact ⟨s', q, g', t0.trans t⟩
  exact key m s a w w (Tch.refl _ _) h g
end
end Go.Ab

namespace Go.Ab
open Go.RowKit Go.Dw
section
variable {P : Program} {N : Nat} {C : Cx P N} {ops : Array Oper} {nx : Nat} {o : Oper} {os : List Oper} {tm : Nat → V} {σ : Nat → Option Ob} {ks : List (List Nat × List Nat)} {K : (Nat → V) → (Nat → Option Ob) → List (List Nat × List Nat) → Prop}
theorem aops_gfb {t : Nat} (hg : guardV (ops.toList.map (·.dst)) tm o = some (some false)) (ht : o.dst = some t) (hk : AOps C ops nx os (upd tm t (.gd false (.b false))) σ (ks ++ [([], [])]) K) : AOps C ops nx (o :: os) tm σ ks K := by
  have hw := guardV_spec hg
  have e : updO tm o.dst (.gd false (.b false)) = upd tm t (.gd false (.b false)) := by rw [ht]; rfl
  refine ⟨⟨false, .gd false (.b false), [], [], []⟩, ⟨hw, by simp, fun _ => ⟨fun _ _ _ => .gd _ _ _ _ (fun e => by cases e) fun _ => rfl, rfl, rfl⟩⟩, ?_⟩
  rw [e]; exact hk
end
end Go.Ab

namespace Go.Proofs.YtepkjobndmmejaaGreatDoor
open Go.Ab Go.RowKit Go.Dw Go.Shelf
def nA : ByteArray := ⟨#[97]⟩
def lett : ByteArray := ⟨#[97, 98, 99, 100, 101, 102, 103, 104, 105, 106, 107, 108, 109, 110, 111, 112, 113, 114, 115, 116, 117, 118, 119, 120, 121, 122, 48, 49, 50, 51, 52, 53, 54, 55, 56, 57]⟩
def arrB (F : Nat → Bool) : List V := (List.range 256).map fun k => V.b (F k)
theorem arrB_len (F : Nat → Bool) : (arrB F).length = 256 := by simp [arrB]
theorem arrB_ren (g : Nat → Nat) (F : Nat → Bool) : V.renL g (arrB F) = arrB F := by kernel_rfl
theorem arrB_set {F G : Nat → Bool} {i : Nat} (h : i < 256) (hx : G i = true) (hG : ∀ k, k ≠ i → G k = F k) : (arrB F).set i (V.b true) = arrB G := by
 refine List.ext_getElem (by simp [arrB]) fun k h1 h2 => ?_
 by_cases hk : k = i
 ·
  subst hk; simp [arrB, hx]
 ·
  rw [List.getElem_set_ne (Ne.symm hk)]; simp [arrB, hG k hk]
def setB (i : Nat) (c : Nat) : Bool := (List.range i).any fun j => strB lett j == (c : Int)
theorem setB_succ {i c : Nat} (h : strB lett i ≠ c) : setB (i + 1) c = setB i c := by
 unfold setB
 rw [List.range_succ, List.any_append]
 simp [h]
theorem setB_same {i c : Nat} (h : strB lett i = c) : setB (i + 1) c = true := by
 unfold setB
 rw [List.range_succ, List.any_append]
 simp [h]
theorem lett_lt : ∀ i : Nat, i < 36 → 0 ≤ strB lett i ∧ strB lett i < 128 := by decide +kernel
set_option maxRecDepth 100000 in
theorem mkSet_ac : AC Tryz.prog 164 [.c (.string lett)] (.tup [.agg (arrB (setB 36)), .b true]) [] := by
 refine acI hTT hMX Tryz.func164 Tryz.ntmps164 fun C hC hF => ?_
 refine aw_seq_k fun K hK => wR 2 ?_
 refine aops_n hTT (M := []) (n := 2) [pn 2 (V.ref 100002 0) (100002 : Nat) (Ob.box 243 (List.replicate 256 (V.b false))), pv 3 (V.b false)] (by kernel_rfl) (by kernel_rfl) True.intro ?_
 refine aops_nil (xt_n (hK _ ?_)); clear hK K; refine aw_seq_k fun K hK => ?_; refine aw_seq_k fun K hK => wR 3 ?_
 refine aops_n hTT (M := []) (n := 1) [pv 4 (V.i 0)] (by kernel_rfl) (by kernel_rfl) True.intro ?_
 refine aops_nil (xt_n (hK _ ?_)); clear hK K
 refine aw_block ?_
 refine w_loop (ι := Nat × List V) (fun x => [(0, .c (.string lett)), (2, .ref 2 0), (4, .i x.1)]) (fun x => [(2, .box 243 x.2)]) (fun x => x.1 ≤ 36 ∧ x.2 = arrB (setB x.1)) (fun x => 36 - x.1) (0, arrB (setB 0)) ⟨by simp, rfl⟩ ?_ ?_
 ·
  show Le _ ⟨mkT [(0, .c (.string lett)), (2, .ref 2 0), (4, .i 0)], mkS [(2, .box 243 (arrB fun _ => false))], 1⟩
  refine le_ren (sl := [(2, Ob.box 243 (List.replicate 256 (V.b false)))]) [(2, 100002)] (.cons (by kernel_rfl) (.cons (by kernel_rfl) (.cons (by kernel_rfl) .nil))) (.cons ⟨Ob.box 243 (List.replicate 256 (V.b false)), (by kernel_rfl), .box (by kernel_rfl)⟩ .nil) (by kernel_rfl) (by kernel_rfl)
 rintro ⟨k, cs⟩ ⟨hk, hcs⟩
 simp only at hk hcs ⊢
 have hlen : cs.length = 256 := by rw [hcs, arrB_len]
 have hs36 : lett.size = 36 := rfl
 refine aw_seq_k fun K hK => ?_; refine aw_seq_k fun K hK => wR 2 ?_
 refine aops_n hTT (M := []) (n := 4) [pv 6 (V.i (↑k : Int)), pv 7 (V.c (Value.string lett)), pv 8 (V.i 36), pv 9 (V.b (decide ((↑k : Int) < (36 : Int))))] (by kernel_rfl) (by kernel_rfl) True.intro ?_
 refine aops_nil (xt_n (hK _ ?_)); clear hK K
 refine w_cond (t := decide ((↑k : Int) < (36 : Int))) (by kernel_rfl) (fun c2 => ?_) (fun c2 => ?_)
 ·
  simp at c2
  have hb := lett_lt k (by omega)
  obtain ⟨x, hx⟩ : ∃ x : Nat, strB lett k = x := ⟨(strB lett k).toNat, by omega⟩
  refine aw_skip ?_
  refine xt_n (hK _ ?_); clear hK K; refine aw_seq_k fun K hK => ?_
  refine aw_block ?_
  refine aw_seq_k fun K hK => wR 3 ?_
  refine aops_n hTT (M := []) (n := 4) [pv 12 (V.c (Value.string lett)), pv 13 (V.i (↑k : Int)), pc 14 ((0 : Int) ≤ (↑k : Int) ∧ (↑k : Int) < (↑(ByteArray.size lett) : Int)) (V.c (Value.int IntKind.u8 (strB lett k))), pv 5 (V.c (Value.int IntKind.u8 (strB lett k)))] (by kernel_rfl) (by kernel_rfl) ⟨(by omega), True.intro⟩ ?_
  refine aops_nil (xt_n (hK _ ?_)); clear hK K; refine aw_seq_k fun K hK => ?_; refine aw_seq_k fun K hK => wR 4 ?_
  refine aops_n hTT (M := []) (n := 2) [pv 15 (V.c (Value.int IntKind.u8 (strB lett k))), pv 16 (V.b (decide ((128 : Int) ≤ strB lett k)))] (by kernel_rfl) (by kernel_rfl) True.intro ?_
  refine aops_nil (xt_n (hK _ ?_)); clear hK K
  refine w_cond (t := decide ((128 : Int) ≤ strB lett k)) (by kernel_rfl) (fun c3 => ?_) (fun c3 => ?_)
  ·
   simp at c3
   omega
  rw [hx]
  have hset : cs.set x (V.b true) = arrB (setB (k + 1)) := by
   rw [hcs]
   exact arrB_set (by omega) (setB_same hx) fun j hj => setB_succ (by omega)
  refine aw_skip ?_
  refine xt_n (hK _ ?_); clear hK K; refine wR 5 ?_
  refine aops_n hTT (M := []) (n := 3) [pv 18 (V.c (Value.int IntKind.u8 (↑x : Int))), pc 19 ((0 : Int) ≤ (↑x : Int) ∧ (↑x : Int) < (↑(256 : Nat) : Int)) (V.ref 2 ((0 : Nat) + x * (1 : Nat))), pw ((0 : Nat) + x * (1 : Nat) + (1 : Nat) ≤ List.length cs) (2 : Nat) (Ob.box 243 (setCells cs ((0 : Nat) + x * (1 : Nat)) [V.c (Value.bool true)]))] (by kernel_rfl) (by kernel_rfl) ⟨(by omega), (by omega), True.intro⟩ ?_
  refine aops_nil ?_; refine xb_n ?_; refine xt_n (hK _ ?_); clear hK K; refine wR 6 ?_
  refine aops_n hTT (M := []) (n := 3) [pv 10 (V.i (↑k : Int)), pc 11 ((-9223372036854775808 : Int) ≤ (↑k : Int) + (1 : Int) ∧ (↑k : Int) + (1 : Int) ≤ (9223372036854775807 : Int)) (V.i ((↑k : Int) + (1 : Int))), pv 4 (V.i ((↑k : Int) + (1 : Int)))] (by kernel_rfl) (by kernel_rfl) ⟨(by omega), True.intro⟩ ?_
  refine aops_nil ?_; refine xt_n ?_
  refine ⟨(k + 1, cs.set x (V.b true)), ⟨by simp only; omega, hset⟩, ?_, by simp only; omega⟩
  show Le _ ⟨mkT [(0, .c (.string lett)), (2, .ref 2 0), (4, .i ((k + 1 : Nat) : Int))], mkS [(2, .box 243 (cs.set x (V.b true)))], 1⟩
  refine le_ren (tl := [(0, V.c (Value.string lett)), (2, V.ref 2 0), (4, V.i (↑(k + (1 : Nat)) : Int))]) (sl := [(2, Ob.box 243 (List.set cs x (V.b true)))]) [(2, 2)] (.cons (by kernel_rfl) (.cons (by kernel_rfl) (.cons (by kernel_rfl) .nil))) (.cons ⟨Ob.box 243 (setCells cs ((0 : Nat) + x * (1 : Nat)) [V.c (Value.bool true)]), (by kernel_rfl), .box ?_⟩ .nil) (by kernel_rfl) (by kernel_rfl)
  rw [hset, arrB_ren, ← hset, Nat.zero_add, Nat.mul_one]
  rfl
 ·
  simp at c2
  obtain rfl : k = 36 := by omega
  rw [hcs]
  refine aw_exit ?_
  refine xt_x ?_; refine xt_x ?_
  refine xb_same ?_
  refine xt_n ?_; clear hK K; refine hK _ ?_; clear hK K; refine aw_seq_k fun K hK => wR 3 ?_
  refine aops_n hTT (M := []) (n := 3) [pc 20 ((0 : Nat) ≤ (256 : Nat)) (V.agg (arrB (setB 36))), pw ((0 : Nat) + (256 : Nat) ≤ (256 : Nat)) (2 : Nat) (Ob.box 243 (arrB (setB 36))), pv 3 (V.b true)] (by kernel_rfl) (by kernel_rfl) ⟨(by omega), (by omega), True.intro⟩ ?_
  refine aops_nil (xt_n (hK _ ?_)); clear hK K
  refine aw_ret ?_
  refine rP (V.tup [V.agg (arrB (setB 36)), V.b true])
set_option maxRecDepth 100000 in
theorem cont_ac : AC Tryz.prog 188 [.ptr (arrB (setB 36)), .c (.int .u8 97)] (.b true) [] := by
 refine acI hTT hMX Tryz.func188 Tryz.ntmps188 fun C hC hF => ?_
 refine aw_seq_k fun K hK => wR 2 ?_; refine aX hTT 1 [] True.intro ?_; refine aops_nil (xt_n (hK _ ?_)); clear hK K; refine aw_seq_k fun K hK => wR 3 ?_; refine aX hTT 6 [(3, .c ((0 : Int) ≤ (97 : Int) ∧ (97 : Int) < (↑(256 : Nat) : Int)))] ⟨(by omega), True.intro⟩ ?_; refine aops_nil (xt_n (hK _ ?_)); clear hK K
 refine aw_ret ?_
 refine rP (V.b (setB (36 : Nat) 97))
set_option maxRecDepth 100000 in
theorem trimR_ac : AC Tryz.prog 166 [.c (.string nA), .ptr (arrB (setB 36))] (.c (.string ⟨#[]⟩)) [] := by
 refine acI hTT hMX Tryz.func166 Tryz.ntmps166 fun C hC hF => ?_
 refine aw_seq_k fun K hK => wR 2 ?_; refine aX hTT 1 [] True.intro ?_; refine aops_nil (xt_n (hK _ ?_)); clear hK K; refine aw_seq_k fun K hK => ?_
 refine aw_block ?_
 refine aw_rounds 3 ?_
 refine awr_succ (m := 2) fun K hK => ?_
 refine aw_seq_k fun K hK => ?_; refine aw_seq_k fun K hK => wR 3 ?_; refine aX hTT 3 [] True.intro ?_; refine aops_nil (xt_n (hK _ ?_)); clear hK K; refine w_true (t := true) (by kernel_rfl) rfl ?_
 refine aw_skip ?_
 refine xt_n (hK _ ?_); clear hK K
 refine aw_block ?_
 refine aw_seq_k fun K hK => ?_; refine aw_seq_k fun K hK => wR 4 ?_; refine aX hTT 6 [(4, .i ((1 : Int) - (1 : Int))), (5, .c ((0 : Int) ≤ (0 : Int) ∧ (0 : Int) < (↑(ByteArray.size nA) : Int)))] ⟨(by omega), ⟨(by omega), (by decide +kernel)⟩, True.intro⟩ ?_
 refine eC (cont_ac) ?_
 refine aX hTT 1 [] True.intro ?_; refine aops_nil (xt_n (hK _ ?_)); clear hK K; refine w_false (t := false) (by kernel_rfl) rfl ?_
 refine aw_skip ?_
 refine xt_n (hK _ ?_); clear hK K; refine wR 5 ?_; refine aX hTT 6 [(3, .i ((1 : Int) - (1 : Int))), (4, .c ((0 : Int) ≤ (0 : Int) ∧ (0 : Int) ≤ (0 : Int) ∧ (0 : Int) ≤ (↑(ByteArray.size nA) : Int)))] ⟨(by omega), ⟨(by omega), (by omega)⟩, True.intro⟩ ?_; refine aops_nil ?_; refine xb_n ?_; refine xt_n (hK _ ?_); clear hK K
 refine awr_succ (m := 1) fun K hK => ?_
 refine aw_seq_k fun K hK => ?_; refine aw_seq_k fun K hK => wR 6 ?_; refine aX hTT 3 [] True.intro ?_; refine aops_nil (xt_n (hK _ ?_)); clear hK K; refine w_false (t := false) (by kernel_rfl) rfl ?_
 refine aw_exit ?_
 refine xt_x ?_; refine xt_x ?_
 refine xb_same ?_
 refine xt_n ?_; clear hK K; clear hK K; refine hK _ ?_; clear hK K; refine aw_seq_k fun K hK => wR 7 ?_; refine aX hTT 2 [] True.intro ?_; refine aops_nil (xt_n (hK _ ?_)); clear hK K
 refine aw_ret ?_
 refine rP (V.c (Value.string (ByteArray.extract nA (0 : Nat) (0 : Nat))))
set_option maxRecDepth 100000 in
theorem trimL_ac : AC Tryz.prog 165 [.c (.string ⟨#[]⟩), .ptr (arrB (setB 36))] (.c (.string ⟨#[]⟩)) [] := by
 refine acI hTT hMX Tryz.func165 Tryz.ntmps165 fun C hC hF => ?_
 refine aw_seq_k fun K hK => wR 2 ?_; refine aX hTT 1 [] True.intro ?_; refine aops_nil (xt_n (hK _ ?_)); clear hK K; refine aw_seq_k fun K hK => ?_
 refine aw_block ?_
 refine aw_rounds 3 ?_
 refine awr_succ (m := 2) fun K hK => ?_
 refine aw_seq_k fun K hK => ?_; refine aw_seq_k fun K hK => wR 3 ?_; refine aX hTT 3 [] True.intro ?_; refine aops_nil (xt_n (hK _ ?_)); clear hK K; refine w_false (t := false) (by kernel_rfl) rfl ?_
 refine aw_exit ?_
 refine xt_x ?_; refine xt_x ?_
 refine xb_same ?_
 refine xt_n ?_; clear hK K; clear hK K; refine hK _ ?_; clear hK K; refine aw_seq_k fun K hK => wR 4 ?_; refine aX hTT 2 [] True.intro ?_; refine aops_nil (xt_n (hK _ ?_)); clear hK K
 refine aw_ret ?_
 refine rP (V.c (Value.string (ByteArray.mk #[])))
set_option maxRecDepth 100000 in
theorem Trim_ac : AC Tryz.prog 143 [.c (.string nA), .c (.string lett)] (.c (.string ⟨#[]⟩)) [] := by
 refine acI hTT hMX Tryz.func143 Tryz.ntmps143 fun C hC hF => ?_
 refine aw_seq_k fun K hK => wR 2 ?_; refine aX hTT 1 [] True.intro ?_; refine aops_nil (xt_n (hK _ ?_)); clear hK K; refine aw_seq_k fun K hK => ?_; refine aw_seq_k fun K hK => wR 3 ?_; refine aX hTT 6 [(3, .c (gA (false == false) True)), (4, .c (gD (false == false) True)), (5, .c (True ∧ (false = false → (false == false) = true)))] ⟨⟨⟨True.intro, True.intro⟩, (fun _ => True.intro)⟩, ⟨⟨(by (exact fun h => h)), ⟨True.intro, True.intro⟩⟩, (fun _ => True.intro)⟩, ⟨True.intro, (by (intro h; rw [h]; rfl))⟩, True.intro⟩ ?_; refine aops_nil (xt_n (hK _ ?_)); clear hK K; refine w_false (t := false) (by kernel_rfl) rfl ?_
 refine aw_skip ?_
 refine xt_n (hK _ ?_); clear hK K; refine aw_seq_k fun K hK => ?_; refine aw_seq_k fun K hK => wR 4 ?_; refine aX hTT 8 [(4, .c (gA (false == true) True)), (5, .c (gD (false == true) ((0 : Int) ≤ (0 : Int) ∧ (0 : Int) < (↑(ByteArray.size lett) : Int)))), (6, .c (gD (false == true) True)), (7, .c ((false = true → (false == true) = true) ∧ True))] ⟨⟨⟨True.intro, True.intro⟩, (fun _ => True.intro)⟩, ⟨⟨(by (exact fun h => h)), ⟨True.intro, True.intro⟩⟩, (by (intro h; simp at h; done))⟩, ⟨⟨(by (exact fun h => h)), ⟨True.intro, True.intro⟩⟩, (fun _ => True.intro)⟩, ⟨(by (exact fun h => h)), True.intro⟩, True.intro⟩ ?_; refine aops_nil (xt_n (hK _ ?_)); clear hK K; refine w_false (t := false) (by kernel_rfl) rfl ?_
 refine aw_skip ?_
 refine xt_n (hK _ ?_); clear hK K; refine aw_seq_k fun K hK => ?_; refine aw_seq_k fun K hK => wR 5 ?_; refine aX hTT 1 [] True.intro ?_
 refine eC (mkSet_ac) ?_
 refine aX hTT 6 [(3, .r (pn 5 (V.ref 400005 0) (400005 : Nat) (Ob.box 243 (List.replicate 256 (V.b false))))), (4, .r (pw ((0 : Nat) + (256 : Nat) ≤ (256 : Nat)) (400005 : Nat) (Ob.box 243 (arrB (setB 36)))))] ⟨(by omega), True.intro⟩ ?_; refine aops_nil (xt_n (hK _ ?_)); clear hK K; refine aw_seq_k fun K hK => wR 6 ?_; refine aX hTT 1 [] True.intro ?_; refine aops_nil (xt_n (hK _ ?_)); clear hK K; refine w_true (t := true) (by kernel_rfl) rfl ?_; refine aw_seq_k fun K hK => ?_
 refine w_le (le_freezeBox (t := (243 : Nat)) (cs := (arrB (setB 36))) 400005 (by kernel_rfl) (by kernel_rfl)) ?_
 refine wR 7 ?_; refine aX hTT 1 [] True.intro ?_
 refine eC (trimR_ac) ?_
 skip
 refine eC (trimL_ac) ?_
 refine aX hTT 1 [] True.intro ?_; refine aops_nil (xt_n (hK _ ?_)); clear hK K
 refine aw_ret ?_
 refine xt_r ?_
 refine rP (V.c (Value.string (ByteArray.mk #[])))
set_option maxRecDepth 100000 in
theorem tIsName_ac : AC Tryz.prog 126 [.c (.string nA)] (.b true) [] := by
 refine acI hTT hMX Tryz.func126 Tryz.ntmps126 fun C hC hF => ?_
 refine aw_seq_k fun K hK => wR 2 ?_; refine aX hTT 1 [] True.intro ?_; refine aops_nil (xt_n (hK _ ?_)); clear hK K; refine aw_seq_k fun K hK => wR 3 ?_; refine aX hTT 9 [(3, .c (gA (true == true) True)), (4, .c (gB (true == true) True)), (5, .c (gD (true == true) True)), (6, .c ((true = true → (true == true) = true) ∧ True)), (8, .c (gA (true == true) True))] ⟨⟨⟨True.intro, True.intro⟩, (fun _ => True.intro)⟩, ⟨⟨(by (exact fun h => h)), True.intro⟩, (fun _ => True.intro)⟩, ⟨⟨(by (exact fun h => h)), ⟨True.intro, True.intro⟩⟩, (fun _ => True.intro)⟩, ⟨(by (exact fun h => h)), True.intro⟩, ⟨⟨True.intro, True.intro⟩, (fun _ => True.intro)⟩, True.intro⟩ ?_
 refine eG 1 (g := true == true) (fun _ => Trim_ac) ?_
 refine aX hTT 3 [(0, .c (gD (true == true) True)), (1, .c ((true = true → (true == true) = true) ∧ True))] ⟨⟨⟨(by (exact fun h => h)), ⟨True.intro, True.intro⟩⟩, (fun _ => True.intro)⟩, ⟨(by (exact fun h => h)), True.intro⟩, True.intro⟩ ?_; refine aops_nil (xt_n (hK _ ?_)); clear hK K
 refine aw_ret ?_
 refine rP (V.b true)
def datV : V := .sl 2 2 fun i => List.take 2 (List.drop (i * 2) [.i 10, .i (-10), .i 5, .i 0])
abbrev zzT20 : V := V.sl 2 2 fun (i : Nat) => List.take (2 : Nat) (List.drop (i * (2 : Nat)) [V.i 10, V.i (-10), V.i 5, V.i 0])
set_option maxRecDepth 100000 in
theorem checkTake_ac : AC Tryz.prog 110 [.agg [.c (.string nA), datV]] (.i 0) [] := by
 refine acI hTT hMX Tryz.func110 Tryz.ntmps110 fun C hC hF => ?_
 refine aw_seq_k fun K hK => wR 2 ?_; refine aX hTT 2 [] True.intro ?_; refine aops_nil (xt_n (hK _ ?_)); clear hK K; refine aw_seq_k fun K hK => wR 3 ?_; refine aX hTT 2 [] True.intro ?_
 refine eC (AC.conv (tCheckSamples_ac [(10, -10), (5, 0)] (by decide)) (args' := [zzT20]) ⟨?_, trivial⟩) ?_
 ·
  exact RImp.rows rfl fun i hi => by
   have hi : i < 2 := hi
   rcases (by omega : i = 0 ∨ i = 1) with rfl | rfl <;> rfl
 refine aX hTT 1 [] True.intro ?_; refine aops_nil (xt_n (hK _ ?_)); clear hK K; refine aw_seq_k fun K hK => ?_; refine aw_seq_k fun K hK => wR 4 ?_; refine aX hTT 5 [(3, .c (gA (true == true) True)), (4, .c (gB (true == true) True))] ⟨⟨⟨True.intro, True.intro⟩, (fun _ => True.intro)⟩, ⟨⟨(by (exact fun h => h)), True.intro⟩, (fun _ => True.intro)⟩, True.intro⟩ ?_
 refine eG 1 (g := true == true) (fun h => tIsName_ac) ?_
 refine aX hTT 8 [(0, .c (gB (true == true) True)), (1, .c (gB (true == true) True)), (2, .c (gA (true == true && false == false) True)), (3, .c (gB (true == true && false == false) True)), (4, .c (gB (true == true && false == false) True)), (5, .c (gD (true == true && false == false) True)), (6, .c (((true == true) = true → (true == true) = true) ∧ ((true == true) = true → True) ∧ ((true == true) = true → false = false → (true == true && false == false) = true))), (7, .c ((true = true → (true == true) = true) ∧ True))] ⟨⟨⟨(by (exact fun h => h)), True.intro⟩, (fun _ => True.intro)⟩, ⟨⟨(by (exact fun h => h)), True.intro⟩, (fun _ => True.intro)⟩, ⟨⟨True.intro, True.intro⟩, (fun _ => True.intro)⟩, ⟨⟨(by (exact fun h => h)), True.intro⟩, (fun _ => True.intro)⟩, ⟨⟨(by (exact fun h => h)), True.intro⟩, (fun _ => True.intro)⟩, ⟨⟨(by (exact fun h => h)), ⟨True.intro, True.intro⟩⟩, (fun _ => True.intro)⟩, ⟨(by (exact fun h => h)), ⟨(fun _ => True.intro), (by (intro _; simp; done))⟩⟩, ⟨(by (exact fun h => h)), True.intro⟩, True.intro⟩ ?_; refine aops_nil (xt_n (hK _ ?_)); clear hK K; refine w_false (t := false) (by kernel_rfl) rfl ?_
 refine aw_skip ?_
 refine xt_n (hK _ ?_); clear hK K; refine aw_seq_k fun K hK => wR 5 ?_; refine aX hTT 2 [] True.intro ?_; refine aops_nil (xt_n (hK _ ?_)); clear hK K
 refine aw_ret ?_
 refine rP (V.i (sChk [((10 : Int), (-10 : Int)), ((5 : Int), (0 : Int))]))
def tksV : V := .sl 2 1 fun _ => [.c (.string nA), datV]
set_option maxRecDepth 100000 in
theorem CheckTakes_ac : AC Tryz.prog 85 [tksV] (.i 0) [] := by
 refine acI hTT hMX Tryz.func85 Tryz.ntmps85 fun C hC hF => ?_
 refine aw_seq_k fun K hK => wR 2 ?_; refine aX hTT 1 [] True.intro ?_; refine aops_nil (xt_n (hK _ ?_)); clear hK K; refine aw_seq_k fun K hK => ?_; refine aw_seq_k fun K hK => wR 3 ?_; refine aX hTT 8 [(4, .c (gA (false == false) True)), (5, .c (gB (false == false) True)), (6, .c (gD (false == false) True)), (7, .c (True ∧ (false = false → (false == false) = true)))] ⟨⟨⟨True.intro, True.intro⟩, (fun _ => True.intro)⟩, ⟨⟨(by (exact fun h => h)), True.intro⟩, (fun _ => True.intro)⟩, ⟨⟨(by (exact fun h => h)), ⟨True.intro, True.intro⟩⟩, (fun _ => True.intro)⟩, ⟨True.intro, (by (intro h; rw [h]; rfl))⟩, True.intro⟩ ?_; refine aops_nil (xt_n (hK _ ?_)); clear hK K; refine w_false (t := false) (by kernel_rfl) rfl ?_
 refine aw_skip ?_
 refine xt_n (hK _ ?_); clear hK K; refine aw_seq_k fun K hK => wR 4 ?_; refine aX hTT 1 [] True.intro ?_; refine aops_nil (xt_n (hK _ ?_)); clear hK K; refine aw_seq_k fun K hK => wR 5 ?_; refine aX hTT 2 [(0, .r (pn 16 (V.own 400016) (400016 : Nat) (Ob.mp (true, (0 : Nat)) (MF.mk [] fun (x : MK) => none))))] True.intro ?_; refine aops_nil (xt_n (hK _ ?_)); clear hK K; refine aw_seq_k fun K hK => ?_; refine aw_seq_k fun K hK => wR 6 ?_; refine aX hTT 3 [] True.intro ?_; refine aops_nil (xt_n (hK _ ?_)); clear hK K
 refine aw_block ?_
 refine aw_rounds 3 ?_
 refine awr_succ (m := 2) fun K hK => ?_
 refine aw_seq_k fun K hK => wR 7 ?_; refine aX hTT 1 [] True.intro ?_; refine aops_nil (xt_n (hK _ ?_)); clear hK K; refine aw_seq_k fun K hK => ?_; refine w_true (t := true) (by kernel_rfl) rfl ?_
 refine aw_skip ?_
 refine xt_n (hK _ ?_); clear hK K; refine aw_seq_k fun K hK => ?_
 refine aw_block ?_
 refine aw_seq_k fun K hK => wR 8 ?_; refine aX hTT 4 [(0, .c ((0 : Int) ≤ (0 : Int) ∧ (0 : Int) < (↑(1 : Nat) : Int))), (2, .r (pn 6 (V.ref 700006 0) (700006 : Nat) (Ob.box 150 [V.c (Value.string (ByteArray.mk #[])), V.nil]))), (3, .r (pw ((0 : Nat) + (2 : Nat) ≤ (2 : Nat)) (700006 : Nat) (Ob.box 150 [V.c (Value.string nA), zzT20])))] ⟨(by omega), (by omega), True.intro⟩ ?_; refine aops_nil (xt_n (hK _ ?_)); clear hK K; refine aw_seq_k fun K hK => ?_; refine aw_seq_k fun K hK => wR 9 ?_; refine aX hTT 1 [(0, .c ((0 : Nat) ≤ (2 : Nat)))] ⟨(by omega), True.intro⟩ ?_
 refine eC (checkTake_ac) ?_
 refine aX hTT 1 [] True.intro ?_; refine aops_nil (xt_n (hK _ ?_)); clear hK K
 refine aw_block ?_
 refine aw_seq_k fun K hK => wR 10 ?_; refine aX hTT 3 [] True.intro ?_; refine aops_nil (xt_n (hK _ ?_)); clear hK K; refine w_false (t := false) (by kernel_rfl) rfl ?_; refine aw_seq_k fun K hK => wR 11 ?_; refine aX hTT 3 [] True.intro ?_; refine aops_nil (xt_n (hK _ ?_)); clear hK K; refine w_false (t := false) (by kernel_rfl) rfl ?_
 refine aw_skip ?_
 refine xb_n ?_; refine xt_n (hK _ ?_); clear hK K; refine wR 12 ?_; refine aX hTT 6 [(2, .c ((0 : Nat) ≤ (2 : Nat))), (3, .c (mget (MF.mk [] fun (x : MK) => none) (MK.s nA) (V.c (Value.int IntKind.i64 0)) = V.c (Value.int IntKind.i64 (mgetI (MF.mk [] fun (x : MK) => none) (MK.s nA))))), (4, .i ((0 : Int) + (1 : Int))), (5, .r (PR.mk none none V.any [((400016 : Nat), some (Ob.mp (true, (1 : Nat)) (MF.mk [(MK.s nA, V.i 1)] (MF.rest (MF.mk [] fun (x : MK) => none)))))] false))] ⟨(by omega), ?_, (by omega), True.intro⟩ ?_
 ·
  rfl
 refine aops_nil ?_; refine xb_n ?_; refine xt_n (hK _ ?_); clear hK K; refine wR 13 ?_; refine aX hTT 2 [(0, .i ((0 : Int) + (1 : Int)))] ⟨(by omega), True.intro⟩ ?_; refine aops_nil (xt_n (hK _ ?_)); clear hK K
 refine awr_succ (m := 1) fun K hK => ?_
 refine aw_seq_k fun K hK => wR 14 ?_; refine aX hTT 1 [] True.intro ?_; refine aops_nil (xt_n (hK _ ?_)); clear hK K; refine aw_seq_k fun K hK => ?_; refine w_false (t := false) (by kernel_rfl) rfl ?_
 refine aw_exit ?_
 refine xt_x ?_; refine xt_x ?_
 refine xb_same ?_
 refine xt_n ?_; clear hK K; clear hK K; refine hK _ ?_; clear hK K; refine aw_seq_k fun K hK => ?_; refine aw_seq_k fun K hK => wR 15 ?_; refine aX hTT 9 [(3, .c (gA (true == true) True)), (4, .c (gB (true == true) True)), (5, .c (gA (true == true) True)), (6, .c (gB (true == true) True)), (7, .c (gC (true == true) True)), (8, .c ((true = true → (true == true) = true) ∧ True))] ⟨⟨⟨True.intro, True.intro⟩, (fun _ => True.intro)⟩, ⟨⟨(by (exact fun h => h)), True.intro⟩, (fun _ => True.intro)⟩, ⟨⟨True.intro, True.intro⟩, (fun _ => True.intro)⟩, ⟨⟨(by (exact fun h => h)), True.intro⟩, (fun _ => True.intro)⟩, ⟨⟨(by (exact fun h => h)), ⟨(by (exact fun h => h)), True.intro⟩⟩, (fun _ => True.intro)⟩, ⟨(by (exact fun h => h)), True.intro⟩, True.intro⟩ ?_; refine aops_nil (xt_n (hK _ ?_)); clear hK K; refine w_false (t := false) (by kernel_rfl) rfl ?_
 refine aw_skip ?_
 refine xt_n (hK _ ?_); clear hK K; refine aw_seq_k fun K hK => wR 16 ?_; refine aX hTT 2 [] True.intro ?_; refine aops_nil (xt_n (hK _ ?_)); clear hK K
 refine aw_ret ?_
 refine rP (V.i 0)
def ptC : List V := [.i 0, .i 0, .i 2, .i 0, .i 0, .i 0, .i 500]
def ptsV : V := .sl 7 1 fun _ => ptC
abbrev yyT20 := (betB (0 : Int) (-4096 : Int) (4096 : Int) && betB (0 : Int) (0 : Int) (1000 : Int) && betB (0 : Int) (0 : Int) (1000 : Int) && betB (500 : Int) (0 : Int) (4000 : Int))
abbrev yyT22 := (betB (0 : Int) (-4096 : Int) (4096 : Int) && betB (0 : Int) (0 : Int) (1000 : Int) && betB (0 : Int) (0 : Int) (1000 : Int))
abbrev yyT21 := (yyT22 == true)
abbrev yyT24 := (betB (0 : Int) (-4096 : Int) (4096 : Int) && betB (0 : Int) (0 : Int) (1000 : Int))
abbrev yyT23 := (yyT24 == true)
set_option maxRecDepth 100000 in
theorem good_ac : AM Tryz.prog 86 [.ref 500 0, .agg ptC] [.box 112 [tksV, .nil, .i 0]] (.b true) [some (.box 112 [tksV, .nil, .i 0])] [] := by
 refine am_intro hTT hMX (fn := Tryz.f86) (N := _) ⟨Tryz.func86, rfl, Tryz.ntmps86, by kernel_rfl⟩ (by simp) rfl (by simp) (by simp) fun C hF => ?_
 refine aw_seq_k fun K hK => wR 2 ?_; refine aX hTT 2 [] True.intro ?_; refine aops_nil (xt_n (hK _ ?_)); clear hK K; refine aw_seq_k fun K hK => ?_; refine aw_seq_k fun K hK => wD 3 ?_; refine aX hTT 40 ((4, .c (gA (false == false) True)) :: (5, .c (gB (false == false) True)) :: (6, .c (gA (false == false) True)) :: (7, .c (gB (false == false) True)) :: (8, .c (gB (false == false) True)) :: (9, .c (gB (false == false) ((0 : Nat) ≤ (3 : Nat)))) :: (10, .c (gB (false == false) True)) :: (11, .c (gC (false == false) True)) :: (12, .c (True ∧ (false = false → (false == false) = true))) :: (14, .c (gA (false == false) True)) :: (15, .c (gB (false == false) True)) :: (16, .c (gD (false == false) True)) :: (17, .c (True ∧ (false = false → (false == false) = true))) :: (19, .c (gA (false == false) True)) :: (20, .c (gB (false == false) True)) :: (21, .c (gA (false == false) True)) :: (22, .c (gB (false == false) True)) :: (23, .c (gC (false == false) True)) :: (24, .c (True ∧ (false = false → (false == false) = true))) :: (26, .c (gA (false == false) True)) :: (27, .c (gB (false == false) True)) :: (28, .c (gA (false == false) True)) :: (29, .c (gB (false == false) True)) :: (30, .c (gB (false == false) True)) :: (31, .c (gB (false == false) ((0 : Nat) ≤ (3 : Nat)))) :: (32, .c (gA (false == false) True)) :: (33, .c (gB (false == false) True)) :: (34, .c (gC (false == false) ((0 : Int) ≤ (0 : Int) ∧ (0 : Int) < (↑(1 : Nat) : Int)))) :: (35, .c (gB (false == false) True)) :: (36, .c (gB (false == false) True)) :: (37, .c (gB (false == false) True)) :: (38, .c (gC (false == false) True)) :: (39, .c (True ∧ (false = false → (false == false) = true))) :: []) ⟨⟨⟨True.intro, True.intro⟩, (fun _ => True.intro)⟩, ⟨⟨(by (exact fun h => h)), True.intro⟩, (fun _ => True.intro)⟩, ⟨⟨True.intro, True.intro⟩, (fun _ => True.intro)⟩, ⟨⟨(by (exact fun h => h)), True.intro⟩, (fun _ => True.intro)⟩, ⟨⟨(by (exact fun h => h)), True.intro⟩, (fun _ => True.intro)⟩, ⟨⟨(by (exact fun h => h)), True.intro⟩, (by (intro _; simp; done))⟩, ⟨⟨(by (exact fun h => h)), True.intro⟩, (fun _ => True.intro)⟩, ⟨⟨(by (exact fun h => h)), ⟨(by (exact fun h => h)), True.intro⟩⟩, (fun _ => True.intro)⟩, ⟨True.intro, (by (intro h; rw [h]; rfl))⟩, ⟨⟨True.intro, True.intro⟩, (fun _ => True.intro)⟩, ⟨⟨(by (exact fun h => h)), True.intro⟩, (fun _ => True.intro)⟩, ⟨⟨(by (exact fun h => h)), ⟨True.intro, True.intro⟩⟩, (fun _ => True.intro)⟩, ⟨True.intro, (by (intro h; rw [h]; rfl))⟩, ⟨⟨True.intro, True.intro⟩, (fun _ => True.intro)⟩, ⟨⟨(by (exact fun h => h)), True.intro⟩, (fun _ => True.intro)⟩, ⟨⟨True.intro, True.intro⟩, (fun _ => True.intro)⟩, ⟨⟨(by (exact fun h => h)), True.intro⟩, (fun _ => True.intro)⟩, ⟨⟨(by (exact fun h => h)), ⟨(by (exact fun h => h)), True.intro⟩⟩, (fun _ => True.intro)⟩, ⟨True.intro, (by (intro h; rw [h]; rfl))⟩, ⟨⟨True.intro, True.intro⟩, (fun _ => True.intro)⟩, ⟨⟨(by (exact fun h => h)), True.intro⟩, (fun _ => True.intro)⟩, ⟨⟨True.intro, True.intro⟩, (fun _ => True.intro)⟩, ⟨⟨(by (exact fun h => h)), True.intro⟩, (fun _ => True.intro)⟩, ⟨⟨(by (exact fun h => h)), True.intro⟩, (fun _ => True.intro)⟩, ⟨⟨(by (exact fun h => h)), True.intro⟩, (by (intro _; simp; done))⟩, ⟨⟨True.intro, True.intro⟩, (fun _ => True.intro)⟩, ⟨⟨(by (exact fun h => h)), True.intro⟩, (fun _ => True.intro)⟩, ⟨⟨(by (exact fun h => h)), ⟨(by (exact fun h => h)), True.intro⟩⟩, (by (intro _; simp; done))⟩, ⟨⟨(by (exact fun h => h)), True.intro⟩, (fun _ => True.intro)⟩, ⟨⟨(by (exact fun h => h)), True.intro⟩, (fun _ => True.intro)⟩, ⟨⟨(by (exact fun h => h)), True.intro⟩, (fun _ => True.intro)⟩, ⟨⟨(by (exact fun h => h)), ⟨(by (exact fun h => h)), True.intro⟩⟩, (fun _ => True.intro)⟩, ⟨True.intro, (by (intro h; rw [h]; rfl))⟩, True.intro⟩ ?_; refine aops_nil ⟨by kernel_rfl, ?_⟩; refine xt_n (hK _ ?_); clear hK K; refine w_false (t := false) (by kernel_rfl) rfl ?_
 refine aw_skip ?_
 refine xt_n (hK _ ?_); clear hK K; refine aw_seq_k fun K hK => wR 4 ?_; refine aX hTT 2 [] True.intro ?_
 refine eC (tBetween_ac 0 (-4096) 4096) ?_
 refine aX hTT 3 [(1, .c (gA (betB (0 : Int) (-4096 : Int) (4096 : Int) == true) True)), (2, .c (gB (betB (0 : Int) (-4096 : Int) (4096 : Int) == true) True))] ⟨⟨⟨True.intro, True.intro⟩, (fun _ => True.intro)⟩, ⟨⟨(by (exact fun h => h)), True.intro⟩, (fun _ => True.intro)⟩, True.intro⟩ ?_
 refine eG 1 (g := betB (0 : Int) (-4096 : Int) (4096 : Int) == true) (fun h => tBetween_ac 0 0 1000) ?_
 refine aX hTT 4 [(0, .c ((betB (0 : Int) (-4096 : Int) (4096 : Int) = true → (betB (0 : Int) (-4096 : Int) (4096 : Int) == true) = true) ∧ True)), (2, .c (gA yyT23 True)), (3, .c (gB yyT23 True))] ⟨⟨(by (exact fun h => h)), True.intro⟩, ⟨⟨True.intro, True.intro⟩, (fun _ => True.intro)⟩, ⟨⟨(by (exact fun h => h)), True.intro⟩, (fun _ => True.intro)⟩, True.intro⟩ ?_
 refine eG 1 (g := yyT24 == true) (fun h => tBetween_ac 0 0 1000) ?_
 refine aX hTT 4 [(0, .c ((yyT24 = true → yyT23 = true) ∧ True)), (2, .c (gA yyT21 True)), (3, .c (gB yyT21 True))] ⟨⟨(by (exact fun h => h)), True.intro⟩, ⟨⟨True.intro, True.intro⟩, (fun _ => True.intro)⟩, ⟨⟨(by (exact fun h => h)), True.intro⟩, (fun _ => True.intro)⟩, True.intro⟩ ?_
 refine eG 1 (g := yyT22 == true) (fun h => tBetween_ac 500 0 4000) ?_
 refine aX hTT 2 [(0, .c ((yyT22 = true → yyT21 = true) ∧ True))] ⟨⟨(by (exact fun h => h)), True.intro⟩, True.intro⟩ ?_; refine aops_nil (xt_n (hK _ ?_)); clear hK K
 refine aw_ret ?_
 refine retM (v' := V.b yyT20) [] [(4, V.b yyT20)] (.inr rfl) (.cons (by kernel_rfl) .nil) (.cons ⟨Ob.box 112 [V.sl 2 1 fun (x : Nat) => [V.c (Value.string nA), datV], V.nil, V.i 0], (by kernel_rfl), .box (by kernel_rfl)⟩ .nil) (by kernel_rfl) (by kernel_rfl) (by kernel_rfl) (by kernel_rfl) (by kernel_rfl) (by kernel_rfl) (by kernel_rfl)
end Go.Proofs.YtepkjobndmmejaaGreatDoor

namespace Go.Ab
open Go.RowKit Go.Dw
def V.flatPT (pn : List Nat) : V → Bool
  | .tup cs => V.flatPL pn cs
  | v => v.flatP pn
theorem R.flatPT {pn : List Nat} {w w' : World} {L L' : Nat → Prop} {ρ ρ' : Nat → Option Value} {u : V} {x : Value} (h : R w L ρ u x) (hf : u.flatPT pn = true) (hρ : ∀ id ∈ pn, ∀ v, ρ id = some v → ρ' id = some v) : R w' L' ρ' u x := by
  cases u with
  | tup cs =>
    obtain ⟨xs, rfl, hx⟩ := h.tup_inv
    exact .tup' ⟨hx.1, fun i v y hv hy => (hx.2 i v y hv hy).flatP (V.flatPL_get hf hv) hρ⟩
  | _ => exact h.flatP hf hρ
def Ob.isC : Ob → Prop
  | .row _ _ n r => ∀ i, i < n → ∀ u ∈ r i, u.isC = true
  | _ => False
theorem AC.rowK {P : Program} {f : FuncId} {args args' : List V} {v : V} {obs : List Ob} (h : AC P f args' v obs) (e : TypeId) {sz n : Nat} {row : Nat → List V} (ha : V.fzL 500 (.sl sz n row) args = args') (hi : V.idfL args' = true) (ho : obs.length ≤ 90) (hi2 : ∀ i, V.idfL (row i) = true)
    (hv : v.flatPT (List.range obs.length) = true) (hC : ∀ o ∈ obs, o.isC) : AM P f args [.row e sz n row] v [some (.row e sz n row)] obs := by
  refine ⟨h.1, fun W LB L w ρ vs hwl hWL hG hρ hvs => ?_⟩
  have hσ : insF [.row e sz n row] 500 = some (.row e sz n row) := rfl
  have hre : Real W w L ρ 500 (.row e sz n row) := hG.ob 500 _ hσ
  obtain ⟨v0, hv0, hlt, hs⟩ := hre.slice fun i _ => hi2 i
  have ex : Ext w L ρ w (fun b => L b ∨ blk v0 = some b) ρ := ⟨fun b hb => ⟨.inl hb, rfl⟩, fun _ _ h => h⟩
  have hrv : RV w (fun b => L b ∨ blk v0 = some b) ρ0 args' vs.toList := by
    refine RV.free (ρ := ρ) ?_ hi
    rw [← ha]
    refine ⟨by rw [V.fzL_len]; exact hvs.1, fun i u x hu hx => ?_⟩
    rw [V.fzL_get] at hu
    cases hc : args[i]? with
    | none => rw [hc] at hu; cases hu
    | some a =>
      rw [hc] at hu
      simp only [Option.map_some, Option.some.injEq] at hu
      subst hu
      refine R_fz (fun y hy => ?_) _ _ ((hvs.2 i a x hc hx).ext ex)
      rw [hv0] at hy; injection hy with hy; subst hy; exact hs
  refine (h.2 (fun b => L b ∨ blk v0 = some b) w vs (fun b hb => ?_) (hG.glE ex) hrv).mono ?_
  · rcases hb with hb | hb
    · exact (hG.ll b hb).1
    · exact (hlt b hb).1
  rintro ee w' ⟨x, rfl, hbel, L', ρ', hG', hL', hx, hnn⟩
  obtain ⟨hG2, ex2⟩ := hG.quiet hbel (L' := L) (fun _ h => h) (fun _ h => .inl h)
  obtain ⟨ρ2, hρ2⟩ : ∃ ρ2 : Nat → Option Value, ∀ id, ρ2 id = if id < obs.length then ρ' id else ρ id := ⟨_, fun _ => rfl⟩
  have h1 : ∀ id, id < obs.length → ρ2 id = ρ' id := fun id h => by rw [hρ2, if_pos h]
  have h2 : ∀ id, ¬ id < obs.length → ρ2 id = ρ id := fun id h => by rw [hρ2, if_neg h]
  have hout : ∀ id o, outF [some (.row e sz n row)] obs id = some o → (id < obs.length ∧ obsF obs id = some o) ∨ (id = 500 ∧ o = .row e sz n row) := fun id o hio => by
    unfold outF at hio
    split at hio
    · rename_i h5
      refine .inr ?_
      cases hk : id - 500 with
      | zero => rw [hk] at hio; simp at hio; exact ⟨by omega, hio.symm⟩
      | succ m => rw [hk] at hio; simp at hio
    · refine .inl ⟨?_, hio⟩
      exact (List.getElem?_eq_some_iff.1 hio).1
  have hob : ∀ id o, obsF obs id = some o → id < obs.length → Real W w' L ρ2 id o ∧ ∀ y k, ρ2 id = some y → blk y = some k → w.heap.size ≤ k := fun id o hio hid => by
    have hr := hG'.ob id o hio
    have hc := hC o (List.mem_of_getElem? hio)
    cases o with
    | row t z m r =>
      obtain ⟨y, xs, q1, q2, q3, q4, q5⟩ := hr
      refine ⟨⟨y, xs, by rw [h1 id hid]; exact q1, q2, q3, q4.ofC fun u hu => ?_, fun k hk => ⟨(hG.new k (q5 k hk).1).1, fun hL => by have := (hG.ll k hL).1; have := (q5 k hk).1; omega⟩⟩, fun y' k hy hk => ?_⟩
      · obtain ⟨l, hl, hul⟩ := List.mem_flatten.1 hu
        obtain ⟨i, hi, rfl⟩ := List.mem_iff_getElem.1 hl
        have hi' : i < m := by simpa [slRows_len] using hi
        have := slRows_get (row := r) hi'
        rw [List.getElem?_eq_getElem hi] at this
        injection this with this
        rw [this] at hul
        exact hc i hi' u hul
      · rw [h1 id hid, q1] at hy; injection hy with hy; subst hy
        exact (q5 k hk).1
    | _ => exact hc.elim
  refine ⟨x, rfl, Tch.of_below hbel fun k _ hk => (hG.new k hk).1, L, ρ2, ⟨fun b hb => hG2.ll b hb, fun b hb => hG2.new b hb, fun id o hio => ?_, fun i j y z k hij hi hj hy hz hk => ?_, hG2.gl⟩, ⟨fun b hb => ex2.1 b hb, fun id y hy => ?_⟩, hx.flatPT hv fun id hid y hy => by rw [h1 id (List.mem_range.1 hid)]; exact hy, fun j hj hj5 => ?_⟩
  · rcases hout id o hio with ⟨hid, hio⟩ | ⟨rfl, rfl⟩
    · exact (hob id o hio hid).1
    · obtain ⟨y, xs, q1, q2, q3, q4, q5⟩ := hG2.ob 500 _ hσ
      have hn5 : ¬ 500 < obs.length := by omega
      exact ⟨y, xs, by rw [h2 500 hn5]; exact q1, q2, q3, by
        refine ⟨q4.1, fun i u x hu hx => ⟨?_, (q4.2 i u x hu hx).2⟩⟩
        have hr := (q4.2 i u x hu hx).1
        refine (hr.free ?_ ρ2)
        obtain ⟨l, hl, hul⟩ := List.mem_flatten.1 (List.mem_of_getElem? hu)
        obtain ⟨i', hi', rfl⟩ := List.mem_iff_getElem.1 hl
        have hi'' : i' < n := by simpa [slRows_len] using hi'
        have := slRows_get (row := row) hi''
        rw [List.getElem?_eq_getElem hi'] at this
        injection this with this
        rw [this] at hul
        obtain ⟨p, hp, rfl⟩ := List.mem_iff_getElem.1 hul
        exact V.idfL_get (hi2 i') (List.getElem?_eq_getElem hp), q5⟩
  · cases hio : outF [some (.row e sz n row)] obs i with
    | none => exact absurd hio hi
    | some o =>
      cases hjo : outF [some (.row e sz n row)] obs j with
      | none => exact absurd hjo hj
      | some o' =>
        rcases hout i o hio with ⟨hid, hio'⟩ | ⟨rfl, rfl⟩
        · rcases hout j o' hjo with ⟨hjd, hjo'⟩ | ⟨rfl, rfl⟩
          · rw [h1 i hid] at hy; rw [h1 j hjd] at hz
            exact hG'.sep i j y z k hij (by rw [hio']; simp) (by rw [hjo']; simp) hy hz hk
          · intro hk'
            have a1 := (hob i o hio' hid).2 y k hy hk
            rw [h2 500 (by omega), hv0] at hz; injection hz with hz; subst hz
            have := (hlt k hk').1
            omega
        · rcases hout j o' hjo with ⟨hjd, hjo'⟩ | ⟨rfl, rfl⟩
          · intro hk'
            have a1 := (hob j o' hjo' hjd).2 z k hz hk'
            rw [h2 500 (by omega), hv0] at hy; injection hy with hy; subst hy
            have := (hlt k hk).1
            omega
          · exact absurd rfl hij
  · have : ¬ id < obs.length := fun hlt' => by
      rw [hρ id (.inl (by omega))] at hy; cases hy
    rw [h2 id this]; exact hy
  · rw [h2 j (by omega)]
    exact hρ j hj5
section
variable {P : Program} {N : Nat} {C : Cx P N} {ops : Array Oper} {nx : Nat} {os : List Oper} {tm : Nat → V} {σ : Nat → Option Ob} {ks : List (List Nat × List Nat)} {K : (Nat → V) → (Nat → Option Ob) → List (List Nat × List Nat) → Prop} {ty : TypeId} {pos : String} {af : Array Edge}
end
end Go.Ab

namespace Go.Ab
open Go.RowKit Go.Dw
theorem AC.shut1 {P : Program} {f : FuncId} {args : List V} {v v' : V} {e : TypeId} {sz n n' : Nat} {row row' : Nat → List V} (h : AC P f args v [.row e sz n row]) (hn : n = n') (hr : ∀ i, i < n → row i = row' i) (hi : ∀ i, V.idfL (row' i) = true) (hv : V.fz 0 (.sl sz n' row') v = v') (hidf : v'.idf = true) : AC P f args v' [] := by
  subst hn
  refine ⟨h.1, fun L w vs hL hgl hvs => (h.2 L w vs hL hgl hvs).mono ?_⟩
  rintro ee w' ⟨x, rfl, hb, L', ρ', hG, hL', hx, hnn⟩
  have hre : Real (fun b => w.heap.size ≤ b) w' L' ρ' 0 (.row e sz n row') := (hG.ob 0 _ rfl).eq ⟨rfl, rfl, rfl, hr⟩
  obtain ⟨v0, hv0, hlt, hs⟩ := hre.slice fun i _ => hi i
  have ex : Ext w' L' ρ' w' (fun b => L' b ∨ blk v0 = some b) ρ' := ⟨fun b hb => ⟨.inl hb, rfl⟩, fun _ _ h => h⟩
  refine ⟨x, rfl, hb, fun b => L' b ∨ blk v0 = some b, ρ0, ⟨fun b hbl => ?_, hG.new, (fun id o ho => by cases ho), fun i j y z k _ hi => absurd rfl hi, hG.glE ex⟩, fun b hbl => .inl (hL' b hbl), ?_, fun _ _ => rfl⟩
  · rcases hbl with h1 | h1
    · exact hG.ll b h1
    · exact ⟨(hlt b h1).1, .inr (hlt b h1).2.1⟩
  · subst hv
    refine (R_fz (fun y hy => ?_) v x (hx.ext ex)).free hidf ρ0
    rw [hv0] at hy; injection hy with hy; subst hy; exact hs
end Go.Ab

namespace Go.Proofs.YtepkjobndmmejaaGreatDoor
open Go.Ab Go.RowKit Go.Dw Go.Shelf
def plR : Nat → List V := fun _ => ptC ++ [.i 0, .i 0, .i 2]
set_option maxRecDepth 100000 in
theorem pl1 : mkS [(7, .box 112 [tksV, .own 8, .i 2]), (8, .row 116 10 1 plR)] 8 = some (.row 116 10 1 plR) := by kernel_rfl
set_option maxRecDepth 100000 in
theorem pl2 (i : Nat) : V.idfL (plR i) = true := by kernel_rfl
set_option maxRecDepth 100000 in
theorem pl3 : Le ⟨mkT [(7, .ref 7 0)], mkS [(7, .box 112 [tksV, .own 8, .i 2]), (8, .row 116 10 1 plR)], 1⟩ ⟨fun t => V.fz 8 (.sl 10 1 plR) (mkT [(7, .ref 7 0)] t), fzS (mkS [(7, .box 112 [tksV, .own 8, .i 2]), (8, .row 116 10 1 plR)]) 8 (.sl 10 1 plR), 1⟩ := le_freezeIn 8 pl1 pl2 rfl (fun _ _ => rfl)
abbrev zzT30 : V := V.sl 2 1 fun (x : Nat) => [V.c (Value.string nA), datV]
abbrev qT30 : Prop := (0 : Int) ≤ (0 : Int) ∧ (0 : Int) < (↑(1 : Nat) : Int)
theorem qT30_ : qT30 := (by omega)
abbrev qT31 : Prop := (8 : Nat) ≤ (10 : Nat)
theorem qT31_ : qT31 := (by omega)
abbrev qT32 : Prop := (9 : Nat) ≤ (10 : Nat)
theorem qT32_ : qT32 := (by omega)
abbrev qT33 : Prop := (0 : Int) ≤ (0 : Int) ∧ (0 : Int) < (↑(2 : Nat) : Int)
theorem qT33_ : qT33 := (by omega)
abbrev qT34 : Prop := (0 : Int) ≤ (1 : Int) ∧ (1 : Int) < (↑(2 : Nat) : Int)
theorem qT34_ : qT34 := (by omega)
abbrev yyT32 : List V := [V.i 0, V.i 0, V.i 2, V.i 0, V.i 0, V.i 0, V.i 500, V.i 0, V.i 0, V.i 2]
abbrev yyT30 : Ob := Ob.row 116 10 1 fun (i : Nat) => List.take (10 : Nat) (List.drop (i * (10 : Nat)) yyT32)
abbrev yyT31 := ((false == true && false == false) = true → (false == true && false == false) = true)
abbrev yyT33 := ((false == true) = true → (false == true) = true)
set_option maxRecDepth 100000 in
theorem newP_ac : AC Tryz.prog 55 [tksV, ptsV] (.tup [.ptr [tksV, .sl 10 1 fun _ => ptC ++ [.i 0, .i 0, .i 2], .i 2], .i 0]) [] := by
 refine acI hTT hMX Tryz.func55 Tryz.ntmps55 fun C hC hF => ?_
 refine aw_seq_k fun K hK => wR 2 ?_
 refine aops_x (M := [24]) hTT 2 [] True.intro ?_
 refine aops_nil (xt_n (hK _ ?_)); clear hK K; refine aw_seq_k fun K hK => ?_; refine aw_seq_k fun K hK => wR 3 ?_
 refine aops_x (M := [24]) hTT 1 [] True.intro ?_
 refine eC (CheckTakes_ac) ?_
 refine aops_x (M := [24]) hTT 1 [] True.intro ?_
 refine aops_nil (xt_n (hK _ ?_)); clear hK K; refine aw_seq_k fun K hK => wR 4 ?_
 refine aops_x (M := [24]) hTT 2 [] True.intro ?_
 refine aops_nil (xt_n (hK _ ?_)); clear hK K; refine w_false (t := false) (by kernel_rfl) rfl ?_
 refine aw_skip ?_
 refine xt_n (hK _ ?_); clear hK K; refine aw_seq_k fun K hK => ?_; refine aw_seq_k fun K hK => wR 5 ?_
 refine aops_x (M := [24]) hTT 3 [] True.intro ?_
 refine aops_nil (xt_n (hK _ ?_)); clear hK K; refine w_false (t := false) (by kernel_rfl) rfl ?_
 refine aw_skip ?_
 refine xt_n (hK _ ?_); clear hK K; refine aw_seq_k fun K hK => wR 6 ?_
 refine aops_x (M := [24]) hTT 4 [(2, .r (pn 24 (V.ref 500024 0) (500024 : Nat) (Ob.box 112 [zzT30, V.nil, V.i 0])))] True.intro ?_
 refine aops_nil (xt_n (hK _ ?_)); clear hK K; refine aw_seq_k fun K hK => ?_; refine aw_seq_k fun K hK => wR 7 ?_
 refine aops_x (M := [24]) hTT 3 [] True.intro ?_
 refine aops_nil (xt_n (hK _ ?_)); clear hK K
 refine aw_block ?_
 refine aw_rounds 3 ?_
 refine awr_succ (m := 2) fun K hK => ?_
 refine aw_seq_k fun K hK => wR 8 ?_
 refine aops_x (M := [24]) hTT 1 [] True.intro ?_
 refine aops_nil (xt_n (hK _ ?_)); clear hK K; refine aw_seq_k fun K hK => ?_; refine w_true (t := true) (by kernel_rfl) rfl ?_
 refine aw_skip ?_
 refine xt_n (hK _ ?_); clear hK K; refine aw_seq_k fun K hK => ?_
 refine aw_block ?_
 refine aw_seq_k fun K hK => wR 9 ?_
 refine aops_x (M := [24]) hTT 6 [(1, .c qT30), (3, .r (pn 9 (V.ref 800009 0) (800009 : Nat) (Ob.box 114 [V.i 0, V.i 0, V.i 0, V.i 0, V.i 0, V.i 0, V.i 0]))), (5, .r (pw ((0 : Nat) + (7 : Nat) ≤ (7 : Nat)) (800009 : Nat) (Ob.box 114 [V.i 0, V.i 0, V.i 2, V.i 0, V.i 0, V.i 0, V.i 500])))] ⟨qT30_, (by omega), True.intro⟩ ?_
 refine aops_nil (xt_n (hK _ ?_)); clear hK K; refine aw_seq_k fun K hK => ?_; refine aw_seq_k fun K hK => wR 10 ?_
 refine aops_x (M := [24]) hTT 2 [(1, .c ((0 : Nat) ≤ (7 : Nat)))] ⟨(by omega), True.intro⟩ ?_
 refine aops_callR [500024] (first := []) (caps := []) (ins' := [Ob.box 112 [zzT30, V.nil, V.i 0]]) (v' := V.b true) (δ := []) (kp := [500024]) (good_ac) (by kernel_rfl) (by kernel_rfl) (by kernel_rfl) (by kernel_rfl) (by kernel_rfl) (by kernel_rfl) (by kernel_rfl) rfl (by kernel_rfl) (by kernel_rfl) ⟨(by kernel_rfl), True.intro⟩ (by kernel_rfl) (by kernel_rfl) (by kernel_rfl) ?_
 refine aops_x (M := [24]) hTT 1 [] True.intro ?_
 refine aops_nil (xt_n (hK _ ?_)); clear hK K; refine w_false (t := false) (by kernel_rfl) rfl ?_
 refine aw_skip ?_
 refine xt_n (hK _ ?_); clear hK K; refine aw_seq_k fun K hK => wD 11 ?_
 refine aops_x (M := [24]) hTT 12 [(0, .c ((0 : Nat) ≤ (7 : Nat))), (5, .c ((2 : Nat) ≤ (3 : Nat))), (7, .c ((3 : Nat) ≤ (7 : Nat))), (8, .i ((0 : Int) + (0 : Int))), (10, .r (pn 10 (V.ref 1000010 0) (1000010 : Nat) (Ob.box 116 [V.i 0, V.i 0, V.i 0, V.i 0, V.i 0, V.i 0, V.i 0, V.i 0, V.i 0, V.i 0]))), (11, .r (pw ((0 : Nat) + (10 : Nat) ≤ (10 : Nat)) (1000010 : Nat) (Ob.box 116 [V.i 0, V.i 0, V.i 2, V.i 0, V.i 0, V.i 0, V.i 500, V.i 0, V.i 0, V.i 0])))] ⟨(by omega), (by omega), (by omega), (by omega), (by omega), True.intro⟩ ?_
 refine aops_nil ⟨by kernel_rfl, ?_⟩; refine xt_n (hK _ ?_); clear hK K; refine aw_seq_k fun K hK => wR 12 ?_
 refine aops_x (M := [24]) hTT 10 [(1, .c qT31), (3, .c ((2 : Nat) ≤ (7 : Nat))), (4, .i ((0 : Int) + (2 : Int))), (6, .c ((1 : Nat) ≤ (7 : Nat))), (7, .i ((2 : Int) - (0 : Int))), (9, .r (pw ((9 : Nat) + (1 : Nat) ≤ (10 : Nat)) (1000010 : Nat) (Ob.box 116 yyT32)))] ⟨qT31_, (by omega), (by omega), (by omega), (by omega), (by omega), True.intro⟩ ?_
 refine aops_nil (xt_n (hK _ ?_)); clear hK K; refine aw_seq_k fun K hK => wD 13 ?_
 refine aops_x (M := [24]) hTT 11 [(4, .c ((1 : Nat) ≤ (3 : Nat))), (5, .c ((0 : Nat) ≤ (10 : Nat))), (7, .r (PR.mk (some (62 : Nat)) (some ((1 : Nat) ≤ (1099511627776 : Nat))) (V.own 1200062) [((1200062 : Nat), some (yyT30))] false)), (10, .r (pw ((1 : Nat) + (1 : Nat) ≤ (3 : Nat)) (500024 : Nat) (Ob.box 112 [zzT30, V.own 1200062, V.i 0])))] ⟨(by omega), (by omega), (by omega), (by omega), True.intro⟩ ?_
 refine aops_nil ⟨by kernel_rfl, ?_⟩; refine xt_n (hK _ ?_); clear hK K; refine wR 14 ?_
 refine aops_x (M := [24]) hTT 6 [(2, .c qT32), (5, .r (pw ((2 : Nat) + (1 : Nat) ≤ (3 : Nat)) (500024 : Nat) (Ob.box 112 [zzT30, V.own 1200062, V.i 2])))] ⟨qT32_, (by omega), True.intro⟩ ?_
 refine aops_nil ?_; refine xb_n ?_; refine xt_n (hK _ ?_); clear hK K; refine wR 15 ?_
 refine aops_x (M := [24]) hTT 2 [(0, .i ((0 : Int) + (1 : Int)))] ⟨(by omega), True.intro⟩ ?_
 refine aops_nil (xt_n (hK _ ?_)); clear hK K
 refine awr_succ (m := 1) fun K hK => ?_
 refine aw_seq_k fun K hK => wR 16 ?_
 refine aops_x (M := [24]) hTT 1 [] True.intro ?_
 refine aops_nil (xt_n (hK _ ?_)); clear hK K; refine aw_seq_k fun K hK => ?_; refine w_false (t := false) (by kernel_rfl) rfl ?_
 refine aw_exit ?_
 refine xt_x ?_; refine xt_x ?_
 refine xb_same ?_
 refine xt_n ?_; clear hK K; clear hK K; refine hK _ ?_; clear hK K; refine aw_seq_k fun K hK => wR 17 ?_
 refine aops_x (M := [24]) hTT 1 [] True.intro ?_
 refine aops_nil (xt_n (hK _ ?_)); clear hK K; refine aw_seq_k fun K hK => ?_; refine aw_seq_k fun K hK => wR 18 ?_
 refine aops_x (M := [24]) hTT 6 [(3, .c ((1 : Nat) ≤ (3 : Nat)))] ⟨(by omega), True.intro⟩ ?_
 refine aops_nil (xt_n (hK _ ?_)); clear hK K
 refine aw_block ?_
 refine aw_rounds 3 ?_
 refine awr_succ (m := 2) fun K hK => ?_
 refine aw_seq_k fun K hK => wR 19 ?_
 refine aops_x (M := [24]) hTT 1 [] True.intro ?_
 refine aops_nil (xt_n (hK _ ?_)); clear hK K; refine aw_seq_k fun K hK => ?_; refine w_true (t := true) (by kernel_rfl) rfl ?_
 refine aw_skip ?_
 refine xt_n (hK _ ?_); clear hK K; refine aw_seq_k fun K hK => ?_
 refine aw_block ?_
 refine aw_seq_k fun K hK => wR 20 ?_
 refine aops_x (M := [24]) hTT 6 [(1, .c qT30), (2, .c ((0 : Nat) < (1 : Nat) ∧ (0 : Nat) ≤ (10 : Nat))), (3, .r (pn 13 (V.ref 1900013 0) (1900013 : Nat) (Ob.box 116 [V.i 0, V.i 0, V.i 0, V.i 0, V.i 0, V.i 0, V.i 0, V.i 0, V.i 0, V.i 0]))), (5, .r (pw ((0 : Nat) + (10 : Nat) ≤ (10 : Nat)) (1900013 : Nat) (Ob.box 116 yyT32)))] ⟨qT30_, (by omega), (by omega), True.intro⟩ ?_
 refine aops_nil (xt_n (hK _ ?_)); clear hK K; refine aw_seq_k fun K hK => ?_; refine aw_seq_k fun K hK => wD 21 ?_
 refine aops_n hTT (M := [24]) (n := 36) [pv 81 (V.i 0), pv 82 (V.b false), pv 83 (V.b false), pc 84 ((True ∧ True) ∧ ((false == true) = true → True)) (V.gd (false == true) (V.ref 1900013 9)), pc 85 ((yyT33 ∧ True) ∧ ((false == true) = true → (9 : Nat) ≤ (10 : Nat))) (V.gd (false == true) (V.i 2)), pc 86 ((True ∧ True) ∧ ((false == true) = true → True)) (V.gd (false == true) (V.ref 500024 0)), pc 87 ((yyT33 ∧ True) ∧ ((false == true) = true → True)) (V.gd (false == true) (V.ref 500024 0)), pc 88 ((yyT33 ∧ True) ∧ ((false == true) = true → True)) (V.gd (false == true) (V.ref 500024 1)), pc 89 ((yyT33 ∧ True) ∧ ((false == true) = true → (1 : Nat) ≤ (3 : Nat))) (V.gd (false == true) (V.own 1200062)), pc 90 ((True ∧ True) ∧ ((false == true) = true → True)) (V.gd (false == true) (V.i 0)), pc 91 ((yyT33 ∧ True ∧ True) ∧ ((false == true) = true → (-9223372036854775808 : Int) ≤ (0 : Int) - (1 : Int) ∧ (0 : Int) - (1 : Int) ≤ (9223372036854775807 : Int))) (V.gd (false == true) (V.i (-1))), pc 92 ((yyT33 ∧ yyT33 ∧ True) ∧ ((false == true) = true → (0 : Int) ≤ (-1 : Int) ∧ (-1 : Int) < (↑(1 : Nat) : Int))) (V.gd (false == true) (V.oel 1200062 10 (Int.toNat (-1 : Int)) (0 : Nat))), pc 93 ((yyT33 ∧ True) ∧ ((false == true) = true → True)) (V.gd (false == true) (V.oel 1200062 10 (Int.toNat (-1 : Int)) (9 : Nat))), pc 94 ((yyT33 ∧ True) ∧ ((false == true) = true → Int.toNat (-1 : Int) < (1 : Nat) ∧ (9 : Nat) ≤ (10 : Nat))) (V.gd (false == true) (V.i 2)), pc 95 ((yyT33 ∧ yyT33 ∧ True) ∧ ((false == true) = true → True)) (V.gd (false == true) (V.b false)), pc 96 ((yyT33 ∧ True) ∧ ((false == true) = true → True)) (V.gd (false == true) (V.b false)), pc 97 ((True ∧ True) ∧ ((false == true && false == false) = true → True)) (V.gd (false == true && false == false) (V.ref 1900013 8)), pc 98 ((yyT31 ∧ True) ∧ ((false == true && false == false) = true → (8 : Nat) ≤ (10 : Nat))) (V.gd (false == true && false == false) (V.i 0)), pc 99 ((True ∧ True) ∧ ((false == true && false == false) = true → True)) (V.gd (false == true && false == false) (V.ref 500024 0)), pc 100 ((yyT31 ∧ True) ∧ ((false == true && false == false) = true → True)) (V.gd (false == true && false == false) (V.ref 500024 0)), pc 101 ((yyT31 ∧ True) ∧ ((false == true && false == false) = true → True)) (V.gd (false == true && false == false) (V.ref 500024 1)), pc 102 ((yyT31 ∧ True) ∧ ((false == true && false == false) = true → (1 : Nat) ≤ (3 : Nat))) (V.gd (false == true && false == false) (V.own 1200062)), pc 103 ((True ∧ True) ∧ ((false == true && false == false) = true → True)) (V.gd (false == true && false == false) (V.i 0)), pc 104 ((yyT31 ∧ True ∧ True) ∧ ((false == true && false == false) = true → (-9223372036854775808 : Int) ≤ (0 : Int) - (1 : Int) ∧ (0 : Int) - (1 : Int) ≤ (9223372036854775807 : Int))) (V.gd (false == true && false == false) (V.i (-1))), pc 105 ((yyT31 ∧ yyT31 ∧ True) ∧ ((false == true && false == false) = true → (0 : Int) ≤ (-1 : Int) ∧ (-1 : Int) < (↑(1 : Nat) : Int))) (V.gd (false == true && false == false) (V.oel 1200062 10 (Int.toNat (-1 : Int)) (0 : Nat))), pc 106 ((yyT31 ∧ True) ∧ ((false == true && false == false) = true → True)) (V.gd (false == true && false == false) (V.oel 1200062 10 (Int.toNat (-1 : Int)) (8 : Nat))), pc 107 ((yyT31 ∧ True) ∧ ((false == true && false == false) = true → Int.toNat (-1 : Int) < (1 : Nat) ∧ (8 : Nat) ≤ (10 : Nat))) (V.gd (false == true && false == false) (V.i 0)), pc 108 ((yyT31 ∧ yyT31 ∧ True) ∧ ((false == true && false == false) = true → True)) (V.gd (false == true && false == false) (V.b false)), pc 109 (yyT33 ∧ ((false == true) = true → True) ∧ ((false == true) = true → false = false → (false == true && false == false) = true)) (V.gd (false == true) (V.b false)), pc 110 ((false = true → (false == true) = true) ∧ True) (V.b false), pv 111 (V.b false), pc 112 ((True ∧ True) ∧ ((false == false) = true → True)) (V.gd (false == false) (V.ref 1900013 8)), pc 113 ((((false == false) = true → (false == false) = true) ∧ True) ∧ ((false == false) = true → (8 : Nat) ≤ (10 : Nat))) (V.gd (false == false) (V.i 0)), pc 114 ((True ∧ True) ∧ ((false == false) = true → True)) (V.gd (false == false) (V.i 0)), pc 115 ((((false == false) = true → (false == false) = true) ∧ ((false == false) = true → (false == false) = true) ∧ True) ∧ ((false == false) = true → True)) (V.gd (false == false) (V.b false)), pc 116 (True ∧ (false = false → (false == false) = true)) (V.b false)] (by kernel_rfl) (by kernel_rfl) ⟨⟨⟨True.intro, True.intro⟩, (fun _ => True.intro)⟩, ⟨⟨(by (exact fun h => h)), True.intro⟩, (by (intro _; simp; done))⟩, ⟨⟨True.intro, True.intro⟩, (fun _ => True.intro)⟩, ⟨⟨(by (exact fun h => h)), True.intro⟩, (fun _ => True.intro)⟩, ⟨⟨(by (exact fun h => h)), True.intro⟩, (fun _ => True.intro)⟩, ⟨⟨(by (exact fun h => h)), True.intro⟩, (by (intro _; simp; done))⟩, ⟨⟨True.intro, True.intro⟩, (fun _ => True.intro)⟩, ⟨⟨(by (exact fun h => h)), ⟨True.intro, True.intro⟩⟩, (by (intro _; simp; done))⟩, ⟨⟨(by (exact fun h => h)), ⟨(by (exact fun h => h)), True.intro⟩⟩, (by (intro h; simp at h; done))⟩, ⟨⟨(by (exact fun h => h)), True.intro⟩, (fun _ => True.intro)⟩, ⟨⟨(by (exact fun h => h)), True.intro⟩, (by (intro _; simp; done))⟩, ⟨⟨(by (exact fun h => h)), ⟨(by (exact fun h => h)), True.intro⟩⟩, (fun _ => True.intro)⟩, ⟨⟨(by (exact fun h => h)), True.intro⟩, (fun _ => True.intro)⟩, ⟨⟨True.intro, True.intro⟩, (fun _ => True.intro)⟩, ⟨⟨(by (exact fun h => h)), True.intro⟩, (by (intro _; simp; done))⟩, ⟨⟨True.intro, True.intro⟩, (fun _ => True.intro)⟩, ⟨⟨(by (exact fun h => h)), True.intro⟩, (fun _ => True.intro)⟩, ⟨⟨(by (exact fun h => h)), True.intro⟩, (fun _ => True.intro)⟩, ⟨⟨(by (exact fun h => h)), True.intro⟩, (by (intro _; simp; done))⟩, ⟨⟨True.intro, True.intro⟩, (fun _ => True.intro)⟩, ⟨⟨(by (exact fun h => h)), ⟨True.intro, True.intro⟩⟩, (by (intro _; simp; done))⟩, ⟨⟨(by (exact fun h => h)), ⟨(by (exact fun h => h)), True.intro⟩⟩, (by (intro h; simp at h; done))⟩, ⟨⟨(by (exact fun h => h)), True.intro⟩, (fun _ => True.intro)⟩, ⟨⟨(by (exact fun h => h)), True.intro⟩, (by (intro _; simp; done))⟩, ⟨⟨(by (exact fun h => h)), ⟨(by (exact fun h => h)), True.intro⟩⟩, (fun _ => True.intro)⟩, ⟨(by (exact fun h => h)), ⟨(fun _ => True.intro), (by (intro h; simp at h; done))⟩⟩, ⟨(by (exact fun h => h)), True.intro⟩, ⟨⟨True.intro, True.intro⟩, (fun _ => True.intro)⟩, ⟨⟨(by (exact fun h => h)), True.intro⟩, (by (intro _; simp; done))⟩, ⟨⟨True.intro, True.intro⟩, (fun _ => True.intro)⟩, ⟨⟨(by (exact fun h => h)), ⟨(by (exact fun h => h)), True.intro⟩⟩, (fun _ => True.intro)⟩, ⟨True.intro, (by (intro h; rw [h]; rfl))⟩, True.intro⟩ ?_
 refine aops_nil ⟨by kernel_rfl, ?_⟩; refine xt_n (hK _ ?_); clear hK K; refine w_false (t := false) (by kernel_rfl) rfl ?_
 refine aw_skip ?_
 refine xt_n (hK _ ?_); clear hK K; refine aw_seq_k fun K hK => wR 22 ?_
 refine aops_x (M := [24]) hTT 2 [] True.intro ?_
 refine aops_nil (xt_n (hK _ ?_)); clear hK K; refine w_false (t := false) (by kernel_rfl) rfl ?_
 refine aw_skip ?_
 refine xb_n ?_; refine xt_n (hK _ ?_); clear hK K; refine wR 23 ?_
 refine aops_x (M := [24]) hTT 2 [(0, .i ((0 : Int) + (1 : Int)))] ⟨(by omega), True.intro⟩ ?_
 refine aops_nil (xt_n (hK _ ?_)); clear hK K
 refine awr_succ (m := 1) fun K hK => ?_
 refine aw_seq_k fun K hK => wR 24 ?_
 refine aops_x (M := [24]) hTT 1 [] True.intro ?_
 refine aops_nil (xt_n (hK _ ?_)); clear hK K; refine aw_seq_k fun K hK => ?_; refine w_false (t := false) (by kernel_rfl) rfl ?_
 refine aw_exit ?_
 refine xt_x ?_; refine xt_x ?_
 refine xb_same ?_
 refine xt_n ?_; clear hK K; clear hK K; refine hK _ ?_; clear hK K; refine aw_seq_k fun K hK => ?_; refine aw_seq_k fun K hK => wR 25 ?_
 refine aops_x (M := [24]) hTT 5 [(3, .c ((2 : Nat) ≤ (3 : Nat)))] ⟨(by omega), True.intro⟩ ?_
 refine aops_nil (xt_n (hK _ ?_)); clear hK K; refine w_false (t := false) (by kernel_rfl) rfl ?_
 refine aw_skip ?_
 refine xt_n (hK _ ?_); clear hK K; refine aw_seq_k fun K hK => ?_
 refine w_le (s' := ⟨mkT [(7, .ref 7 0)], mkS [(7, .box 112 [tksV, .own 8, .i 2]), (8, .row 116 10 1 plR)], 1⟩) ?_ ?_
 ·
  refine le_ren (tl := [(7, V.ref 7 0)]) (sl := [(7, Ob.box 112 [zzT30, V.own 8, V.i 2]), (8, Ob.row 116 10 1 plR)]) [(7, 500024), (8, 1200062)] (.cons (by kernel_rfl) .nil) (.cons ⟨Ob.box 112 [zzT30, V.own 1200062, V.i 2], (by kernel_rfl), .box (by kernel_rfl)⟩ (.cons ⟨yyT30, (by kernel_rfl), .row (by kernel_rfl) ?_⟩ .nil)) (by kernel_rfl) (by kernel_rfl)
  intro i hi
  obtain rfl : i = 0 := by omega
  rfl
 refine w_le pl3 ?_
 refine w_le (le_freezeBox (t := (112 : Nat)) (cs := [zzT30, V.sl 10 1 plR, V.i 2]) 7 (by kernel_rfl) (by kernel_rfl)) ?_
 refine wR 2 ?_; refine aX hTT 3 [] True.intro ?_; refine aops_nil (xt_n (hK _ ?_)); clear hK K
 refine aw_ret ?_
 refine rP (V.tup [V.ptr [zzT30, V.sl 10 1 plR, V.i 2], V.i 0])
def gV : V := .ptr [tksV, .sl 10 1 fun _ => ptC ++ [.i 0, .i 0, .i 2], .i 2]
set_option maxRecDepth 100000 in
theorem tGain_ac (k : Int) (hk : k = 0 ∨ k = 1) : AC Tryz.prog 87 [.agg (ptC ++ [.i 0, .i 0, .i 2]), .i k, .i 500] (.agg [.i 500, .i 1000]) [] := by
 rcases hk with rfl | rfl
 ·
  refine acI hTT hMX Tryz.func87 Tryz.ntmps87 fun C hC hF => ?_
  refine aw_seq_k fun K hK => wR 2 ?_; refine aX hTT 2 [(1, .r (pn 6 (V.ref 100006 0) (100006 : Nat) (Ob.box 147 [V.i 0, V.i 0])))] True.intro ?_; refine aops_nil (xt_n (hK _ ?_)); clear hK K; refine aw_seq_k fun K hK => wD 3 ?_; refine aX hTT 21 [(5, .i ((0 : Int) + (1 : Int))), (10, .i ((2 : Int) - (0 : Int))), (12, .i ((2 : Int) - (0 : Int))), (13, .i ((2 : Int) - (1 : Int))), (18, .i ((0 : Int) + (1 : Int)))] ⟨(by omega), (by omega), (by omega), (by omega), (by omega), True.intro⟩ ?_; refine aops_nil ⟨by kernel_rfl, ?_⟩; refine xt_n (hK _ ?_); clear hK K; refine aw_seq_k fun K hK => wR 4 ?_; refine aX hTT 17 [(2, .i ((500 : Int) * (1 : Int))), (4, .i ((500 : Int) * (1 : Int))), (8, .i ((0 : Int) + (1 : Int))), (9, .i ((1000 : Int) * (1 : Int))), (13, .i ((0 : Int) + (1 : Int))), (14, .i ((1000 : Int) * (1 : Int))), (16, .r (pw ((0 : Nat) + (2 : Nat) ≤ (2 : Nat)) (100006 : Nat) (Ob.box 147 [V.i 500, V.i 1000])))] ⟨(by omega), (by omega), (by omega), (by omega), (by omega), (by omega), (by omega), True.intro⟩ ?_; refine aops_nil (xt_n (hK _ ?_)); clear hK K
  refine aw_ret ?_
  refine rP (V.agg [V.i 500, V.i 1000])
 ·
  refine acI hTT hMX Tryz.func87 Tryz.ntmps87 fun C hC hF => ?_
  refine aw_seq_k fun K hK => wR 2 ?_; refine aX hTT 2 [(1, .r (pn 6 (V.ref 100006 0) (100006 : Nat) (Ob.box 147 [V.i 0, V.i 0])))] True.intro ?_; refine aops_nil (xt_n (hK _ ?_)); clear hK K; refine aw_seq_k fun K hK => wD 3 ?_; refine aX hTT 21 [(5, .i ((0 : Int) + (1 : Int))), (10, .i ((2 : Int) - (0 : Int))), (12, .i ((2 : Int) - (1 : Int))), (13, .i ((1 : Int) - (1 : Int))), (18, .i ((0 : Int) + (1 : Int)))] ⟨(by omega), (by omega), (by omega), (by omega), (by omega), True.intro⟩ ?_; refine aops_nil ⟨by kernel_rfl, ?_⟩; refine xt_n (hK _ ?_); clear hK K; refine aw_seq_k fun K hK => wR 4 ?_; refine aX hTT 17 [(2, .i ((500 : Int) * (1 : Int))), (4, .i ((500 : Int) * (1 : Int))), (8, .i ((0 : Int) + (1 : Int))), (9, .i ((1000 : Int) * (1 : Int))), (13, .i ((0 : Int) + (1 : Int))), (14, .i ((1000 : Int) * (1 : Int))), (16, .r (pw ((0 : Nat) + (2 : Nat) ≤ (2 : Nat)) (100006 : Nat) (Ob.box 147 [V.i 500, V.i 1000])))] ⟨(by omega), (by omega), (by omega), (by omega), (by omega), (by omega), (by omega), True.intro⟩ ?_; refine aops_nil (xt_n (hK _ ?_)); clear hK K
  refine aw_ret ?_
  refine rP (V.agg [V.i 500, V.i 1000])
set_option maxRecDepth 100000 in
theorem gOf_ac (n : Int) (hn : -100 ≤ n ∧ n ≤ 100) : AC Tryz.prog 88 [.agg [.i 500, .i 1000], .i n] (.i ((n * 500).tdiv 1000)) [] := by
 refine acI hTT hMX Tryz.func88 Tryz.ntmps88 fun C hC hF => ?_
 refine aw_seq_k fun K hK => wR 2 ?_; refine aX hTT 2 [] True.intro ?_; refine aops_nil (xt_n (hK _ ?_)); clear hK K; refine aw_seq_k fun K hK => wR 3 ?_; refine aX hTT 8 [(3, .i (n * (500 : Int))), (6, .c ((0 : Int) < (1000 : Int) ∧ (-9223372036854775808 : Int) ≤ n * (500 : Int) ∧ n * (500 : Int) ≤ (9223372036854775807 : Int)))] ⟨(by omega), ⟨(by omega), (by omega)⟩, True.intro⟩ ?_; refine aops_nil (xt_n (hK _ ?_)); clear hK K
 refine aw_ret ?_
 refine rP (V.i (Int.tdiv (n * (500 : Int)) (1000 : Int)))
set_option maxRecDepth 100000 in
theorem sound0_ac : AC Tryz.prog 57 [gV, .agg (ptC ++ [.i 0, .i 0, .i 2]), .i 0, .i 500] (.agg [.i 5, .i (-5)]) [] := by
 refine acI hTT hMX Tryz.func57 Tryz.ntmps57 fun C hC hF => ?_
 refine aw_seq_k fun K hK => wR 2 ?_; refine aX hTT 2 [(1, .r (pn 8 (V.ref 100008 0) (100008 : Nat) (Ob.box 46 [V.i 0, V.i 0])))] True.intro ?_; refine aops_nil (xt_n (hK _ ?_)); clear hK K; refine aw_seq_k fun K hK => wR 3 ?_; refine aX hTT 3 [] True.intro ?_
 refine eC (tGain_ac 0 (by decide)) ?_
 refine aX hTT 2 [] True.intro ?_; refine aops_nil (xt_n (hK _ ?_)); clear hK K; refine aw_seq_k fun K hK => wD 4 ?_; refine aX hTT 19 [(7, .c qT30), (14, .i ((0 : Int) + (0 : Int))), (15, .c qT33), (17, .r (pn 10 (V.ref 300010 0) (300010 : Nat) (Ob.box 46 [V.i 0, V.i 0]))), (18, .r (pw ((0 : Nat) + (2 : Nat) ≤ (2 : Nat)) (300010 : Nat) (Ob.box 46 [V.i 10, V.i (-10)])))] ⟨qT30_, (by omega), qT33_, (by omega), True.intro⟩ ?_; refine aops_nil ⟨by kernel_rfl, ?_⟩; refine xt_n (hK _ ?_); clear hK K; refine aw_seq_k fun K hK => wD 5 ?_; refine aX hTT 3 [(2, .c ((0 : Nat) ≤ (2 : Nat)))] ⟨(by omega), True.intro⟩ ?_
 refine e_call (first := [V.agg [V.i 500, V.i 1000]]) (caps := []) (gOf_ac 10 (by decide)) (by kernel_rfl) (by kernel_rfl) (by kernel_rfl) (by kernel_rfl) (by kernel_rfl) ?_
 refine aX hTT 3 [(2, .c ((1 : Nat) ≤ (2 : Nat)))] ⟨(by omega), True.intro⟩ ?_
 refine e_call (first := [V.agg [V.i 500, V.i 1000]]) (caps := []) (gOf_ac (-10) (by decide)) (by kernel_rfl) (by kernel_rfl) (by kernel_rfl) (by kernel_rfl) (by kernel_rfl) ?_
 refine aX hTT 2 [(1, .r (pw ((0 : Nat) + (2 : Nat) ≤ (2 : Nat)) (100008 : Nat) (Ob.box 46 [V.i 5, V.i (-5)])))] ⟨(by omega), True.intro⟩ ?_; refine aops_nil ⟨by kernel_rfl, ?_⟩; refine xt_n (hK _ ?_); clear hK K
 refine aw_ret ?_
 refine rP (V.agg [V.i 5, V.i (-5)])
set_option maxRecDepth 100000 in
theorem sound1_ac : AC Tryz.prog 57 [gV, .agg (ptC ++ [.i 0, .i 0, .i 2]), .i 1, .i 500] (.agg [.i 2, .i 0]) [] := by
 refine acI hTT hMX Tryz.func57 Tryz.ntmps57 fun C hC hF => ?_
 refine aw_seq_k fun K hK => wR 2 ?_; refine aX hTT 2 [(1, .r (pn 8 (V.ref 100008 0) (100008 : Nat) (Ob.box 46 [V.i 0, V.i 0])))] True.intro ?_; refine aops_nil (xt_n (hK _ ?_)); clear hK K; refine aw_seq_k fun K hK => wR 3 ?_; refine aX hTT 3 [] True.intro ?_
 refine eC (tGain_ac 1 (by decide)) ?_
 refine aX hTT 2 [] True.intro ?_; refine aops_nil (xt_n (hK _ ?_)); clear hK K; refine aw_seq_k fun K hK => wD 4 ?_; refine aX hTT 19 [(7, .c qT30), (14, .i ((0 : Int) + (1 : Int))), (15, .c qT34), (17, .r (pn 10 (V.ref 300010 0) (300010 : Nat) (Ob.box 46 [V.i 0, V.i 0]))), (18, .r (pw ((0 : Nat) + (2 : Nat) ≤ (2 : Nat)) (300010 : Nat) (Ob.box 46 [V.i 5, V.i 0])))] ⟨qT30_, (by omega), qT34_, (by omega), True.intro⟩ ?_; refine aops_nil ⟨by kernel_rfl, ?_⟩; refine xt_n (hK _ ?_); clear hK K; refine aw_seq_k fun K hK => wD 5 ?_; refine aX hTT 3 [(2, .c ((0 : Nat) ≤ (2 : Nat)))] ⟨(by omega), True.intro⟩ ?_
 refine e_call (first := [V.agg [V.i 500, V.i 1000]]) (caps := []) (gOf_ac 5 (by decide)) (by kernel_rfl) (by kernel_rfl) (by kernel_rfl) (by kernel_rfl) (by kernel_rfl) ?_
 refine aX hTT 3 [(2, .c ((1 : Nat) ≤ (2 : Nat)))] ⟨(by omega), True.intro⟩ ?_
 refine e_call (first := [V.agg [V.i 500, V.i 1000]]) (caps := []) (gOf_ac 0 (by decide)) (by kernel_rfl) (by kernel_rfl) (by kernel_rfl) (by kernel_rfl) (by kernel_rfl) ?_
 refine aX hTT 2 [(1, .r (pw ((0 : Nat) + (2 : Nat) ≤ (2 : Nat)) (100008 : Nat) (Ob.box 46 [V.i 2, V.i 0])))] ⟨(by omega), True.intro⟩ ?_; refine aops_nil ⟨by kernel_rfl, ?_⟩; refine xt_n (hK _ ?_); clear hK K
 refine aw_ret ?_
 refine rP (V.agg [V.i 2, V.i 0])
set_option maxRecDepth 100000 in
theorem tSum_ac (a b c d : Int) (h : (-100 ≤ a ∧ a ≤ 100) ∧ (-100 ≤ b ∧ b ≤ 100) ∧ (-100 ≤ c ∧ c ≤ 100) ∧ -100 ≤ d ∧ d ≤ 100) : AC Tryz.prog 56 [.agg [.i a, .i b], .agg [.i c, .i d]] (.agg [.i (a + c), .i (b + d)]) [] := by
 refine acI hTT hMX Tryz.func56 Tryz.ntmps56 fun C hC hF => ?_
 refine aw_seq_k fun K hK => wR 2 ?_; refine aX hTT 3 [(2, .r (pn 4 (V.ref 100004 0) (100004 : Nat) (Ob.box 46 [V.i 0, V.i 0])))] True.intro ?_; refine aops_nil (xt_n (hK _ ?_)); clear hK K; refine aw_seq_k fun K hK => wR 3 ?_; refine aX hTT 12 [(4, .i (a + c)), (9, .i (b + d)), (11, .r (pw ((0 : Nat) + (2 : Nat) ≤ (2 : Nat)) (100004 : Nat) (Ob.box 46 [V.i (a + c), V.i (b + d)])))] ⟨(by omega), (by omega), (by omega), True.intro⟩ ?_; refine aops_nil (xt_n (hK _ ?_)); clear hK K
 refine aw_ret ?_
 refine rP (V.agg [V.i (a + c), V.i (b + d)])
def rR : Nat → List V := fun j => [.i (gi [5, 2] j), .i (gi [-5, 0] j)]
theorem tCheck2 : AC Tryz.prog 34 [.sl 2 2 rR] (.i 0) [] :=
 (tCheckSamples_ac [(5, -5), (2, 0)] (by decide)).conv (show A2 [_] [_] from ⟨RImp.rows rfl fun i hi => by
  have hi : i < 2 := hi
  rcases (by omega : i = 0 ∨ i = 1) with rfl | rfl <;> rfl, trivial⟩)
theorem rR_idf (i : Nat) : V.idfL (rR i) = true := rfl
theorem tCheckR : AM Tryz.prog 34 [.own 500] [.row 46 2 2 rR] (.i 0) [some (.row 46 2 2 rR)] [] :=
 AC.rowK tCheck2 46 (sz := 2) (n := 2) (row := rR) rfl rfl (by decide) rR_idf rfl (by simp)
abbrev yyT35 : List V := [V.c (Value.int IntKind.i64 0), V.c (Value.int IntKind.i64 0)]
abbrev yyT34 : Ob := Ob.row 46 2 2 fun (j : Nat) => if j = (1 : Nat) then [V.i 2, V.i 0] else if j = (0 : Nat) then [V.i 5, V.i (-5)] else yyT35
set_option maxRecDepth 100000 in
theorem Render0_ac : AC Tryz.prog 25 [tksV, ptsV] (.tup [.own 0, .i 0]) [.row 46 2 2 fun i => [.i (gp [(5, -5), (2, 0)] i).1, .i (gp [(5, -5), (2, 0)] i).2]] := by
 refine acI hTT hMX Tryz.func25 Tryz.ntmps25 fun C hC hF => ?_
 refine aw_seq_k fun K hK => wR 2 ?_; refine aX hTT 2 [] True.intro ?_; refine aops_nil (xt_n (hK _ ?_)); clear hK K; refine aw_seq_k fun K hK => wR 3 ?_; refine aX hTT 2 [] True.intro ?_
 refine eC (newP_ac) ?_
 refine aX hTT 5 [] True.intro ?_; refine aops_nil (xt_n (hK _ ?_)); clear hK K; refine aw_seq_k fun K hK => ?_; refine aw_seq_k fun K hK => wR 4 ?_; refine aX hTT 2 [] True.intro ?_; refine aops_nil (xt_n (hK _ ?_)); clear hK K; refine w_false (t := false) (by kernel_rfl) rfl ?_
 refine aw_skip ?_
 refine xt_n (hK _ ?_); clear hK K; refine aw_seq_k fun K hK => wR 5 ?_; refine aX hTT 6 [(4, .r (PR.mk (some (25 : Nat)) (some ((0 : Int) ≤ (2 : Int) ∧ (2 : Int) ≤ (2 : Int) ∧ (2 : Int) ≤ (1099511627776 : Int))) (V.own 400025) [((400025 : Nat), some (Ob.row 46 2 2 fun (x : Nat) => yyT35))] false))] ⟨⟨(by omega), (by omega)⟩, True.intro⟩ ?_; refine aops_nil (xt_n (hK _ ?_)); clear hK K; refine aw_seq_k fun K hK => ?_; refine aw_seq_k fun K hK => wR 6 ?_; refine aX hTT 6 [] True.intro ?_; refine aops_nil (xt_n (hK _ ?_)); clear hK K
 refine aw_block ?_
 refine aw_rounds 3 ?_
 refine awr_succ (m := 2) fun K hK => ?_
 refine aw_seq_k fun K hK => wR 7 ?_; refine aX hTT 1 [] True.intro ?_; refine aops_nil (xt_n (hK _ ?_)); clear hK K; refine aw_seq_k fun K hK => ?_; refine w_true (t := true) (by kernel_rfl) rfl ?_
 refine aw_skip ?_
 refine xt_n (hK _ ?_); clear hK K; refine aw_seq_k fun K hK => ?_
 refine aw_block ?_
 refine aw_seq_k fun K hK => wR 8 ?_; refine aX hTT 4 [(0, .c qT30), (2, .r (pn 10 (V.ref 700010 0) (700010 : Nat) (Ob.box 116 [V.i 0, V.i 0, V.i 0, V.i 0, V.i 0, V.i 0, V.i 0, V.i 0, V.i 0, V.i 0]))), (3, .r (pw ((0 : Nat) + (10 : Nat) ≤ (10 : Nat)) (700010 : Nat) (Ob.box 116 [V.i 0, V.i 0, V.i 2, V.i 0, V.i 0, V.i 0, V.i 500, V.i 0, V.i 0, V.i 2])))] ⟨qT30_, (by omega), True.intro⟩ ?_; refine aops_nil (xt_n (hK _ ?_)); clear hK K; refine aw_seq_k fun K hK => wR 9 ?_; refine aX hTT 3 [(1, .c qT31)] ⟨qT31_, True.intro⟩ ?_; refine aops_nil (xt_n (hK _ ?_)); clear hK K
 refine aw_block ?_
 refine aw_rounds 3 ?_
 refine awr_succ (m := 2) fun K hK => ?_
 refine aw_seq_k fun K hK => ?_; refine aw_seq_k fun K hK => wR 10 ?_; refine aX hTT 4 [(2, .c qT32)] ⟨qT32_, True.intro⟩ ?_; refine aops_nil (xt_n (hK _ ?_)); clear hK K; refine w_true (t := true) (by kernel_rfl) rfl ?_
 refine aw_skip ?_
 refine xt_n (hK _ ?_); clear hK K; refine aw_seq_k fun K hK => ?_
 refine aw_block ?_
 refine wD 11 ?_; refine aX hTT 15 [(4, .c qT33), (5, .c ((0 : Nat) < (2 : Nat) ∧ (0 : Nat) ≤ (2 : Nat))), (7, .c ((0 : Nat) ≤ (10 : Nat))), (10, .c qT31), (11, .i ((0 : Int) - (0 : Int))), (14, .c ((6 : Nat) ≤ (10 : Nat)))] ⟨qT33_, (by omega), (by omega), qT31_, (by omega), (by omega), True.intro⟩ ?_
 refine eC (sound0_ac) ?_
 skip
 refine eC (tSum_ac 0 0 5 (-5) (by decide)) ?_
 refine aX hTT 2 [(0, .c qT33), (1, .r (pw ((0 : Nat) < (2 : Nat) ∧ (0 : Nat) + (2 : Nat) ≤ (2 : Nat)) (400025 : Nat) (Ob.row 46 2 2 fun (j : Nat) => if j = (0 : Nat) then [V.i 5, V.i (-5)] else yyT35)))] ⟨qT33_, (by omega), True.intro⟩ ?_; refine aops_nil ⟨by kernel_rfl, ?_⟩; refine xb_n ?_; refine xt_n (hK _ ?_); clear hK K; refine wR 12 ?_; refine aX hTT 3 [(1, .i ((0 : Int) + (1 : Int)))] ⟨(by omega), True.intro⟩ ?_; refine aops_nil (xt_n (hK _ ?_)); clear hK K
 refine awr_succ (m := 1) fun K hK => ?_
 refine aw_seq_k fun K hK => ?_; refine aw_seq_k fun K hK => wR 13 ?_; refine aX hTT 4 [(2, .c qT32)] ⟨qT32_, True.intro⟩ ?_; refine aops_nil (xt_n (hK _ ?_)); clear hK K; refine w_true (t := true) (by kernel_rfl) rfl ?_
 refine aw_skip ?_
 refine xt_n (hK _ ?_); clear hK K; refine aw_seq_k fun K hK => ?_
 refine aw_block ?_
 refine wD 14 ?_; refine aX hTT 15 [(4, .c qT34), (5, .c ((1 : Nat) < (2 : Nat) ∧ (0 : Nat) ≤ (2 : Nat))), (7, .c ((0 : Nat) ≤ (10 : Nat))), (10, .c qT31), (11, .i ((1 : Int) - (0 : Int))), (14, .c ((6 : Nat) ≤ (10 : Nat)))] ⟨qT34_, (by omega), (by omega), qT31_, (by omega), (by omega), True.intro⟩ ?_
 refine eC (sound1_ac) ?_
 skip
 refine eC (tSum_ac 0 0 2 0 (by decide)) ?_
 refine aX hTT 2 [(0, .c qT34), (1, .r (pw ((1 : Nat) < (2 : Nat) ∧ (0 : Nat) + (2 : Nat) ≤ (2 : Nat)) (400025 : Nat) (yyT34)))] ⟨qT34_, (by omega), True.intro⟩ ?_; refine aops_nil ⟨by kernel_rfl, ?_⟩; refine xb_n ?_; refine xt_n (hK _ ?_); clear hK K; refine wR 15 ?_; refine aX hTT 3 [(1, .i ((1 : Int) + (1 : Int)))] ⟨(by omega), True.intro⟩ ?_; refine aops_nil (xt_n (hK _ ?_)); clear hK K
 refine awr_succ (m := 0) fun K hK => ?_
 refine aw_seq_k fun K hK => ?_; refine aw_seq_k fun K hK => wR 16 ?_; refine aX hTT 4 [(2, .c qT32)] ⟨qT32_, True.intro⟩ ?_; refine aops_nil (xt_n (hK _ ?_)); clear hK K; refine w_false (t := false) (by kernel_rfl) rfl ?_
 refine aw_exit ?_
 refine xt_x ?_; refine xt_x ?_
 refine xb_same ?_
 refine xb_n ?_; refine xt_n ?_; clear hK K; clear hK K; refine hK _ ?_; clear hK K; refine wR 17 ?_; refine aX hTT 2 [(0, .i ((0 : Int) + (1 : Int)))] ⟨(by omega), True.intro⟩ ?_; refine aops_nil (xt_n (hK _ ?_)); clear hK K
 refine awr_succ (m := 1) fun K hK => ?_
 refine aw_seq_k fun K hK => wR 18 ?_; refine aX hTT 1 [] True.intro ?_; refine aops_nil (xt_n (hK _ ?_)); clear hK K; refine aw_seq_k fun K hK => ?_; refine w_false (t := false) (by kernel_rfl) rfl ?_
 refine aw_exit ?_
 refine xt_x ?_; refine xt_x ?_
 refine xb_same ?_
 refine xt_n ?_; clear hK K; clear hK K; refine hK _ ?_; clear hK K; refine aw_seq_k fun K hK => ?_; refine aw_seq_k fun K hK => ?_
 refine w_le (s' := ⟨mkT [(8, .own 8)], mkS [(8, .row 46 2 2 rR)], 1⟩) ?_ ?_
 ·
  refine le_ren (tl := [(8, V.own 8)]) (sl := [(8, Ob.row 46 2 2 rR)]) [(8, 400025)] (.cons (by kernel_rfl) .nil) (.cons ⟨yyT34, (by kernel_rfl), .row (by kernel_rfl) ?_⟩ .nil) (by kernel_rfl) (by kernel_rfl)
  intro i hi
  rcases (by omega : i = 0 ∨ i = 1) with rfl | rfl <;> rfl
 refine wR 2 ?_; refine aX hTT 1 [] True.intro ?_
 refine aops_callR [8] (first := []) (caps := []) (ins' := [Ob.row 46 2 2 rR]) (v' := V.i 0) (δ := []) (kp := [8]) (tCheckR) (by kernel_rfl) (by kernel_rfl) (by kernel_rfl) (by kernel_rfl) (by kernel_rfl) (by kernel_rfl) (by kernel_rfl) rfl (by kernel_rfl) (by kernel_rfl) ⟨(fun _ _ => rfl), True.intro⟩ (by kernel_rfl) (by kernel_rfl) (by kernel_rfl) ?_
 refine aX hTT 1 [] True.intro ?_; refine aops_nil (xt_n (hK _ ?_)); clear hK K; refine w_false (t := false) (by kernel_rfl) rfl ?_
 refine aw_skip ?_
 refine xt_n (hK _ ?_); clear hK K; refine aw_seq_k fun K hK => wR 3 ?_; refine aX hTT 3 [] True.intro ?_; refine aops_nil (xt_n (hK _ ?_)); clear hK K
 refine aw_ret ?_
 refine ret_own [(0, 8)] [(4, V.own 0), (5, V.i 0)] (.inr rfl) (.cons (by kernel_rfl) (.cons (by kernel_rfl) .nil)) (.cons ⟨Ob.row 46 2 2 rR, (by kernel_rfl), .row (by kernel_rfl) ?_⟩ .nil) (by kernel_rfl) (by kernel_rfl) (by kernel_rfl) (by kernel_rfl)
 intro i hi
 rcases (by omega : i = 0 ∨ i = 1) with rfl | rfl <;> rfl
theorem Render1_ac : AC Tryz.prog 25 [tksV, ptsV] (.tup [V.pts [(5, -5), (2, 0)], .i 0]) [] := AC.shut1 Render0_ac rfl (fun i _ => rfl) (fun _ => rfl) rfl rfl
end Go.Proofs.YtepkjobndmmejaaGreatDoor

namespace Go.Proofs.YtepkjobndmmejaaGreatDoor
open Go.Ab Go.RowKit Go.Dw Go.Shelf
theorem exAp_ac : AC Tryz.prog 96 [V.cv ⟨[64], [128], 256⟩, V.ints [100, 0, 0, -3]] (.tup [V.ints [100, 75, 37, 15], .i 0]) [] := by
 have A := Apply_ac ⟨[64], [128], 256⟩ [100, 0, 0, -3] ⟨by decide, by decide⟩ (by decide)
 rw [show apR ⟨[64], [128], 256⟩ false [100, 0, 0, -3] = (0, [100, 75, 37, 15]) by decide +kernel] at A
 exact A
set_option maxRecDepth 100000 in
theorem works03_ac : AC Tryz.prog 66 [] (.b true) [] := by
 refine acI hTT hMX Tryz.func66 Tryz.ntmps66 fun C hC hF => ?_
 refine aw_seq_k fun K hK => wR 2 ?_; refine aX hTT 1 [] True.intro ?_; refine aops_nil (xt_n (hK _ ?_)); clear hK K; refine aw_seq_k fun K hK => wR 3 ?_; refine aX hTT 3 [(1, .r (pn 1 (V.ref 200001 0) (200001 : Nat) (Ob.box 24 [V.i 0, V.i 0, V.i 0, V.i 0, V.i 0, V.i 0, V.i 0]))), (2, .r (pw ((0 : Nat) + (7 : Nat) ≤ (7 : Nat)) (200001 : Nat) (Ob.box 24 [V.i 400, V.i 2000, V.i 200, V.i 2000, V.i 1000, V.i 1000, V.i 100])))] ⟨(by omega), True.intro⟩ ?_; refine aops_nil (xt_n (hK _ ?_)); clear hK K; refine aw_seq_k fun K hK => wR 4 ?_; refine aX hTT 5 [(0, .c ((0 : Nat) ≤ (7 : Nat)))] ⟨(by omega), True.intro⟩ ?_
 refine eC (AC.conv (exCut_ac) (args' := [V.agg [V.i 400, V.i 2000, V.i 200, V.i 2000, V.i 1000, V.i 1000, V.i 100], V.sl 2 3 fun (i : Nat) => List.take (2 : Nat) (List.drop (i * (2 : Nat)) [V.i 0, V.i 0, V.i 100, V.i 100, V.i 0, V.i 0])]) ⟨RImp.refl _, ?_, trivial⟩) ?_
 ·
  exact gLit3 rfl rfl rfl
 refine aX hTT 5 [] True.intro ?_; refine aops_nil (xt_n (hK _ ?_)); clear hK K; refine aw_seq_k fun K hK => wR 5 ?_; refine aX hTT 2 [(0, .c ((0 : Nat) ≤ (7 : Nat)))] ⟨(by omega), True.intro⟩ ?_
 refine eC (exL_ac) ?_
 refine aX hTT 5 [] True.intro ?_; refine aops_nil (xt_n (hK _ ?_)); clear hK K; refine aw_seq_k fun K hK => wR 6 ?_; refine aX hTT 4 [] True.intro ?_
 refine eC (AC.conv (exAp_ac) (args' := [V.agg [V.sl 1 1 fun (i : Nat) => List.take (1 : Nat) (List.drop (i * (1 : Nat)) [V.i 64]), V.sl 1 1 fun (i : Nat) => List.take (1 : Nat) (List.drop (i * (1 : Nat)) [V.i 128]), V.i 256], V.sl 1 4 fun (i : Nat) => List.take (1 : Nat) (List.drop (i * (1 : Nat)) [V.i 100, V.i 0, V.i 0, V.i (-3)])]) ⟨?_, ?_, trivial⟩) ?_
 ·
  exact RImp.agg ⟨RImp.lit1 [64], RImp.lit1 [128], RImp.refl _, trivial⟩
 ·
  exact RImp.lit1 [100, 0, 0, -3]
 refine aX hTT 5 [] True.intro ?_; refine aops_nil (xt_n (hK _ ?_)); clear hK K; refine aw_seq_k fun K hK => wR 7 ?_; refine aX hTT 7 [] True.intro ?_
 refine eC (AC.conv (Render1_ac) (args' := [V.sl 2 1 fun (i : Nat) => List.take (2 : Nat) (List.drop (i * (2 : Nat)) [V.c (Value.string (ByteArray.mk #[(97 : UInt8)])), V.sl 2 2 fun (i : Nat) => List.take (2 : Nat) (List.drop (i * (2 : Nat)) [V.i 10, V.i (-10), V.i 5, V.i 0])]), V.sl 7 1 fun (i : Nat) => List.take (7 : Nat) (List.drop (i * (7 : Nat)) [V.i 0, V.i 0, V.i 2, V.i 0, V.i 0, V.i 0, V.i 500])]) ⟨?_, ?_, trivial⟩) ?_
 ·
  exact RImp.rows rfl fun i hi => by
   have hi : i < 1 := hi
   obtain rfl : i = 0 := by omega
   rfl
 ·
  exact RImp.rows rfl fun i hi => by
   have hi : i < 1 := hi
   obtain rfl : i = 0 := by omega
   rfl
 refine aX hTT 5 [] True.intro ?_; refine aops_nil (xt_n (hK _ ?_)); clear hK K; refine aw_seq_k fun K hK => wR 8 ?_; refine aX hTT 54 ((3, .c (gA (true == true) True)) :: (4, .c (gD (true == true) True)) :: (5, .c ((true = true → (true == true) = true) ∧ True)) :: (7, .c (gA (true == true) True)) :: (8, .c (gD (true == true) True)) :: (9, .c ((true = true → (true == true) = true) ∧ True)) :: (11, .c (gA (true == true) True)) :: (12, .c (gD (true == true) True)) :: (13, .c ((true = true → (true == true) = true) ∧ True)) :: (15, .c (gA (true == true) True)) :: (16, .c (gB (true == true) True)) :: (17, .c (gD (true == true) True)) :: (18, .c ((true = true → (true == true) = true) ∧ True)) :: (20, .c (gA (true == true) True)) :: (21, .c (gD (true == true) ((0 : Int) ≤ (1 : Int) ∧ (1 : Int) < (↑(3 : Nat) : Int)))) :: (22, .c (gB (true == true) True)) :: (23, .c ((True ∧ True ∧ True) ∧ ((true == true) = true → True))) :: (24, .c (gC (true == true) True)) :: (25, .c ((true = true → (true == true) = true) ∧ True)) :: (27, .c (gA (true == true) True)) :: (28, .c (gD (true == true) True)) :: (29, .c ((true = true → (true == true) = true) ∧ True)) :: (31, .c (gA (true == true) True)) :: (32, .c (gB (true == true) True)) :: (33, .c (gD (true == true) True)) :: (34, .c ((true = true → (true == true) = true) ∧ True)) :: (36, .c (gA (true == true) True)) :: (37, .c (gD (true == true) ((0 : Int) ≤ (1 : Int) ∧ (1 : Int) < (↑(4 : Nat) : Int)))) :: (38, .c (gB (true == true) True)) :: (39, .c (gD (true == true) True)) :: (40, .c ((true = true → (true == true) = true) ∧ True)) :: (42, .c (gA (true == true) True)) :: (43, .c (gB (true == true) True)) :: (44, .c (gD (true == true) True)) :: (45, .c ((true = true → (true == true) = true) ∧ True)) :: (47, .c (gA (true == true) True)) :: (48, .c (gD (true == true) ((0 : Int) ≤ (0 : Int) ∧ (0 : Int) < (↑(2 : Nat) : Int)))) :: (49, .c (gB (true == true) True)) :: (50, .c ((True ∧ True ∧ True) ∧ ((true == true) = true → True))) :: (51, .c (gC (true == true) True)) :: (52, .c ((true = true → (true == true) = true) ∧ True)) :: []) ⟨⟨⟨True.intro, True.intro⟩, (fun _ => True.intro)⟩, ⟨⟨(by (exact fun h => h)), ⟨True.intro, True.intro⟩⟩, (fun _ => True.intro)⟩, ⟨(by (exact fun h => h)), True.intro⟩, ⟨⟨True.intro, True.intro⟩, (fun _ => True.intro)⟩, ⟨⟨(by (exact fun h => h)), ⟨True.intro, True.intro⟩⟩, (fun _ => True.intro)⟩, ⟨(by (exact fun h => h)), True.intro⟩, ⟨⟨True.intro, True.intro⟩, (fun _ => True.intro)⟩, ⟨⟨(by (exact fun h => h)), ⟨True.intro, True.intro⟩⟩, (fun _ => True.intro)⟩, ⟨(by (exact fun h => h)), True.intro⟩, ⟨⟨True.intro, True.intro⟩, (fun _ => True.intro)⟩, ⟨⟨(by (exact fun h => h)), True.intro⟩, (fun _ => True.intro)⟩, ⟨⟨(by (exact fun h => h)), ⟨True.intro, True.intro⟩⟩, (fun _ => True.intro)⟩, ⟨(by (exact fun h => h)), True.intro⟩, ⟨⟨True.intro, True.intro⟩, (fun _ => True.intro)⟩, ⟨⟨(by (exact fun h => h)), ⟨True.intro, True.intro⟩⟩, (by (intro _; simp; done))⟩, ⟨⟨(by (exact fun h => h)), True.intro⟩, (fun _ => True.intro)⟩, ⟨⟨True.intro, ⟨True.intro, True.intro⟩⟩, (fun _ => True.intro)⟩, ⟨⟨(by (exact fun h => h)), ⟨(by (exact fun h => h)), True.intro⟩⟩, (fun _ => True.intro)⟩, ⟨(by (exact fun h => h)), True.intro⟩, ⟨⟨True.intro, True.intro⟩, (fun _ => True.intro)⟩, ⟨⟨(by (exact fun h => h)), ⟨True.intro, True.intro⟩⟩, (fun _ => True.intro)⟩, ⟨(by (exact fun h => h)), True.intro⟩, ⟨⟨True.intro, True.intro⟩, (fun _ => True.intro)⟩, ⟨⟨(by (exact fun h => h)), True.intro⟩, (fun _ => True.intro)⟩, ⟨⟨(by (exact fun h => h)), ⟨True.intro, True.intro⟩⟩, (fun _ => True.intro)⟩, ⟨(by (exact fun h => h)), True.intro⟩, ⟨⟨True.intro, True.intro⟩, (fun _ => True.intro)⟩, ⟨⟨(by (exact fun h => h)), ⟨True.intro, True.intro⟩⟩, (by (intro _; simp; done))⟩, ⟨⟨(by (exact fun h => h)), True.intro⟩, (fun _ => True.intro)⟩, ⟨⟨(by (exact fun h => h)), ⟨True.intro, True.intro⟩⟩, (fun _ => True.intro)⟩, ⟨(by (exact fun h => h)), True.intro⟩, ⟨⟨True.intro, True.intro⟩, (fun _ => True.intro)⟩, ⟨⟨(by (exact fun h => h)), True.intro⟩, (fun _ => True.intro)⟩, ⟨⟨(by (exact fun h => h)), ⟨True.intro, True.intro⟩⟩, (fun _ => True.intro)⟩, ⟨(by (exact fun h => h)), True.intro⟩, ⟨⟨True.intro, True.intro⟩, (fun _ => True.intro)⟩, ⟨⟨(by (exact fun h => h)), ⟨True.intro, True.intro⟩⟩, (by (intro _; simp; done))⟩, ⟨⟨(by (exact fun h => h)), True.intro⟩, (fun _ => True.intro)⟩, ⟨⟨True.intro, ⟨True.intro, True.intro⟩⟩, (fun _ => True.intro)⟩, ⟨⟨(by (exact fun h => h)), ⟨(by (exact fun h => h)), True.intro⟩⟩, (fun _ => True.intro)⟩, ⟨(by (exact fun h => h)), True.intro⟩, True.intro⟩ ?_; refine aops_nil (xt_n (hK _ ?_)); clear hK K
 refine aw_ret ?_
 refine rP (V.b true)
end Go.Proofs.YtepkjobndmmejaaGreatDoor

namespace Go.Ab
open Go.RowKit Go.Dw
section
variable {next : S → Prop} {Q : Exit → S → Prop} {s : S} {ch : List PanicEntry} {id : Nat}
end
section
variable {T : List TI} {P : Program}
end
end Go.Ab
