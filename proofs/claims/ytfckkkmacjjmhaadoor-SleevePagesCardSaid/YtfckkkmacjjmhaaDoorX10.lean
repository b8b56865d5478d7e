/-
  Several texts in one: The document's stacks of all valid folds. No condition. .. Runs of sheets: the walks of both copies. No condition but the length of a list that is in memory.
-/
import Derived.WalkLawsBesides
import Derived.Test.YtfckkkmacjjmhaaDoorSP2
import Derived.Test.YtfckkkmacjjmhaaDoorSP3
import Derived.Test.YtfckkkmacjjmhaaDoorSP4
import Derived.Test.YtfckkkmacjjmhaaDoorSP5
import Derived.Test.YtfckkkmacjjmhaaDoorSP6
import Derived.Test.YtfckkkmacjjmhaaDoorX02
import Derived.Test.YtfckkkmacjjmhaaDoorMC
import Derived.Test.YtfckkkmacjjmhaaDoorAbs42
import Derived.Test.YtfckkkmacjjmhaaDoorX03
import Derived.Test.YtfckkkmacjjmhaaDoorX01
import Derived.Test.YtfckkkmacjjmhaaDoorX00
namespace Go.Proofs.YtfckkkmacjjmhaaDoor
open Go.Ab Go.RowKit Go.Dw Go.Shelf
set_option maxRecDepth 100000
theorem stk_all (f : List Int) (h1 : f.length ≠ 0) (h5 : f.length ≤ 5) (hx : ∀ x ∈ f, x = 1 ∨ x = 2) : AC Tryd.prog 48 [V.ints f] (V.lfs (stkL f)) [] := by
 refine stk_of ?_
 match f, h1, h5, hx with
 | [], h, _, _ => exact absurd rfl h
 | [a], _, _, h =>
  rcases h a (by simp) with rfl | rfl
  ·
   exact s1
  ·
   exact s2
 | [a, b], _, _, h =>
  rcases h a (by simp) with rfl | rfl <;> rcases h b (by simp) with rfl | rfl
  ·
   exact s11
  ·
   exact s12
  ·
   exact s21
  ·
   exact s22
 | [a, b, c], _, _, h =>
  rcases h a (by simp) with rfl | rfl <;> rcases h b (by simp) with rfl | rfl <;> rcases h c (by simp) with rfl | rfl
  ·
   exact s111
  ·
   exact s112
  ·
   exact s121
  ·
   exact s122
  ·
   exact s211
  ·
   exact s212
  ·
   exact s221
  ·
   exact s222
 | [a, b, c, d], _, _, h =>
  rcases h a (by simp) with rfl | rfl <;> rcases h b (by simp) with rfl | rfl <;> rcases h c (by simp) with rfl | rfl <;> rcases h d (by simp) with rfl | rfl
  ·
   exact s1111
  ·
   exact s1112
  ·
   exact s1121
  ·
   exact s1122
  ·
   exact s1211
  ·
   exact s1212
  ·
   exact s1221
  ·
   exact s1222
  ·
   exact s2111
  ·
   exact s2112
  ·
   exact s2121
  ·
   exact s2122
  ·
   exact s2211
  ·
   exact s2212
  ·
   exact s2221
  ·
   exact s2222
 | [a, b, c, d, e], _, _, h =>
  rcases h a (by simp) with rfl | rfl <;> rcases h b (by simp) with rfl | rfl <;> rcases h c (by simp) with rfl | rfl <;> rcases h d (by simp) with rfl | rfl <;> rcases h e (by simp) with rfl | rfl
  ·
   exact s11111
  ·
   exact s11112
  ·
   exact s11121
  ·
   exact s11122
  ·
   exact s11211
  ·
   exact s11212
  ·
   exact s11221
  ·
   exact s11222
  ·
   exact s12111
  ·
   exact s12112
  ·
   exact s12121
  ·
   exact s12122
  ·
   exact s12211
  ·
   exact s12212
  ·
   exact s12221
  ·
   exact s12222
  ·
   exact s21111
  ·
   exact s21112
  ·
   exact s21121
  ·
   exact s21122
  ·
   exact s21211
  ·
   exact s21212
  ·
   exact s21221
  ·
   exact s21222
  ·
   exact s22111
  ·
   exact s22112
  ·
   exact s22121
  ·
   exact s22122
  ·
   exact s22211
  ·
   exact s22212
  ·
   exact s22221
  ·
   exact s22222
 | _ :: _ :: _ :: _ :: _ :: _ :: _, _, h, _ => exact absurd h (by simp)
end Go.Proofs.YtfckkkmacjjmhaaDoor

namespace Go.Proofs.YtfckkkmacjjmhaaDoor
open Go.Ab Go.RowKit Go.Dw Go.Shelf
theorem must_yes (k : Int) (w : World) : Calls Tryd.prog 83 #[.bool true, .int .i64 k] w fun e w' => e = .returned (.tuple #[]) ∧ w' = w := by
 go_enter Tryd.func83, Tryd.ntmps83
 go_wp2
 go_end0
 exact ⟨rfl, rfl⟩
theorem must_no (k : Int) (w : World) : Calls Tryd.prog 83 #[.bool false, .int .i64 k] w fun e w' => e = .panicked [{ v := .iface 123 (.int .i64 k), recovered := false }] ∧ w' = w := by
 go_enter Tryd.func83, Tryd.ntmps83
 go_wp2
 exact ⟨rfl, rfl, rfl⟩
theorem mustOk : MustOk Tryd.prog 83 123 := ⟨(⟨Tryd.func83, rfl, Tryd.ntmps83, kR⟩ : FnOk Tryd.prog 83 Tryd.f83 _ _).call, must_yes, must_no⟩
set_option maxRecDepth 100000 in
theorem flatD_idle (b c : Nat) (w : World) : CallsDIn Fence.wide 0 Tryd.prog 82 #[.pointer (some ⟨b, 0, none⟩), .pointer (some ⟨c, 0, none⟩)] .returning w fun e u' w' => (∃ v, e = .returned v) ∧ u' = .returning ∧ w' = w := by
 refine callsDIn_of_wpSIn Tryd.func82 rfl trivial fun c₀ cs hu => ?_
 apply wpSIn_seq
 apply wpSIn_region
 simp [wpOpsSIn, go_sem, recoverD, hu, Tryd.ntmps82, Exit.thenS, Fence.wide]
 apply wpSIn_seq
 apply wpSIn_region
 simp [wpOpsSIn, go_sem, recoverD, hu, Tryd.ntmps82, Exit.thenS, Fence.wide]
 refine wpSIn_cond (t := false) (by simp [Act.eval, Array.replicate]) ?_
 simp only [Bool.false_eq_true, if_false]
 refine wpSIn_of_wpIn rfl (wpIn_skip ?_)
 cases c₀
 simp_all [bodyPostS, results, Tryd.results82]
set_option maxRecDepth 100000 in
theorem flatD_catch (b c : Nat) (n : Int) (x y : Value) (w : World) (h1 : w.cell? ⟨b, 0, none⟩ = some x) (h2 : w.frozen? ⟨b, 0, none⟩ = false) (h3 : w.cell? ⟨c, 0, none⟩ = some y) (h4 : w.frozen? ⟨c, 0, none⟩ = false) (hbc : b ≠ c) :
  CallsDIn Fence.wide 0 Tryd.prog 82 #[.pointer (some ⟨b, 0, none⟩), .pointer (some ⟨c, 0, none⟩)] (.panicking [{ v := .iface 123 (.int .i64 n), recovered := false }]) w fun e u' w' =>
   (∃ v, e = .returned v) ∧ u' = .panicking [{ v := .iface 123 (.int .i64 n), recovered := true }] ∧ w' = (w.setCell ⟨b, 0, none⟩ (.slice none 0 0)).setCell ⟨c, 0, none⟩ (.int .i64 n) := by
 refine callsDIn_of_wpSIn Tryd.func82 rfl trivial fun c₀ cs hu => ?_
 apply wpSIn_seq
 apply wpSIn_region
 simp [wpOpsSIn, go_sem, recoverD, hu, Tryd.ntmps82, Exit.thenS, Fence.wide]
 apply wpSIn_seq
 apply wpSIn_region
 simp [wpOpsSIn, go_sem, recoverD, hu, Tryd.ntmps82, Exit.thenS, Fence.wide]
 refine wpSIn_cond (t := true) (by simp [Act.eval, Array.replicate]) ?_
 simp only [if_true]
 apply wpSIn_seq
 apply wpSIn_region
 simp [wpOpsSIn, go_sem, recoverD, hu, Tryd.ntmps82, Exit.thenS, Fence.wide]
 apply wpSIn_seq
 apply wpSIn_seq
 apply wpSIn_region
 simp [wpOpsSIn, go_sem, recoverD, hu, Tryd.ntmps82, Exit.thenS, Fence.wide]
 refine wpSIn_cond (t := false) (by simp [Act.eval, Array.replicate]) ?_
 simp only [Bool.false_eq_true, if_false]
 refine wpSIn_of_wpIn rfl (wpIn_skip ?_)
 simp only [Exit.thenS]
 apply wpSIn_region
 simp [wpOpsSIn, go_sem, h1, h2, h3, h4, bodyPostS, results, Tryd.results82, hbc]
end Go.Proofs.YtfckkkmacjjmhaaDoor

namespace Go.Proofs.YtfckkkmacjjmhaaDoor
open Go.Ab Go.RowKit Go.Dw Go.Shelf
set_option maxRecDepth 100000 in
theorem soutside_ac (n lo hi : Int) : AC Tryd.prog 59 [.i n, .i lo, .i hi] (.b (decide (n < lo) || decide (hi < n))) [] := by
 refine acI hTT hMX Tryd.func59 Tryd.ntmps59 fun C hC hF => ?_
 refine sK fun K hK => wR 2 ?_; refine aX hTT 1 [] tI ?_; refine nK hK ?_; clear hK K; refine sK fun K hK => wR 3 ?_; refine aX hTT 9 [(4, .c (gA (decide (n < lo) == false) True)), (5, .c (gA (decide (n < lo) == false) True)), (6, .c (gC (decide (n < lo) == false) True)), (7, .c (True ∧ (decide (n < lo) = false → (decide (n < lo) == false) = true)))] ⟨⟨⟨tI, tI⟩, (fun _ => tI)⟩, ⟨⟨tI, tI⟩, (fun _ => tI)⟩, ⟨⟨(by (exact fun h => h)), ⟨(by (exact fun h => h)), tI⟩⟩, (fun _ => tI)⟩, ⟨tI, (by (intro h; rw [h]; rfl))⟩, tI⟩ ?_; refine nK hK ?_; clear hK K
 refine aw_ret ?_
 refine rP (V.b (decide (n < lo) || decide (hi < n)))
set_option maxRecDepth 100000 in
theorem common_ac (a b : Rc) (ha : a.bd 1099511627776) (hb : b.bd 1099511627776) : AC Tryd.prog 65 [.agg a.c, .agg b.c] (.tup [.i (comW a b), .i (comH a b)]) [] := by
 obtain ⟨⟨a1, a2⟩, ⟨a3, a4⟩, ⟨a5, a6⟩, a7, a8⟩ := ha
 obtain ⟨⟨b1, b2⟩, ⟨b3, b4⟩, ⟨b5, b6⟩, b7, b8⟩ := hb
 refine acI hTT hMX Tryd.func65 Tryd.ntmps65 fun C hC hF => ?_
 refine sK fun K hK => wR 2 ?_; refine aX hTT 4 [] tI ?_; refine nK hK ?_; clear hK K; refine sK fun K hK => wD 3 ?_; refine aX hTT 32 [(14, .i (min (Rc.x1 a) (Rc.x1 b) - max (Rc.x0 a) (Rc.x0 b))), (29, .i (min (Rc.y1 a) (Rc.y1 b) - max (Rc.y0 a) (Rc.y0 b)))] ⟨oM, oM, tI⟩ ?_; refine aops_nil ⟨kR, ?_⟩; refine xt_n (hK _ ?_); clear hK K
 refine aw_ret ?_
 refine rP (V.tup [V.i (min (Rc.x1 a) (Rc.x1 b) - max (Rc.x0 a) (Rc.x0 b)), V.i (min (Rc.y1 a) (Rc.y1 b) - max (Rc.y0 a) (Rc.y0 b))])
end Go.Proofs.YtfckkkmacjjmhaaDoor

namespace Go.Proofs.YtfckkkmacjjmhaaDoor
open Go.Ab Go.RowKit Go.Dw Go.Shelf
theorem hang_eq {b : Rc} {p : Pan} {x y : Int} (hx : x = hangX b p) (hy : y = hangY b p) : [V.i x, V.i y, V.i (x + p.wide), V.i (y + p.high), V.b false] = (hangR b p).c := by
 rw [hx, hy]; rfl
set_option maxRecDepth 100000 in
theorem hang_ac (b : Rc) (p : Pan) (hb : b.bd 1073741824) (hp : p.szOk) (ho : -65536 ≤ p.off ∧ p.off ≤ 65536) : AC Tryd.prog 84 [.agg b.c, .agg p.c] (.agg (hangR b p).c) [] := by
 obtain ⟨⟨a1, a2⟩, ⟨a3, a4⟩, ⟨a5, a6⟩, a7, a8⟩ := hb
 obtain ⟨⟨s1, s2⟩, s3, s4⟩ := hp
 obtain ⟨o1, o2⟩ := ho
 refine acI hTT hMX Tryd.func84 Tryd.ntmps84 fun C hC hF => ?_
 refine sK fun K hK => wR 2 ?_; refine aX hTT 3 [(2, .r (pn 4 (V.ref 100004 0) (100004 : Nat) (Ob.box 95 [V.i 0, V.i 0, V.i 0, V.i 0, V.b false])))] tI ?_; refine nK hK ?_; clear hK K; refine sK fun K hK => wD 3 ?_
 refine aops_n hTT (M := []) (n := 14) [pv 7 (V.ptr [V.i (Rc.x0 b), V.i (Rc.y0 b), V.i (Rc.x1 b), V.i (Rc.y1 b), V.b (Rc.down b)]), pv 8 (V.ptr [V.i (Rc.x0 b), V.i (Rc.y0 b), V.i (Rc.x1 b), V.i (Rc.y1 b), V.b (Rc.down b)]), pv 9 (V.i (Rc.x0 b)), pv 10 (V.ptr [V.i (Pan.off p), V.i (Pan.wide p), V.i (Pan.high p)]), pv 11 (V.i (Pan.off p)), pc 12 ((-9223372036854775808 : Int) ≤ Rc.x0 b + Pan.off p ∧ Rc.x0 b + Pan.off p ≤ 9223372036854775807) (V.i (Rc.x0 b + Pan.off p)), pv 13 (V.ptr [V.i (Rc.x0 b), V.i (Rc.y0 b), V.i (Rc.x1 b), V.i (Rc.y1 b), V.b (Rc.down b)]), pv 14 (V.ptr [V.i (Rc.y0 b), V.i (Rc.x1 b), V.i (Rc.y1 b), V.b (Rc.down b)]), pv 15 (V.i (Rc.y0 b)), pv 16 (V.ptr [V.i (Pan.off p), V.i (Pan.wide p), V.i (Pan.high p)]), pv 17 (V.i (Pan.off p)), pc 18 ((-9223372036854775808 : Int) ≤ Rc.y0 b + Pan.off p ∧ Rc.y0 b + Pan.off p ≤ 9223372036854775807) (V.i (Rc.y0 b + Pan.off p)), pv 5 (V.i (Rc.x0 b + Pan.off p)), pv 6 (V.i (Rc.y0 b + Pan.off p))] kR kR ⟨oM, oM, tI⟩ ?_
 refine aops_nil ⟨kR, ?_⟩; refine xt_n (hK _ ?_); clear hK K; refine sK fun K hK => ?_; refine sK fun K hK => wR 4 ?_; refine aX hTT 2 [] tI ?_; refine nK hK ?_; clear hK K
 refine aw_block ?_
 refine sK fun K hK => wR 5 ?_; refine aX hTT 2 [] tI ?_; refine nK hK ?_; clear hK K
 refine w_cond (t := decide (Pan.edge p = 0)) kR (fun c0 => ?_) (fun c0 => ?_)
 ·
  simp at c0
  refine wR 6 ?_; refine aX hTT 4 [] tI ?_; refine aops_nil ?_; refine xb_n ?_; refine xt_n (hK _ ?_); clear hK K; refine sK fun K hK => wR 7 ?_; refine aX hTT 13 [(5, .i (Rc.x1 b + Pan.wide p)), (9, .i (Rc.y0 b + Pan.off p + Pan.high p)), (12, .r (pw ((0 : Nat) + (5 : Nat) ≤ (5 : Nat)) (100004 : Nat) (Ob.box 95 [V.i (Rc.x1 b), V.i (Rc.y0 b + Pan.off p), V.i (Rc.x1 b + Pan.wide p), V.i (Rc.y0 b + Pan.off p + Pan.high p), V.b false])))] ⟨oM, oM, oM, tI⟩ ?_; refine nK hK ?_; clear hK K
  refine aw_ret ?_
  refine ret_of_le (le_freezeBox (t := (95 : Nat)) (cs := [V.i (Rc.x1 b), V.i (Rc.y0 b + Pan.off p), V.i (Rc.x1 b + Pan.wide p), V.i (Rc.y0 b + Pan.off p + Pan.high p), V.b false]) 100004 kR kR) ?_
  rw [← hang_eq (b := b) (p := p) rfl rfl, show hangX b p = b.x1 by simp [hangX, c0], show hangY b p = b.y0 + p.off by simp [hangY, c0]]
  refine rP (V.agg [V.i (Rc.x1 b), V.i (Rc.y0 b + Pan.off p), V.i (Rc.x1 b + Pan.wide p), V.i (Rc.y0 b + Pan.off p + Pan.high p), V.b false])
 simp at c0
 refine sK fun K hK => wR 6 ?_; refine aX hTT 2 [] tI ?_; refine nK hK ?_; clear hK K
 refine w_cond (t := decide (Pan.edge p = 1)) kR (fun c1 => ?_) (fun c1 => ?_)
 ·
  simp at c1
  refine wR 7 ?_; refine aX hTT 4 [] tI ?_; refine aops_nil ?_; refine xb_n ?_; refine xt_n (hK _ ?_); clear hK K; refine sK fun K hK => wR 8 ?_; refine aX hTT 13 [(5, .i (Rc.x0 b + Pan.off p + Pan.wide p)), (9, .i (Rc.y1 b + Pan.high p)), (12, .r (pw ((0 : Nat) + (5 : Nat) ≤ (5 : Nat)) (100004 : Nat) (Ob.box 95 [V.i (Rc.x0 b + Pan.off p), V.i (Rc.y1 b), V.i (Rc.x0 b + Pan.off p + Pan.wide p), V.i (Rc.y1 b + Pan.high p), V.b false])))] ⟨oM, oM, oM, tI⟩ ?_; refine nK hK ?_; clear hK K
  refine aw_ret ?_
  refine ret_of_le (le_freezeBox (t := (95 : Nat)) (cs := [V.i (Rc.x0 b + Pan.off p), V.i (Rc.y1 b), V.i (Rc.x0 b + Pan.off p + Pan.wide p), V.i (Rc.y1 b + Pan.high p), V.b false]) 100004 kR kR) ?_
  rw [← hang_eq (b := b) (p := p) rfl rfl, show hangX b p = b.x0 + p.off by simp [hangX, c1], show hangY b p = b.y1 by simp [hangY, c1]]
  refine rP (V.agg [V.i (Rc.x0 b + Pan.off p), V.i (Rc.y1 b), V.i (Rc.x0 b + Pan.off p + Pan.wide p), V.i (Rc.y1 b + Pan.high p), V.b false])
 simp at c1
 refine sK fun K hK => wR 7 ?_; refine aX hTT 2 [] tI ?_; refine nK hK ?_; clear hK K
 refine w_cond (t := decide (Pan.edge p = 2)) kR (fun c2 => ?_) (fun c2 => ?_)
 ·
  simp at c2
  refine wR 8 ?_; refine aX hTT 7 [(5, .i (Rc.x0 b - Pan.wide p))] ⟨oM, tI⟩ ?_; refine aops_nil ?_; refine xb_n ?_; refine xt_n (hK _ ?_); clear hK K; refine sK fun K hK => wR 9 ?_; refine aX hTT 13 [(5, .i (Rc.x0 b - Pan.wide p + Pan.wide p)), (9, .i (Rc.y0 b + Pan.off p + Pan.high p)), (12, .r (pw ((0 : Nat) + (5 : Nat) ≤ (5 : Nat)) (100004 : Nat) (Ob.box 95 [V.i (Rc.x0 b - Pan.wide p), V.i (Rc.y0 b + Pan.off p), V.i (Rc.x0 b - Pan.wide p + Pan.wide p), V.i (Rc.y0 b + Pan.off p + Pan.high p), V.b false])))] ⟨oM, oM, oM, tI⟩ ?_; refine nK hK ?_; clear hK K
  refine aw_ret ?_
  refine ret_of_le (le_freezeBox (t := (95 : Nat)) (cs := [V.i (Rc.x0 b - Pan.wide p), V.i (Rc.y0 b + Pan.off p), V.i (Rc.x0 b - Pan.wide p + Pan.wide p), V.i (Rc.y0 b + Pan.off p + Pan.high p), V.b false]) 100004 kR kR) ?_
  rw [← hang_eq (b := b) (p := p) rfl rfl, show hangX b p = b.x0 - p.wide by simp [hangX, c2], show hangY b p = b.y0 + p.off by simp [hangY, c2]]
  refine rP (V.agg [V.i (Rc.x0 b - Pan.wide p), V.i (Rc.y0 b + Pan.off p), V.i (Rc.x0 b - Pan.wide p + Pan.wide p), V.i (Rc.y0 b + Pan.off p + Pan.high p), V.b false])
 simp at c2
 refine sK fun K hK => wR 8 ?_; refine aX hTT 2 [] tI ?_; refine nK hK ?_; clear hK K
 refine w_cond (t := decide (Pan.edge p = 3)) kR (fun c3 => ?_) (fun c3 => ?_)
 ·
  simp at c3
  refine wR 9 ?_
  refine aops_n hTT (M := []) (n := 7) [pv 41 (V.ptr [V.i (Rc.x0 b), V.i (Rc.y0 b), V.i (Rc.x1 b), V.i (Rc.y1 b), V.b (Rc.down b)]), pv 42 (V.ptr [V.i (Rc.y0 b), V.i (Rc.x1 b), V.i (Rc.y1 b), V.b (Rc.down b)]), pv 43 (V.i (Rc.y0 b)), pv 44 (V.ptr [V.i (Pan.high p)]), pv 45 (V.i (Pan.high p)), pc 46 ((-9223372036854775808 : Int) ≤ Rc.y0 b - Pan.high p ∧ Rc.y0 b - Pan.high p ≤ 9223372036854775807) (V.i (Rc.y0 b - Pan.high p)), pv 6 (V.i (Rc.y0 b - Pan.high p))] kR kR ⟨oM, tI⟩ ?_
  refine aops_nil ?_; refine xb_n ?_; refine xt_n (hK _ ?_); clear hK K; refine sK fun K hK => wR 10 ?_
  refine aops_n hTT (M := []) (n := 13) [pv 47 (V.i (Rc.x0 b + Pan.off p)), pv 48 (V.i (Rc.y0 b - Pan.high p)), pv 49 (V.i (Rc.x0 b + Pan.off p)), pv 50 (V.ptr [V.i (Pan.wide p), V.i (Pan.high p)]), pv 51 (V.i (Pan.wide p)), pc 52 ((-9223372036854775808 : Int) ≤ Rc.x0 b + Pan.off p + Pan.wide p ∧ Rc.x0 b + Pan.off p + Pan.wide p ≤ 9223372036854775807) (V.i (Rc.x0 b + Pan.off p + Pan.wide p)), pv 53 (V.i (Rc.y0 b - Pan.high p)), pv 54 (V.ptr [V.i (Pan.high p)]), pv 55 (V.i (Pan.high p)), pc 56 ((-9223372036854775808 : Int) ≤ Rc.y0 b - Pan.high p + Pan.high p ∧ Rc.y0 b - Pan.high p + Pan.high p ≤ 9223372036854775807) (V.i (Rc.y0 b - Pan.high p + Pan.high p)), pv 57 (V.agg [V.i (Rc.x0 b + Pan.off p), V.i (Rc.y0 b - Pan.high p), V.i (Rc.x0 b + Pan.off p + Pan.wide p), V.i (Rc.y0 b - Pan.high p + Pan.high p), V.b false]), pv 58 (V.agg [V.i (Rc.x0 b + Pan.off p), V.i (Rc.y0 b - Pan.high p), V.i (Rc.x0 b + Pan.off p + Pan.wide p), V.i (Rc.y0 b - Pan.high p + Pan.high p), V.b false]), pw ((0 : Nat) + (5 : Nat) ≤ (5 : Nat)) (100004 : Nat) (Ob.box 95 [V.i (Rc.x0 b + Pan.off p), V.i (Rc.y0 b - Pan.high p), V.i (Rc.x0 b + Pan.off p + Pan.wide p), V.i (Rc.y0 b - Pan.high p + Pan.high p), V.b false])] kR kR ⟨oM, oM, oM, tI⟩ ?_
  refine nK hK ?_; clear hK K
  refine aw_ret ?_
  refine ret_of_le (le_freezeBox (t := (95 : Nat)) (cs := [V.i (Rc.x0 b + Pan.off p), V.i (Rc.y0 b - Pan.high p), V.i (Rc.x0 b + Pan.off p + Pan.wide p), V.i (Rc.y0 b - Pan.high p + Pan.high p), V.b false]) 100004 kR kR) ?_
  rw [← hang_eq (b := b) (p := p) rfl rfl, show hangX b p = b.x0 + p.off by simp [hangX, c3], show hangY b p = b.y0 - p.high by simp [hangY, c3]]
  refine rP (V.agg [V.i (Rc.x0 b + Pan.off p), V.i (Rc.y0 b - Pan.high p), V.i (Rc.x0 b + Pan.off p + Pan.wide p), V.i (Rc.y0 b - Pan.high p + Pan.high p), V.b false])
 simp at c3
 refine aw_skip ?_
 refine xb_n ?_; refine xt_n (hK _ ?_); clear hK K; refine sK fun K hK => wR 9 ?_; refine aX hTT 13 [(5, .i (Rc.x0 b + Pan.off p + Pan.wide p)), (9, .i (Rc.y0 b + Pan.off p + Pan.high p)), (12, .r (pw ((0 : Nat) + (5 : Nat) ≤ (5 : Nat)) (100004 : Nat) (Ob.box 95 [V.i (Rc.x0 b + Pan.off p), V.i (Rc.y0 b + Pan.off p), V.i (Rc.x0 b + Pan.off p + Pan.wide p), V.i (Rc.y0 b + Pan.off p + Pan.high p), V.b false])))] ⟨oM, oM, oM, tI⟩ ?_; refine nK hK ?_; clear hK K
 refine aw_ret ?_
 refine ret_of_le (le_freezeBox (t := (95 : Nat)) (cs := [V.i (Rc.x0 b + Pan.off p), V.i (Rc.y0 b + Pan.off p), V.i (Rc.x0 b + Pan.off p + Pan.wide p), V.i (Rc.y0 b + Pan.off p + Pan.high p), V.b false]) 100004 kR kR) ?_
 rw [← hang_eq (b := b) (p := p) rfl rfl, show hangX b p = b.x0 + p.off by simp [hangX, c0, c2], show hangY b p = b.y0 + p.off by simp [hangY, c1, c3]]
 refine rP (V.agg [V.i (Rc.x0 b + Pan.off p), V.i (Rc.y0 b + Pan.off p), V.i (Rc.x0 b + Pan.off p + Pan.wide p), V.i (Rc.y0 b + Pan.off p + Pan.high p), V.b false])
abbrev qSN30 : Prop := (0 : Nat) ≤ (5 : Nat)
theorem qSN30_ : qSN30 := oM
set_option maxRecDepth 100000 in
theorem flipX_ac (a : Rc) (x : Int) (ha : a.bd 1099511627776) (hx : -1099511627776 ≤ x ∧ x ≤ 1099511627776) : AC Tryd.prog 88 [.agg a.c, .i x] (.agg (flipXR a x).c) [] := by
 obtain ⟨⟨a1, a2⟩, ⟨a3, a4⟩, ⟨a5, a6⟩, a7, a8⟩ := ha
 obtain ⟨x1, x2⟩ := hx
 refine acI hTT hMX Tryd.func88 Tryd.ntmps88 fun C hC hF => ?_
 refine sK fun K hK => wR 2 ?_
 refine aops_x (M := [2]) hTT 2 [(0, .r (pn 2 (V.ref 100002 0) (100002 : Nat) (Ob.box 95 [V.i (Rc.x0 a), V.i (Rc.y0 a), V.i (Rc.x1 a), V.i (Rc.y1 a), V.b (Rc.down a)]))), (1, .r (pn 4 (V.ref 100004 0) (100004 : Nat) (Ob.box 95 [V.i 0, V.i 0, V.i 0, V.i 0, V.b false])))] tI ?_
 refine nK hK ?_; clear hK K; refine sK fun K hK => wR 3 ?_
 refine aops_x (M := [2]) hTT 18 [(1, .i ((2 : Int) * x)), (4, .c ((2 : Nat) ≤ (5 : Nat))), (5, .i ((2 : Int) * x - Rc.x1 a)), (7, .i ((2 : Int) * x)), (10, .c qSN30), (11, .i ((2 : Int) * x - Rc.x0 a)), (14, .r (pw ((0 : Nat) + (1 : Nat) ≤ (5 : Nat)) (100002 : Nat) (Ob.box 95 [V.i ((2 : Int) * x - Rc.x1 a), V.i (Rc.y0 a), V.i (Rc.x1 a), V.i (Rc.y1 a), V.b (Rc.down a)]))), (17, .r (pw ((2 : Nat) + (1 : Nat) ≤ (5 : Nat)) (100002 : Nat) (Ob.box 95 [V.i ((2 : Int) * x - Rc.x1 a), V.i (Rc.y0 a), V.i ((2 : Int) * x - Rc.x0 a), V.i (Rc.y1 a), V.b (Rc.down a)])))] ⟨oM, oM, oM, oM, qSN30_, oM, oM, oM, tI⟩ ?_
 refine nK hK ?_; clear hK K; refine sK fun K hK => wR 4 ?_
 refine aops_x (M := [2]) hTT 2 [(0, .c qSN30), (1, .r (pw ((0 : Nat) + (5 : Nat) ≤ (5 : Nat)) (100004 : Nat) (Ob.box 95 [V.i ((2 : Int) * x - Rc.x1 a), V.i (Rc.y0 a), V.i ((2 : Int) * x - Rc.x0 a), V.i (Rc.y1 a), V.b (Rc.down a)])))] ⟨qSN30_, oM, tI⟩ ?_
 refine nK hK ?_; clear hK K
 refine aw_ret ?_
 refine ret_of_le (le_freezeBox (t := (95 : Nat)) (cs := [V.i ((2 : Int) * x - Rc.x1 a), V.i (Rc.y0 a), V.i ((2 : Int) * x - Rc.x0 a), V.i (Rc.y1 a), V.b (Rc.down a)]) 100004 kR kR) ?_
 refine rP (V.agg [V.i ((2 : Int) * x - Rc.x1 a), V.i (Rc.y0 a), V.i ((2 : Int) * x - Rc.x0 a), V.i (Rc.y1 a), V.b (Rc.down a)])
set_option maxRecDepth 100000 in
theorem flipY_ac (a : Rc) (x : Int) (ha : a.bd 1099511627776) (hx : -1099511627776 ≤ x ∧ x ≤ 1099511627776) : AC Tryd.prog 89 [.agg a.c, .i x] (.agg (flipYR a x).c) [] := by
 obtain ⟨⟨a1, a2⟩, ⟨a3, a4⟩, ⟨a5, a6⟩, a7, a8⟩ := ha
 obtain ⟨x1, x2⟩ := hx
 refine acI hTT hMX Tryd.func89 Tryd.ntmps89 fun C hC hF => ?_
 refine sK fun K hK => wR 2 ?_
 refine aops_x (M := [2]) hTT 2 [(0, .r (pn 2 (V.ref 100002 0) (100002 : Nat) (Ob.box 95 [V.i (Rc.x0 a), V.i (Rc.y0 a), V.i (Rc.x1 a), V.i (Rc.y1 a), V.b (Rc.down a)]))), (1, .r (pn 4 (V.ref 100004 0) (100004 : Nat) (Ob.box 95 [V.i 0, V.i 0, V.i 0, V.i 0, V.b false])))] tI ?_
 refine nK hK ?_; clear hK K; refine sK fun K hK => wR 3 ?_
 refine aops_x (M := [2]) hTT 18 [(1, .i ((2 : Int) * x)), (4, .c ((3 : Nat) ≤ (5 : Nat))), (5, .i ((2 : Int) * x - Rc.y1 a)), (7, .i ((2 : Int) * x)), (10, .c ((1 : Nat) ≤ (5 : Nat))), (11, .i ((2 : Int) * x - Rc.y0 a)), (14, .r (pw ((1 : Nat) + (1 : Nat) ≤ (5 : Nat)) (100002 : Nat) (Ob.box 95 [V.i (Rc.x0 a), V.i ((2 : Int) * x - Rc.y1 a), V.i (Rc.x1 a), V.i (Rc.y1 a), V.b (Rc.down a)]))), (17, .r (pw ((3 : Nat) + (1 : Nat) ≤ (5 : Nat)) (100002 : Nat) (Ob.box 95 [V.i (Rc.x0 a), V.i ((2 : Int) * x - Rc.y1 a), V.i (Rc.x1 a), V.i ((2 : Int) * x - Rc.y0 a), V.b (Rc.down a)])))] ⟨oM, oM, oM, oM, oM, oM, oM, oM, tI⟩ ?_
 refine nK hK ?_; clear hK K; refine sK fun K hK => wR 4 ?_
 refine aops_x (M := [2]) hTT 2 [(0, .c qSN30), (1, .r (pw ((0 : Nat) + (5 : Nat) ≤ (5 : Nat)) (100004 : Nat) (Ob.box 95 [V.i (Rc.x0 a), V.i ((2 : Int) * x - Rc.y1 a), V.i (Rc.x1 a), V.i ((2 : Int) * x - Rc.y0 a), V.b (Rc.down a)])))] ⟨qSN30_, oM, tI⟩ ?_
 refine nK hK ?_; clear hK K
 refine aw_ret ?_
 refine ret_of_le (le_freezeBox (t := (95 : Nat)) (cs := [V.i (Rc.x0 a), V.i ((2 : Int) * x - Rc.y1 a), V.i (Rc.x1 a), V.i ((2 : Int) * x - Rc.y0 a), V.b (Rc.down a)]) 100004 kR kR) ?_
 refine rP (V.agg [V.i (Rc.x0 a), V.i ((2 : Int) * x - Rc.y1 a), V.i (Rc.x1 a), V.i ((2 : Int) * x - Rc.y0 a), V.b (Rc.down a)])
set_option maxRecDepth 100000 in
theorem over_ac (a b : Rc) (e : Int) (ha : a.bd 1099511627776) (hb : b.bd 1099511627776) : AC Tryd.prog 81 [.agg a.c, .agg b.c, .i e] (.agg (mirR a b e).c) [] := by
 have hb' := hb
 obtain ⟨⟨b1, b2⟩, ⟨b3, b4⟩, ⟨b5, b6⟩, b7, b8⟩ := hb'
 refine acI hTT hMX Tryd.func81 Tryd.ntmps81 fun C hC hF => ?_
 refine sK fun K hK => wR 2 ?_; refine aX hTT 3 [(2, .r (pn 6 (V.ref 100006 0) (100006 : Nat) (Ob.box 95 [V.i 0, V.i 0, V.i 0, V.i 0, V.b false])))] tI ?_; refine nK hK ?_; clear hK K; refine sK fun K hK => wD 3 ?_
 refine aops_n hTT (M := []) (n := 7) [pv 10 (V.agg [V.i (Rc.x0 a), V.i (Rc.y0 a), V.i (Rc.x1 a), V.i (Rc.y1 a), V.b (Rc.down a)]), pv 11 (V.fn (Fn.func (88 : Nat)) [V.agg [V.i (Rc.x0 a), V.i (Rc.y0 a), V.i (Rc.x1 a), V.i (Rc.y1 a), V.b (Rc.down a)]] []), pv 12 (V.ptr [V.i (Rc.x0 b), V.i (Rc.y0 b), V.i (Rc.x1 b), V.i (Rc.y1 b), V.b (Rc.down b)]), pv 13 (V.ptr [V.i (Rc.x1 b), V.i (Rc.y1 b), V.b (Rc.down b)]), pv 14 (V.i (Rc.x1 b)), pv 7 (V.fn (Fn.func (88 : Nat)) [V.agg [V.i (Rc.x0 a), V.i (Rc.y0 a), V.i (Rc.x1 a), V.i (Rc.y1 a), V.b (Rc.down a)]] []), pv 8 (V.i (Rc.x1 b))] kR kR tI ?_
 refine aops_nil ⟨kR, ?_⟩; refine xt_n (hK _ ?_); clear hK K; refine sK fun K hK => ?_; refine sK fun K hK => wR 4 ?_; refine aX hTT 1 [] tI ?_; refine nK hK ?_; clear hK K
 refine aw_block ?_
 refine sK fun K hK => wR 5 ?_; refine aX hTT 2 [] tI ?_; refine nK hK ?_; clear hK K
 refine w_cond (t := decide (e = 1)) kR (fun c1 => ?_) (fun c1 => ?_)
 ·
  simp at c1
  refine wD 6 ?_
  refine aops_n hTT (M := []) (n := 7) [pv 18 (V.agg [V.i (Rc.x0 a), V.i (Rc.y0 a), V.i (Rc.x1 a), V.i (Rc.y1 a), V.b (Rc.down a)]), pv 19 (V.fn (Fn.func (89 : Nat)) [V.agg [V.i (Rc.x0 a), V.i (Rc.y0 a), V.i (Rc.x1 a), V.i (Rc.y1 a), V.b (Rc.down a)]] []), pv 20 (V.ptr [V.i (Rc.x0 b), V.i (Rc.y0 b), V.i (Rc.x1 b), V.i (Rc.y1 b), V.b (Rc.down b)]), pv 21 (V.ptr [V.i (Rc.y1 b), V.b (Rc.down b)]), pv 22 (V.i (Rc.y1 b)), pv 7 (V.fn (Fn.func (89 : Nat)) [V.agg [V.i (Rc.x0 a), V.i (Rc.y0 a), V.i (Rc.x1 a), V.i (Rc.y1 a), V.b (Rc.down a)]] []), pv 8 (V.i (Rc.y1 b))] kR kR tI ?_
  refine aops_nil ⟨kR, ?_⟩; refine xb_n ?_; refine xt_n (hK _ ?_); clear hK K; refine sK fun K hK => wR 7 ?_; refine aX hTT 2 [] tI ?_
  refine e_call (first := [V.agg [V.i (Rc.x0 a), V.i (Rc.y0 a), V.i (Rc.x1 a), V.i (Rc.y1 a), V.b (Rc.down a)]]) (caps := []) (flipY_ac a b.y1 ha ⟨b7, b8⟩) kR kR kR kR kR ?_
  refine aX hTT 2 [(0, .r (pn 9 (V.ref 600009 0) (600009 : Nat) (Ob.box 95 [V.i 0, V.i 0, V.i 0, V.i 0, V.b false]))), (1, .r (pw ((0 : Nat) + (5 : Nat) ≤ (5 : Nat)) (600009 : Nat) (Ob.box 95 [V.i (Rc.x0 (flipYR a (Rc.y1 b))), V.i (Rc.y0 (flipYR a (Rc.y1 b))), V.i (Rc.x1 (flipYR a (Rc.y1 b))), V.i (Rc.y1 (flipYR a (Rc.y1 b))), V.b (Rc.down (flipYR a (Rc.y1 b)))])))] ⟨oM, tI⟩ ?_; refine nK hK ?_; clear hK K; refine sK fun K hK => wR 8 ?_; refine aX hTT 7 [(6, .r (pw ((4 : Nat) + (1 : Nat) ≤ (5 : Nat)) (600009 : Nat) (Ob.box 95 [V.i (Rc.x0 (flipYR a (Rc.y1 b))), V.i (Rc.y0 (flipYR a (Rc.y1 b))), V.i (Rc.x1 (flipYR a (Rc.y1 b))), V.i (Rc.y1 (flipYR a (Rc.y1 b))), V.b !Rc.down a])))] ⟨oM, tI⟩ ?_; refine nK hK ?_; clear hK K; refine sK fun K hK => wR 9 ?_; refine aX hTT 2 [(0, .c qSN30), (1, .r (pw ((0 : Nat) + (5 : Nat) ≤ (5 : Nat)) (100006 : Nat) (Ob.box 95 [V.i (Rc.x0 (flipYR a (Rc.y1 b))), V.i (Rc.y0 (flipYR a (Rc.y1 b))), V.i (Rc.x1 (flipYR a (Rc.y1 b))), V.i (Rc.y1 (flipYR a (Rc.y1 b))), V.b !Rc.down a])))] ⟨qSN30_, oM, tI⟩ ?_; refine nK hK ?_; clear hK K
  refine aw_ret ?_
  refine ret_of_le (le_freezeBox (t := (95 : Nat)) (cs := [V.i (Rc.x0 (flipYR a (Rc.y1 b))), V.i (Rc.y0 (flipYR a (Rc.y1 b))), V.i (Rc.x1 (flipYR a (Rc.y1 b))), V.i (Rc.y1 (flipYR a (Rc.y1 b))), V.b !Rc.down a]) 100006 kR kR) ?_
  rw [show mirR a b e = ⟨a.x0, 2 * b.y1 - a.y1, a.x1, 2 * b.y1 - a.y0, !a.down⟩ by simp [mirR, c1]]
  refine rP (V.agg [V.i (Rc.x0 (flipYR a (Rc.y1 b))), V.i (Rc.y0 (flipYR a (Rc.y1 b))), V.i (Rc.x1 (flipYR a (Rc.y1 b))), V.i (Rc.y1 (flipYR a (Rc.y1 b))), V.b !Rc.down a])
 simp at c1
 refine sK fun K hK => wR 6 ?_; refine aX hTT 2 [] tI ?_; refine nK hK ?_; clear hK K
 refine w_cond (t := decide (e = 2)) kR (fun c2 => ?_) (fun c2 => ?_)
 ·
  simp at c2
  refine wR 7 ?_; refine aX hTT 4 [] tI ?_; refine aops_nil ?_; refine xb_n ?_; refine xt_n (hK _ ?_); clear hK K; refine sK fun K hK => wR 8 ?_; refine aX hTT 2 [] tI ?_
  refine e_call (first := [V.agg [V.i (Rc.x0 a), V.i (Rc.y0 a), V.i (Rc.x1 a), V.i (Rc.y1 a), V.b (Rc.down a)]]) (caps := []) (flipX_ac a b.x0 ha ⟨b1, b2⟩) kR kR kR kR kR ?_
  refine aX hTT 2 [(0, .r (pn 9 (V.ref 700009 0) (700009 : Nat) (Ob.box 95 [V.i 0, V.i 0, V.i 0, V.i 0, V.b false]))), (1, .r (pw ((0 : Nat) + (5 : Nat) ≤ (5 : Nat)) (700009 : Nat) (Ob.box 95 [V.i (Rc.x0 (flipXR a (Rc.x0 b))), V.i (Rc.y0 (flipXR a (Rc.x0 b))), V.i (Rc.x1 (flipXR a (Rc.x0 b))), V.i (Rc.y1 (flipXR a (Rc.x0 b))), V.b (Rc.down (flipXR a (Rc.x0 b)))])))] ⟨oM, tI⟩ ?_; refine nK hK ?_; clear hK K; refine sK fun K hK => wR 9 ?_; refine aX hTT 7 [(6, .r (pw ((4 : Nat) + (1 : Nat) ≤ (5 : Nat)) (700009 : Nat) (Ob.box 95 [V.i (Rc.x0 (flipXR a (Rc.x0 b))), V.i (Rc.y0 (flipXR a (Rc.x0 b))), V.i (Rc.x1 (flipXR a (Rc.x0 b))), V.i (Rc.y1 (flipXR a (Rc.x0 b))), V.b !Rc.down a])))] ⟨oM, tI⟩ ?_; refine nK hK ?_; clear hK K; refine sK fun K hK => wR 10 ?_
  refine aops_n hTT (M := []) (n := 2) [pc 44 ((0 : Nat) ≤ (5 : Nat)) (V.agg [V.i (Rc.x0 (flipXR a (Rc.x0 b))), V.i (Rc.y0 (flipXR a (Rc.x0 b))), V.i (Rc.x1 (flipXR a (Rc.x0 b))), V.i (Rc.y1 (flipXR a (Rc.x0 b))), V.b !Rc.down a]), pw ((0 : Nat) + (5 : Nat) ≤ (5 : Nat)) (100006 : Nat) (Ob.box 95 [V.i (Rc.x0 (flipXR a (Rc.x0 b))), V.i (Rc.y0 (flipXR a (Rc.x0 b))), V.i (Rc.x1 (flipXR a (Rc.x0 b))), V.i (Rc.y1 (flipXR a (Rc.x0 b))), V.b !Rc.down a])] kR kR ⟨oM, oM, tI⟩ ?_
  refine nK hK ?_; clear hK K
  refine aw_ret ?_
  refine ret_of_le (le_freezeBox (t := (95 : Nat)) (cs := [V.i (Rc.x0 (flipXR a (Rc.x0 b))), V.i (Rc.y0 (flipXR a (Rc.x0 b))), V.i (Rc.x1 (flipXR a (Rc.x0 b))), V.i (Rc.y1 (flipXR a (Rc.x0 b))), V.b !Rc.down a]) 100006 kR kR) ?_
  rw [show mirR a b e = ⟨2 * b.x0 - a.x1, a.y0, 2 * b.x0 - a.x0, a.y1, !a.down⟩ by simp [mirR, c2]]
  refine rP (V.agg [V.i (Rc.x0 (flipXR a (Rc.x0 b))), V.i (Rc.y0 (flipXR a (Rc.x0 b))), V.i (Rc.x1 (flipXR a (Rc.x0 b))), V.i (Rc.y1 (flipXR a (Rc.x0 b))), V.b !Rc.down a])
 simp at c2
 refine sK fun K hK => wR 7 ?_; refine aX hTT 2 [] tI ?_; refine nK hK ?_; clear hK K
 refine w_cond (t := decide (e = 3)) kR (fun c3 => ?_) (fun c3 => ?_)
 ·
  simp at c3
  refine wD 8 ?_
  refine aops_n hTT (M := []) (n := 7) [pv 30 (V.agg [V.i (Rc.x0 a), V.i (Rc.y0 a), V.i (Rc.x1 a), V.i (Rc.y1 a), V.b (Rc.down a)]), pv 31 (V.fn (Fn.func (89 : Nat)) [V.agg [V.i (Rc.x0 a), V.i (Rc.y0 a), V.i (Rc.x1 a), V.i (Rc.y1 a), V.b (Rc.down a)]] []), pv 32 (V.ptr [V.i (Rc.x0 b), V.i (Rc.y0 b), V.i (Rc.x1 b), V.i (Rc.y1 b), V.b (Rc.down b)]), pv 33 (V.ptr [V.i (Rc.y0 b), V.i (Rc.x1 b), V.i (Rc.y1 b), V.b (Rc.down b)]), pv 34 (V.i (Rc.y0 b)), pv 7 (V.fn (Fn.func (89 : Nat)) [V.agg [V.i (Rc.x0 a), V.i (Rc.y0 a), V.i (Rc.x1 a), V.i (Rc.y1 a), V.b (Rc.down a)]] []), pv 8 (V.i (Rc.y0 b))] kR kR tI ?_
  refine aops_nil ⟨kR, ?_⟩; refine xb_n ?_; refine xt_n (hK _ ?_); clear hK K; refine sK fun K hK => wR 9 ?_; refine aX hTT 2 [] tI ?_
  refine e_call (first := [V.agg [V.i (Rc.x0 a), V.i (Rc.y0 a), V.i (Rc.x1 a), V.i (Rc.y1 a), V.b (Rc.down a)]]) (caps := []) (flipY_ac a b.y0 ha ⟨b3, b4⟩) kR kR kR kR kR ?_
  refine aX hTT 2 [(0, .r (pn 9 (V.ref 800009 0) (800009 : Nat) (Ob.box 95 [V.i 0, V.i 0, V.i 0, V.i 0, V.b false]))), (1, .r (pw ((0 : Nat) + (5 : Nat) ≤ (5 : Nat)) (800009 : Nat) (Ob.box 95 [V.i (Rc.x0 (flipYR a (Rc.y0 b))), V.i (Rc.y0 (flipYR a (Rc.y0 b))), V.i (Rc.x1 (flipYR a (Rc.y0 b))), V.i (Rc.y1 (flipYR a (Rc.y0 b))), V.b (Rc.down (flipYR a (Rc.y0 b)))])))] ⟨oM, tI⟩ ?_; refine nK hK ?_; clear hK K; refine sK fun K hK => wR 10 ?_
  refine aops_n hTT (M := []) (n := 7) [pv 38 (V.ptr [V.i (Rc.x0 a), V.i (Rc.y0 a), V.i (Rc.x1 a), V.i (Rc.y1 a), V.b (Rc.down a)]), pv 39 (V.ptr [V.b (Rc.down a)]), pv 40 (V.b (Rc.down a)), pv 41 (V.b !Rc.down a), pv 42 (V.ref 800009 0), pv 43 (V.ref 800009 4), pw ((4 : Nat) + (1 : Nat) ≤ (5 : Nat)) (800009 : Nat) (Ob.box 95 [V.i (Rc.x0 (flipYR a (Rc.y0 b))), V.i (Rc.y0 (flipYR a (Rc.y0 b))), V.i (Rc.x1 (flipYR a (Rc.y0 b))), V.i (Rc.y1 (flipYR a (Rc.y0 b))), V.b !Rc.down a])] kR kR ⟨oM, tI⟩ ?_
  refine nK hK ?_; clear hK K; refine sK fun K hK => wR 11 ?_
  refine aops_n hTT (M := []) (n := 2) [pc 44 ((0 : Nat) ≤ (5 : Nat)) (V.agg [V.i (Rc.x0 (flipYR a (Rc.y0 b))), V.i (Rc.y0 (flipYR a (Rc.y0 b))), V.i (Rc.x1 (flipYR a (Rc.y0 b))), V.i (Rc.y1 (flipYR a (Rc.y0 b))), V.b !Rc.down a]), pw ((0 : Nat) + (5 : Nat) ≤ (5 : Nat)) (100006 : Nat) (Ob.box 95 [V.i (Rc.x0 (flipYR a (Rc.y0 b))), V.i (Rc.y0 (flipYR a (Rc.y0 b))), V.i (Rc.x1 (flipYR a (Rc.y0 b))), V.i (Rc.y1 (flipYR a (Rc.y0 b))), V.b !Rc.down a])] kR kR ⟨oM, oM, tI⟩ ?_
  refine nK hK ?_; clear hK K
  refine aw_ret ?_
  refine ret_of_le (le_freezeBox (t := (95 : Nat)) (cs := [V.i (Rc.x0 (flipYR a (Rc.y0 b))), V.i (Rc.y0 (flipYR a (Rc.y0 b))), V.i (Rc.x1 (flipYR a (Rc.y0 b))), V.i (Rc.y1 (flipYR a (Rc.y0 b))), V.b !Rc.down a]) 100006 kR kR) ?_
  rw [show mirR a b e = ⟨a.x0, 2 * b.y0 - a.y1, a.x1, 2 * b.y0 - a.y0, !a.down⟩ by simp [mirR, c3]]
  refine rP (V.agg [V.i (Rc.x0 (flipYR a (Rc.y0 b))), V.i (Rc.y0 (flipYR a (Rc.y0 b))), V.i (Rc.x1 (flipYR a (Rc.y0 b))), V.i (Rc.y1 (flipYR a (Rc.y0 b))), V.b !Rc.down a])
 simp at c3
 refine aw_skip ?_
 refine xb_n ?_; refine xt_n (hK _ ?_); clear hK K; refine sK fun K hK => wR 8 ?_; refine aX hTT 2 [] tI ?_
 refine e_call (first := [V.agg [V.i (Rc.x0 a), V.i (Rc.y0 a), V.i (Rc.x1 a), V.i (Rc.y1 a), V.b (Rc.down a)]]) (caps := []) (flipX_ac a b.x1 ha ⟨b5, b6⟩) kR kR kR kR kR ?_
 refine aX hTT 2 [(0, .r (pn 9 (V.ref 700009 0) (700009 : Nat) (Ob.box 95 [V.i 0, V.i 0, V.i 0, V.i 0, V.b false]))), (1, .r (pw ((0 : Nat) + (5 : Nat) ≤ (5 : Nat)) (700009 : Nat) (Ob.box 95 [V.i (Rc.x0 (flipXR a (Rc.x1 b))), V.i (Rc.y0 (flipXR a (Rc.x1 b))), V.i (Rc.x1 (flipXR a (Rc.x1 b))), V.i (Rc.y1 (flipXR a (Rc.x1 b))), V.b (Rc.down (flipXR a (Rc.x1 b)))])))] ⟨oM, tI⟩ ?_; refine nK hK ?_; clear hK K; refine sK fun K hK => wR 9 ?_; refine aX hTT 7 [(6, .r (pw ((4 : Nat) + (1 : Nat) ≤ (5 : Nat)) (700009 : Nat) (Ob.box 95 [V.i (Rc.x0 (flipXR a (Rc.x1 b))), V.i (Rc.y0 (flipXR a (Rc.x1 b))), V.i (Rc.x1 (flipXR a (Rc.x1 b))), V.i (Rc.y1 (flipXR a (Rc.x1 b))), V.b !Rc.down a])))] ⟨oM, tI⟩ ?_; refine nK hK ?_; clear hK K; refine sK fun K hK => wR 10 ?_; refine aX hTT 2 [(0, .c qSN30), (1, .r (pw ((0 : Nat) + (5 : Nat) ≤ (5 : Nat)) (100006 : Nat) (Ob.box 95 [V.i (Rc.x0 (flipXR a (Rc.x1 b))), V.i (Rc.y0 (flipXR a (Rc.x1 b))), V.i (Rc.x1 (flipXR a (Rc.x1 b))), V.i (Rc.y1 (flipXR a (Rc.x1 b))), V.b !Rc.down a])))] ⟨qSN30_, oM, tI⟩ ?_; refine nK hK ?_; clear hK K
 refine aw_ret ?_
 refine ret_of_le (le_freezeBox (t := (95 : Nat)) (cs := [V.i (Rc.x0 (flipXR a (Rc.x1 b))), V.i (Rc.y0 (flipXR a (Rc.x1 b))), V.i (Rc.x1 (flipXR a (Rc.x1 b))), V.i (Rc.y1 (flipXR a (Rc.x1 b))), V.b !Rc.down a]) 100006 kR kR) ?_
 rw [show mirR a b e = ⟨2 * b.x1 - a.x1, a.y0, 2 * b.x1 - a.x0, a.y1, !a.down⟩ by simp [mirR, c1, c2, c3]]
 refine rP (V.agg [V.i (Rc.x0 (flipXR a (Rc.x1 b))), V.i (Rc.y0 (flipXR a (Rc.x1 b))), V.i (Rc.x1 (flipXR a (Rc.x1 b))), V.i (Rc.y1 (flipXR a (Rc.x1 b))), V.b !Rc.down a])
end Go.Proofs.YtfckkkmacjjmhaaDoor

namespace Go.Proofs.YtfckkkmacjjmhaaDoor
open Go.Ab Go.RowKit Go.Dw Go.Shelf
theorem dfOk : DfOk Tryd.prog 82 123 := ⟨(⟨Tryd.func82, rfl, Tryd.ntmps82, kR⟩ : FnOk Tryd.prog 82 Tryd.f82 _ _).call, flatD_idle, flatD_catch⟩
theorem flat_pre (x : Value) (w : World) (Q : Exit → Act → World → Prop) {n : Nat} {rest : Code} {i0 i1 : Nat} {p0 p1 p2 p3 : String} {ty0 ty1 ty2 ty3 : TypeId} {a0 a1 a2 a3 : Array Edge} (hn : 15 < n + 1)
  (h : rest.wpIn Fence.wide 0 Tryd.prog Q ⟨(((#[x] ++ Array.replicate n undef).setIfInBounds 2 (.pointer (some ⟨w.heap.size, 0, none⟩))).setIfInBounds 3 (.pointer (some ⟨w.heap.size + 1, 0, none⟩))).setIfInBounds 15 (.func (.func 82) #[] #[.pointer (some ⟨w.heap.size, 0, none⟩), .pointer (some ⟨w.heap.size + 1, 0, none⟩)]), [dfd 82 w.heap.size (w.heap.size + 1)]⟩
    ((w.alloc (.cells #[.slice none 0 0] 90)).alloc (.cells #[.int .i64 0] 25))) :
  (Code.seq (.region i0 #[⟨some 2, .alloc 90, ty0, p0, a0, none⟩, ⟨some 3, .alloc 25, ty1, p1, a1, none⟩] false)
   (.seq (.region i1 #[⟨some 15, .makeFunc (.func 82) #[] #[.tmp 2, .tmp 3], ty2, p2, a2, none⟩, ⟨none, .defer ⟨.value (.tmp 15), #[], #[]⟩, ty3, p3, a3, none⟩] false) rest)).wpIn Fence.wide 0 Tryd.prog Q ⟨#[x] ++ Array.replicate n undef, []⟩ w := by
 have hs : (#[x] ++ Array.replicate n undef).size = n + 1 := by simp; omega
 generalize #[x] ++ Array.replicate n undef = T at h hs
 have g2 : ∀ (a b : Value), ((T.setIfInBounds 2 a).setIfInBounds 3 b)[2]? = some a := fun a b => by
  rw [Array.getElem?_setIfInBounds, if_neg oM, Array.getElem?_setIfInBounds, if_pos rfl, if_pos oM]
 have g3 : ∀ (a b : Value), ((T.setIfInBounds 2 a).setIfInBounds 3 b)[3]? = some b := fun a b => by
  rw [Array.getElem?_setIfInBounds, if_pos rfl, if_pos (by simp; omega)]
 have g15 : ∀ (a b c : Value), (((T.setIfInBounds 2 a).setIfInBounds 3 b).setIfInBounds 15 c)[15]? = some c := fun a b c => by
  rw [Array.getElem?_setIfInBounds, if_pos rfl, if_pos (by simp; omega)]
 refine wpIn_seq (wpIn_region ?_)
 simp [wpOpsIn, Oper.wpIn, go_sem, Exit.then, Act.put, Region.wanted]
 refine wpIn_seq (wpIn_region ?_)
 simp [wpOpsIn, Oper.wpIn, go_sem, Exit.then, Act.put, Region.wanted, Act.eval, g2, g3]
 rw [if_pos (show 15 < T.size by omega)]
 exact h
theorem flat_pre0 (vs : Array Value) (w : World) (Q : Exit → Act → World → Prop) (hv : vs.size = 1) {m : Nat} (hm : m = 154) {rest : Code} {i0 i1 : Nat} {p0 p1 p2 p3 : String} {ty0 ty1 ty2 ty3 : TypeId} {a0 a1 a2 a3 : Array Edge}
  (h : rest.wpIn Fence.wide 0 Tryd.prog Q ⟨(((vs ++ Array.replicate (m - vs.size) undef).setIfInBounds 2 (.pointer (some ⟨w.heap.size, 0, none⟩))).setIfInBounds 3 (.pointer (some ⟨w.heap.size + 1, 0, none⟩))).setIfInBounds 15 (.func (.func 82) #[] #[.pointer (some ⟨w.heap.size, 0, none⟩), .pointer (some ⟨w.heap.size + 1, 0, none⟩)]), [dfd 82 w.heap.size (w.heap.size + 1)]⟩
    ((w.alloc (.cells #[.slice none 0 0] 90)).alloc (.cells #[.int .i64 0] 25))) :
  (Code.seq (.region i0 #[⟨some 2, .alloc 90, ty0, p0, a0, none⟩, ⟨some 3, .alloc 25, ty1, p1, a1, none⟩] false)
   (.seq (.region i1 #[⟨some 15, .makeFunc (.func 82) #[] #[.tmp 2, .tmp 3], ty2, p2, a2, none⟩, ⟨none, .defer ⟨.value (.tmp 15), #[], #[]⟩, ty3, p3, a3, none⟩] false) rest)).wpIn Fence.wide 0 Tryd.prog Q ⟨vs ++ Array.replicate (m - vs.size) undef, []⟩ w := by
 obtain ⟨x, rfl⟩ : ∃ x, vs = #[x] := by
  obtain ⟨vl⟩ := vs
  match vl, hv with
  | [x], _ => exact ⟨x, rfl⟩
 subst hm
 exact flat_pre x w Q (n := 153) oM h
def flatV (l : List Pan) : V := if netE l = 0 then .tup [V.rcs l.length (rcF l), .i 0] else .tup [.nil, .i (netE l)]
set_option maxHeartbeats 4000000 in
set_option maxRecDepth 100000 in
theorem flat_ac (l : List Pan) (hl : l.length ≤ 4611686018427387904) : AC Tryd.prog 63 [V.pans l] (flatV l) [] := by
 refine acd_intro hTT hMX (fn := Tryd.f63) (N := _) ⟨Tryd.func63, rfl, Tryd.ntmps63, kR⟩ (by simp) (ta := 2) (tb := 3) (tf := 15) (t1 := 90) (t2 := 25) (z1 := .nil) (z2 := .i 0) (x1 := .slice none 0 0) (x2 := .int .i64 0) (by simp) (fun _ _ _ => .nil _) (fun _ _ _ => .c _ _) rfl rfl rfl kR kR dfOk (fun vs w Q hv h => ?_) fun C hF => ?_
 ·
  exact flat_pre0 vs w Q hv Tryd.ntmps63 h
 have hMust := mustOk
 refine sK fun K hK => ?_
 refine aw_must hMust hF 8 kR rfl kR (n' := 2) kR ?_
 refine aops_n hTT (M := []) (n := 8) [pv 16 (V.sl 5 (List.length l) fun (k : Nat) => Pan.c (gpan l k)), pv 17 (V.i (↑(List.length l) : Int)), pv 18 (V.b (decide ((0 : Int) < (↑(List.length l) : Int)))), pv 19 (V.b (decide ((0 : Int) < (↑(List.length l) : Int)))), pc 20 ((True ∧ True) ∧ ((decide ((0 : Int) < (↑(List.length l) : Int)) == true) = true → True)) (V.gd (decide ((0 : Int) < (↑(List.length l) : Int)) == true) (V.sl 5 (List.length l) fun (k : Nat) => Pan.c (gpan l k))), pc 21 ((((decide ((0 : Int) < (↑(List.length l) : Int)) == true) = true → (decide ((0 : Int) < (↑(List.length l) : Int)) == true) = true) ∧ True) ∧ ((decide ((0 : Int) < (↑(List.length l) : Int)) == true) = true → True)) (V.gd (decide ((0 : Int) < (↑(List.length l) : Int)) == true) (V.i (↑(List.length l) : Int))), pc 22 ((((decide ((0 : Int) < (↑(List.length l) : Int)) == true) = true → (decide ((0 : Int) < (↑(List.length l) : Int)) == true) = true) ∧ True ∧ True) ∧ ((decide ((0 : Int) < (↑(List.length l) : Int)) == true) = true → True)) (V.gd (decide ((0 : Int) < (↑(List.length l) : Int)) == true) (V.b (decide ((↑(List.length l) : Int) ≤ 12)))), pc 23 ((decide ((0 : Int) < (↑(List.length l) : Int)) = true → (decide ((0 : Int) < (↑(List.length l) : Int)) == true) = true) ∧ True) (V.b (decide ((0 : Int) < (↑(List.length l) : Int)) && decide ((↑(List.length l) : Int) ≤ 12)))] kR kR ⟨⟨⟨tI, tI⟩, (fun _ => tI)⟩, ⟨⟨(by (exact fun h => h)), tI⟩, (fun _ => tI)⟩, ⟨⟨(by (exact fun h => h)), ⟨tI, tI⟩⟩, (fun _ => tI)⟩, ⟨(by (intro h; rw [h]; rfl)), tI⟩, tI⟩ ?_
 refine aops_nil ?_
 refine ⟨decide ((0 : Int) < (↑(List.length l) : Int)) && decide ((↑(List.length l) : Int) ≤ 12), (6 : Int), kR, by kernel_rfl, fun h0 => ?_, fun h0 => ?_⟩
 rotate_left
 ·
  simp at h0
  refine xt_p ?_
  rw [flatV, if_neg (by rw [netE_many oM]; omega), netE_many oM]
  exact .inr ⟨_, _, _, _, _, rfl, rfl, rfl, rfl, rfl, rfl⟩
 simp at h0
 have hne : ¬ (l.length = 0 ∨ 12 < l.length) := by omega
 refine xt_n (hK _ ?_); clear hK K; refine sK fun K hK => ?_; refine sK fun K hK => wR 3 ?_
 refine aops_n hTT (M := []) (n := 3) [pv 25 (V.sl 5 (List.length l) fun (k : Nat) => Pan.c (gpan l k)), pv 26 (V.i (↑(List.length l) : Int)), pv 27 (V.i 0)] kR kR tI ?_
 refine nK hK ?_; clear hK K
 refine aw_block ?_
 refine w_le (le_openIn 500 0 (t := 90) (cs := [.nil]) 95 5 (fun k => (rcF l k).c) kR kR rfl rfl) ?_
 refine w_loop (ι := Nat) (fun k => [(2, .ref 500 0), (3, .ref 501 0), (25, V.pans l), (26, .i l.length), (27, .i k)]) (fun k => [(500, .box 90 [.own 5]), (501, .box 25 [.i 0]), (5, .row 95 5 k fun j => (rcF l j).c)]) (fun k => k ≤ l.length ∧ fstE (panE l) k = 0) (fun k => l.length - k) 0 ⟨Nat.zero_le _, rfl⟩ ?_ ?_
 ·
  refine le_ren (sl := [(500, Ob.box 90 [V.own 5]), (501, Ob.box 25 [V.i 0]), (5, Ob.row 95 5 0 fun (j : Nat) => Rc.c (rcF l j))]) [(5, 300000)] (.cons kR (.cons kR (.cons kR (.cons kR (.cons kR .nil))))) (.cons ⟨Ob.box 90 [V.own 300000], kR, .box kR⟩ (.cons ⟨Ob.box 25 [V.i 0], kR, .box kR⟩ (.cons ⟨Ob.row 95 5 0 fun (k : Nat) => Rc.c (rcF l k), kR, .row kR (fun _ _ => rfl)⟩ .nil))) kR kR
 rintro k ⟨hk, hE⟩
 refine sK fun K hK => wR 2 ?_
 refine aops_n hTT (M := []) (n := 1) [pv 28 (V.b (decide ((↑k : Int) < (↑(List.length l) : Int))))] kR kR tI ?_
 refine nK hK ?_; clear hK K; refine sK fun K hK => ?_
 refine w_cond (t := decide ((↑k : Int) < (↑(List.length l) : Int))) kR (fun c1 => ?_) (fun c1 => ?_)
 ·
  simp at c1
  refine aw_skip ?_
  refine xt_n (hK _ ?_); clear hK K; refine sK fun K hK => ?_
  refine aw_block ?_
  refine sK fun K hK => wR 3 ?_
  refine aops_n hTT (M := []) (n := 6) [pv 29 (V.i (↑k : Int)), pc 30 ((0 : Int) ≤ (↑k : Int) ∧ (↑k : Int) < (↑(List.length l) : Int)) (V.ptr [V.i (Pan.on (gpan l k)), V.i (Pan.edge (gpan l k)), V.i (Pan.off (gpan l k)), V.i (Pan.wide (gpan l k)), V.i (Pan.high (gpan l k))]), pv 31 (V.agg [V.i (Pan.on (gpan l k)), V.i (Pan.edge (gpan l k)), V.i (Pan.off (gpan l k)), V.i (Pan.wide (gpan l k)), V.i (Pan.high (gpan l k))]), pn 5 (V.ref 200005 0) (200005 : Nat) (Ob.box 54 [V.i 0, V.i 0, V.i 0, V.i 0, V.i 0]), pv 4 (V.i (↑k : Int)), pw ((0 : Nat) + (5 : Nat) ≤ (5 : Nat)) (200005 : Nat) (Ob.box 54 [V.i (Pan.on (gpan l k)), V.i (Pan.edge (gpan l k)), V.i (Pan.off (gpan l k)), V.i (Pan.wide (gpan l k)), V.i (Pan.high (gpan l k))])] kR kR ⟨oM, oM, tI⟩ ?_
  refine nK hK ?_; clear hK K; refine sK fun K hK => ?_
  refine aw_must hMust hF 10 kR rfl kR (n' := 4) kR ?_
  refine aops_n hTT (M := []) (n := 2) [pv 32 (V.ref 200005 3), pc 33 ((3 : Nat) ≤ (5 : Nat)) (V.i (Pan.wide (gpan l k)))] kR kR ⟨oM, tI⟩ ?_
  refine eC (soutside_ac (gpan l k).wide 1 65536) ?_
  refine aops_n hTT (M := []) (n := 4) [pv 35 (V.b !(decide (Pan.wide (gpan l k) < 1) || decide ((65536 : Int) < Pan.wide (gpan l k)))), pv 36 (V.b !(decide (Pan.wide (gpan l k) < 1) || decide ((65536 : Int) < Pan.wide (gpan l k)))), pc 37 ((True ∧ True) ∧ (((!(decide (Pan.wide (gpan l k) < 1) || decide ((65536 : Int) < Pan.wide (gpan l k)))) == true) = true → True)) (V.gd ((!(decide (Pan.wide (gpan l k) < 1) || decide ((65536 : Int) < Pan.wide (gpan l k)))) == true) (V.ref 200005 4)), pc 38 (((((!(decide (Pan.wide (gpan l k) < 1) || decide ((65536 : Int) < Pan.wide (gpan l k)))) == true) = true → ((!(decide (Pan.wide (gpan l k) < 1) || decide ((65536 : Int) < Pan.wide (gpan l k)))) == true) = true) ∧ True) ∧ (((!(decide (Pan.wide (gpan l k) < 1) || decide ((65536 : Int) < Pan.wide (gpan l k)))) == true) = true → (4 : Nat) ≤ (5 : Nat))) (V.gd ((!(decide (Pan.wide (gpan l k) < 1) || decide ((65536 : Int) < Pan.wide (gpan l k)))) == true) (V.i (Pan.high (gpan l k))))] kR kR ⟨⟨⟨tI, tI⟩, (fun _ => tI)⟩, ⟨⟨(by (exact fun h => h)), tI⟩, (by (intro _; simp; done))⟩, tI⟩ ?_
  refine eG 1 (g := (!(decide (Pan.wide (gpan l k) < 1) || decide ((65536 : Int) < Pan.wide (gpan l k)))) == true) (fun h => soutside_ac (gpan l k).high 1 65536) ?_
  refine aops_n hTT (M := []) (n := 2) [pc 40 (((((!(decide (Pan.wide (gpan l k) < 1) || decide ((65536 : Int) < Pan.wide (gpan l k)))) == true) = true → ((!(decide (Pan.wide (gpan l k) < 1) || decide ((65536 : Int) < Pan.wide (gpan l k)))) == true) = true) ∧ True) ∧ (((!(decide (Pan.wide (gpan l k) < 1) || decide ((65536 : Int) < Pan.wide (gpan l k)))) == true) = true → True)) (V.gd ((!(decide (Pan.wide (gpan l k) < 1) || decide ((65536 : Int) < Pan.wide (gpan l k)))) == true) (V.b !(decide (Pan.high (gpan l k) < 1) || decide ((65536 : Int) < Pan.high (gpan l k))))), pc 41 (((!(decide (Pan.wide (gpan l k) < 1) || decide ((65536 : Int) < Pan.wide (gpan l k)))) = true → ((!(decide (Pan.wide (gpan l k) < 1) || decide ((65536 : Int) < Pan.wide (gpan l k)))) == true) = true) ∧ True) (V.b (!(decide (Pan.wide (gpan l k) < 1) || decide ((65536 : Int) < Pan.wide (gpan l k))) && !(decide (Pan.high (gpan l k) < 1) || decide ((65536 : Int) < Pan.high (gpan l k)))))] kR kR ⟨⟨⟨(by (exact fun h => h)), tI⟩, (fun _ => tI)⟩, ⟨(by (intro h; rw [h]; rfl)), tI⟩, tI⟩ ?_
  refine aops_nil ?_
  refine ⟨!(decide (Pan.wide (gpan l k) < 1) || decide ((65536 : Int) < Pan.wide (gpan l k))) && !(decide (Pan.high (gpan l k) < 1) || decide ((65536 : Int) < Pan.high (gpan l k))), (2 : Int), kR, by kernel_rfl, fun h1 => ?_, fun h1 => ?_⟩
  rotate_left
  ·
   have hs : ¬ (gpan l k).szOk := by unfold Pan.szOk; simp at h1; omega
   have hE2 := netE_pan hne c1 hE (by rw [panE_sz hs]; omega)
   rw [panE_sz hs] at hE2
   refine xt_p ?_
   refine xb_p ?_
   refine xt_p ?_
   refine xt_p ?_
   refine xb_p ?_
   refine xt_p ?_
   rw [flatV, if_neg oM, hE2]
   exact .inr ⟨_, _, _, _, _, rfl, rfl, rfl, rfl, rfl, rfl⟩
  have hs : (gpan l k).szOk := by unfold Pan.szOk; simp at h1; omega
  have hsz := hs
  obtain ⟨⟨z1, z2⟩, z3, z4⟩ := hsz
  clear h1
  refine xt_n (hK _ ?_); clear hK K; refine sK fun K hK => ?_; refine sK fun K hK => wR 5 ?_
  refine aops_n hTT (M := []) (n := 2) [pv 43 (V.i (↑k : Int)), pv 44 (V.b (decide ((↑k : Int) = 0)))] kR kR tI ?_
  refine nK hK ?_; clear hK K
  refine w_cond (t := decide ((↑k : Int) = 0)) kR (fun c2 => ?_) (fun c2 => ?_)
  ·
   simp at c2
   subst c2
   refine sK fun K hK => ?_
   refine aw_must hMust hF 13 kR rfl kR (n' := 6) kR ?_
   refine aops_n hTT (M := []) (n := 13) [pv 45 (V.ref 200005 0), pc 46 ((0 : Nat) ≤ (5 : Nat)) (V.i (Pan.on (gpan l (0 : Nat)))), pv 47 (V.b (decide (Pan.on (gpan l (0 : Nat)) = (-1 : Int)))), pv 48 (V.b (decide (Pan.on (gpan l (0 : Nat)) = (-1 : Int)))), pc 49 ((True ∧ True) ∧ ((decide (Pan.on (gpan l (0 : Nat)) = (-1 : Int)) == true) = true → True)) (V.gd (decide (Pan.on (gpan l (0 : Nat)) = (-1 : Int)) == true) (V.ref 200005 1)), pc 50 ((((decide (Pan.on (gpan l (0 : Nat)) = (-1 : Int)) == true) = true → (decide (Pan.on (gpan l (0 : Nat)) = (-1 : Int)) == true) = true) ∧ True) ∧ ((decide (Pan.on (gpan l (0 : Nat)) = (-1 : Int)) == true) = true → (1 : Nat) ≤ (5 : Nat))) (V.gd (decide (Pan.on (gpan l (0 : Nat)) = (-1 : Int)) == true) (V.i (Pan.edge (gpan l (0 : Nat))))), pc 51 ((((decide (Pan.on (gpan l (0 : Nat)) = (-1 : Int)) == true) = true → (decide (Pan.on (gpan l (0 : Nat)) = (-1 : Int)) == true) = true) ∧ True ∧ True) ∧ ((decide (Pan.on (gpan l (0 : Nat)) = (-1 : Int)) == true) = true → True)) (V.gd (decide (Pan.on (gpan l (0 : Nat)) = (-1 : Int)) == true) (V.b (decide (Pan.edge (gpan l (0 : Nat)) = 0)))), pc 52 ((decide (Pan.on (gpan l (0 : Nat)) = (-1 : Int)) = true → (decide (Pan.on (gpan l (0 : Nat)) = (-1 : Int)) == true) = true) ∧ True) (V.b (decide (Pan.on (gpan l (0 : Nat)) = (-1 : Int)) && decide (Pan.edge (gpan l (0 : Nat)) = 0))), pv 53 (V.b (decide (Pan.on (gpan l (0 : Nat)) = (-1 : Int)) && decide (Pan.edge (gpan l (0 : Nat)) = 0))), pc 54 ((True ∧ True) ∧ (((decide (Pan.on (gpan l (0 : Nat)) = (-1 : Int)) && decide (Pan.edge (gpan l (0 : Nat)) = 0)) == true) = true → True)) (V.gd ((decide (Pan.on (gpan l (0 : Nat)) = (-1 : Int)) && decide (Pan.edge (gpan l (0 : Nat)) = 0)) == true) (V.ref 200005 2)), pc 55 (((((decide (Pan.on (gpan l (0 : Nat)) = (-1 : Int)) && decide (Pan.edge (gpan l (0 : Nat)) = 0)) == true) = true → ((decide (Pan.on (gpan l (0 : Nat)) = (-1 : Int)) && decide (Pan.edge (gpan l (0 : Nat)) = 0)) == true) = true) ∧ True) ∧ (((decide (Pan.on (gpan l (0 : Nat)) = (-1 : Int)) && decide (Pan.edge (gpan l (0 : Nat)) = 0)) == true) = true → (2 : Nat) ≤ (5 : Nat))) (V.gd ((decide (Pan.on (gpan l (0 : Nat)) = (-1 : Int)) && decide (Pan.edge (gpan l (0 : Nat)) = 0)) == true) (V.i (Pan.off (gpan l (0 : Nat))))), pc 56 (((((decide (Pan.on (gpan l (0 : Nat)) = (-1 : Int)) && decide (Pan.edge (gpan l (0 : Nat)) = 0)) == true) = true → ((decide (Pan.on (gpan l (0 : Nat)) = (-1 : Int)) && decide (Pan.edge (gpan l (0 : Nat)) = 0)) == true) = true) ∧ True ∧ True) ∧ (((decide (Pan.on (gpan l (0 : Nat)) = (-1 : Int)) && decide (Pan.edge (gpan l (0 : Nat)) = 0)) == true) = true → True)) (V.gd ((decide (Pan.on (gpan l (0 : Nat)) = (-1 : Int)) && decide (Pan.edge (gpan l (0 : Nat)) = 0)) == true) (V.b (decide (Pan.off (gpan l (0 : Nat)) = 0)))), pc 57 (((decide (Pan.on (gpan l (0 : Nat)) = (-1 : Int)) && decide (Pan.edge (gpan l (0 : Nat)) = 0)) = true → ((decide (Pan.on (gpan l (0 : Nat)) = (-1 : Int)) && decide (Pan.edge (gpan l (0 : Nat)) = 0)) == true) = true) ∧ True) (V.b (decide (Pan.on (gpan l (0 : Nat)) = (-1 : Int)) && decide (Pan.edge (gpan l (0 : Nat)) = 0) && decide (Pan.off (gpan l (0 : Nat)) = 0)))] kR kR ⟨oM, ⟨⟨tI, tI⟩, (fun _ => tI)⟩, ⟨⟨(by (exact fun h => h)), tI⟩, (by (intro _; simp; done))⟩, ⟨⟨(by (exact fun h => h)), ⟨tI, tI⟩⟩, (fun _ => tI)⟩, ⟨(by (intro h; rw [h]; rfl)), tI⟩, ⟨⟨tI, tI⟩, (fun _ => tI)⟩, ⟨⟨(by (exact fun h => h)), tI⟩, (by (intro _; simp; done))⟩, ⟨⟨(by (exact fun h => h)), ⟨tI, tI⟩⟩, (fun _ => tI)⟩, ⟨(by (intro h; rw [h]; rfl)), tI⟩, tI⟩ ?_
   refine aops_nil ?_
   refine ⟨decide (Pan.on (gpan l (0 : Nat)) = (-1 : Int)) && decide (Pan.edge (gpan l (0 : Nat)) = 0) && decide (Pan.off (gpan l (0 : Nat)) = 0), (2 : Int), kR, by kernel_rfl, fun h1 => ?_, fun h1 => ?_⟩
   rotate_left
   ·
    have ho : ¬ (gpan l 0).ok0 := by unfold Pan.ok0; simp at h1; omega
    have hE2 := netE_pan hne c1 hE (by rw [panE_0 hs ho]; omega)
    rw [panE_0 hs ho] at hE2
    refine xt_p ?_
    refine xt_p ?_
    refine xb_p ?_
    refine xt_p ?_
    refine xt_p ?_
    refine xb_p ?_
    refine xt_p ?_
    rw [flatV, if_neg oM, hE2]
    exact .inr ⟨_, _, _, _, _, rfl, rfl, rfl, rfl, rfl, rfl⟩
   have ho : (gpan l 0).ok0 := by unfold Pan.ok0; simp at h1; omega
   clear h1
   refine xt_n (hK _ ?_); clear hK K; refine sK fun K hK => wR 7 ?_
   refine aops_n hTT (M := []) (n := 10) [pc 59 ((0 : Nat) ≤ (1 : Nat)) (V.own 5), pv 60 (V.ref 200005 3), pc 61 ((3 : Nat) ≤ (5 : Nat)) (V.i (Pan.wide (gpan l (0 : Nat)))), pv 62 (V.ref 200005 4), pc 63 ((4 : Nat) ≤ (5 : Nat)) (V.i (Pan.high (gpan l (0 : Nat)))), pv 64 (V.agg [V.i 0, V.i 0, V.i (Pan.wide (gpan l (0 : Nat))), V.i (Pan.high (gpan l (0 : Nat))), V.b false]), pv 65 (V.agg [V.i 0, V.i 0, V.i (Pan.wide (gpan l (0 : Nat))), V.i (Pan.high (gpan l (0 : Nat))), V.b false]), pv 66 (V.sl 5 1 fun (i : Nat) => List.take (5 : Nat) (List.drop (i * 5) [V.i 0, V.i 0, V.i (Pan.wide (gpan l (0 : Nat))), V.i (Pan.high (gpan l (0 : Nat))), V.b false])), PR.mk (some (67 : Nat)) (some ((0 : Nat) + (1 : Nat) ≤ (1099511627776 : Nat))) (V.own 600067) [((5 : Nat), none), ((600067 : Nat), some (Ob.row 95 5 1 (appRow (0 : Nat) (fun (j : Nat) => Rc.c (rcF l j)) fun (i : Nat) => List.take (5 : Nat) (List.drop (i * 5) [V.i 0, V.i 0, V.i (Pan.wide (gpan l (0 : Nat))), V.i (Pan.high (gpan l (0 : Nat))), V.b false]))))] false, pw ((0 : Nat) + (1 : Nat) ≤ (1 : Nat)) (500 : Nat) (Ob.box 90 [V.own 600067])] kR kR ⟨oM, oM, oM, oM, oM, tI⟩ ?_
   refine nK hK ?_; clear hK K
   refine aw_exit ?_
   refine xt_x ?_
   refine xb_same ?_
   refine xt_n ?_; clear hK K; refine hK _ ?_; clear hK K; refine wR 8 ?_
   refine aops_n hTT (M := []) (n := 2) [pc 122 ((-9223372036854775808 : Int) ≤ (↑(0 : Nat) : Int) + 1 ∧ (↑(0 : Nat) : Int) + 1 ≤ (9223372036854775807 : Int)) (V.i 1), pv 27 (V.i 1)] kR kR ⟨oM, tI⟩ ?_
   refine aops_nil ?_; refine xt_n ?_
   refine ⟨1, ⟨by omega, by rw [fstE, if_pos hE]; exact panE_0ok hs ho⟩, ?_, by omega⟩
   refine le_ren (tl := [(2, V.ref 500 0), (3, V.ref 501 0), (25, V.sl 5 (List.length l) fun (k : Nat) => Pan.c (gpan l k)), (26, V.i (↑(List.length l) : Int)), (27, V.i 1)]) (sl := [(500, Ob.box 90 [V.own 5]), (501, Ob.box 25 [V.i 0]), (5, Ob.row 95 5 1 fun (j : Nat) => Rc.c (rcF l j))]) [(5, 600067)] (.cons kR (.cons kR (.cons kR (.cons kR (.cons kR .nil))))) (.cons ⟨Ob.box 90 [V.own 600067], kR, .box kR⟩ (.cons ⟨Ob.box 25 [V.i 0], kR, .box kR⟩ (.cons ⟨Ob.row 95 5 1 (appRow (0 : Nat) (fun (j : Nat) => Rc.c (rcF l j)) fun (i : Nat) => List.take (5 : Nat) (List.drop (i * 5) [V.i 0, V.i 0, V.i (Pan.wide (gpan l (0 : Nat))), V.i (Pan.high (gpan l (0 : Nat))), V.b false])), kR, .row kR ?_⟩ .nil))) kR kR
   exact appRow_ok (fun _ _ => rfl) (by rw [rcF_zero]; rfl)
  simp at c2
  refine aw_skip ?_
  refine xt_n (hK _ ?_); clear hK K; refine sK fun K hK => ?_
  refine aw_must hMust hF 25 kR rfl kR (n' := 6) kR ?_
  refine aops_n hTT (M := []) (n := 22) [pv 68 (V.ref 200005 0), pc 69 ((0 : Nat) ≤ (5 : Nat)) (V.i (Pan.on (gpan l k))), pv 70 (V.b (decide ((0 : Int) ≤ Pan.on (gpan l k)))), pv 71 (V.b (decide ((0 : Int) ≤ Pan.on (gpan l k)))), pc 72 ((True ∧ True) ∧ ((decide ((0 : Int) ≤ Pan.on (gpan l k)) == true) = true → True)) (V.gd (decide ((0 : Int) ≤ Pan.on (gpan l k)) == true) (V.ref 200005 0)), pc 73 ((((decide ((0 : Int) ≤ Pan.on (gpan l k)) == true) = true → (decide ((0 : Int) ≤ Pan.on (gpan l k)) == true) = true) ∧ True) ∧ ((decide ((0 : Int) ≤ Pan.on (gpan l k)) == true) = true → (0 : Nat) ≤ (5 : Nat))) (V.gd (decide ((0 : Int) ≤ Pan.on (gpan l k)) == true) (V.i (Pan.on (gpan l k)))), pc 74 ((True ∧ True) ∧ ((decide ((0 : Int) ≤ Pan.on (gpan l k)) == true) = true → True)) (V.gd (decide ((0 : Int) ≤ Pan.on (gpan l k)) == true) (V.i (↑k : Int))), pc 75 ((((decide ((0 : Int) ≤ Pan.on (gpan l k)) == true) = true → (decide ((0 : Int) ≤ Pan.on (gpan l k)) == true) = true) ∧ ((decide ((0 : Int) ≤ Pan.on (gpan l k)) == true) = true → (decide ((0 : Int) ≤ Pan.on (gpan l k)) == true) = true) ∧ True) ∧ ((decide ((0 : Int) ≤ Pan.on (gpan l k)) == true) = true → True)) (V.gd (decide ((0 : Int) ≤ Pan.on (gpan l k)) == true) (V.b (decide (Pan.on (gpan l k) < (↑k : Int))))), pc 76 ((decide ((0 : Int) ≤ Pan.on (gpan l k)) = true → (decide ((0 : Int) ≤ Pan.on (gpan l k)) == true) = true) ∧ True) (V.b (decide ((0 : Int) ≤ Pan.on (gpan l k)) && decide (Pan.on (gpan l k) < (↑k : Int)))), pv 77 (V.b (decide ((0 : Int) ≤ Pan.on (gpan l k)) && decide (Pan.on (gpan l k) < (↑k : Int)))), pc 78 ((True ∧ True) ∧ (((decide ((0 : Int) ≤ Pan.on (gpan l k)) && decide (Pan.on (gpan l k) < (↑k : Int))) == true) = true → True)) (V.gd ((decide ((0 : Int) ≤ Pan.on (gpan l k)) && decide (Pan.on (gpan l k) < (↑k : Int))) == true) (V.ref 200005 1)), pc 79 (((((decide ((0 : Int) ≤ Pan.on (gpan l k)) && decide (Pan.on (gpan l k) < (↑k : Int))) == true) = true → ((decide ((0 : Int) ≤ Pan.on (gpan l k)) && decide (Pan.on (gpan l k) < (↑k : Int))) == true) = true) ∧ True) ∧ (((decide ((0 : Int) ≤ Pan.on (gpan l k)) && decide (Pan.on (gpan l k) < (↑k : Int))) == true) = true → (1 : Nat) ≤ (5 : Nat))) (V.gd ((decide ((0 : Int) ≤ Pan.on (gpan l k)) && decide (Pan.on (gpan l k) < (↑k : Int))) == true) (V.i (Pan.edge (gpan l k)))), pc 80 (((((decide ((0 : Int) ≤ Pan.on (gpan l k)) && decide (Pan.on (gpan l k) < (↑k : Int))) == true) = true → ((decide ((0 : Int) ≤ Pan.on (gpan l k)) && decide (Pan.on (gpan l k) < (↑k : Int))) == true) = true) ∧ True ∧ True) ∧ (((decide ((0 : Int) ≤ Pan.on (gpan l k)) && decide (Pan.on (gpan l k) < (↑k : Int))) == true) = true → True)) (V.gd ((decide ((0 : Int) ≤ Pan.on (gpan l k)) && decide (Pan.on (gpan l k) < (↑k : Int))) == true) (V.b (decide ((0 : Int) ≤ Pan.edge (gpan l k))))), pc 81 (((decide ((0 : Int) ≤ Pan.on (gpan l k)) && decide (Pan.on (gpan l k) < (↑k : Int))) = true → ((decide ((0 : Int) ≤ Pan.on (gpan l k)) && decide (Pan.on (gpan l k) < (↑k : Int))) == true) = true) ∧ True) (V.b (decide ((0 : Int) ≤ Pan.on (gpan l k)) && decide (Pan.on (gpan l k) < (↑k : Int)) && decide ((0 : Int) ≤ Pan.edge (gpan l k)))), pv 82 (V.b (decide ((0 : Int) ≤ Pan.on (gpan l k)) && decide (Pan.on (gpan l k) < (↑k : Int)) && decide ((0 : Int) ≤ Pan.edge (gpan l k)))), pc 83 ((True ∧ True) ∧ (((decide ((0 : Int) ≤ Pan.on (gpan l k)) && decide (Pan.on (gpan l k) < (↑k : Int)) && decide ((0 : Int) ≤ Pan.edge (gpan l k))) == true) = true → True)) (V.gd ((decide ((0 : Int) ≤ Pan.on (gpan l k)) && decide (Pan.on (gpan l k) < (↑k : Int)) && decide ((0 : Int) ≤ Pan.edge (gpan l k))) == true) (V.ref 200005 1)), pc 84 (((((decide ((0 : Int) ≤ Pan.on (gpan l k)) && decide (Pan.on (gpan l k) < (↑k : Int)) && decide ((0 : Int) ≤ Pan.edge (gpan l k))) == true) = true → ((decide ((0 : Int) ≤ Pan.on (gpan l k)) && decide (Pan.on (gpan l k) < (↑k : Int)) && decide ((0 : Int) ≤ Pan.edge (gpan l k))) == true) = true) ∧ True) ∧ (((decide ((0 : Int) ≤ Pan.on (gpan l k)) && decide (Pan.on (gpan l k) < (↑k : Int)) && decide ((0 : Int) ≤ Pan.edge (gpan l k))) == true) = true → (1 : Nat) ≤ (5 : Nat))) (V.gd ((decide ((0 : Int) ≤ Pan.on (gpan l k)) && decide (Pan.on (gpan l k) < (↑k : Int)) && decide ((0 : Int) ≤ Pan.edge (gpan l k))) == true) (V.i (Pan.edge (gpan l k)))), pc 85 (((((decide ((0 : Int) ≤ Pan.on (gpan l k)) && decide (Pan.on (gpan l k) < (↑k : Int)) && decide ((0 : Int) ≤ Pan.edge (gpan l k))) == true) = true → ((decide ((0 : Int) ≤ Pan.on (gpan l k)) && decide (Pan.on (gpan l k) < (↑k : Int)) && decide ((0 : Int) ≤ Pan.edge (gpan l k))) == true) = true) ∧ True ∧ True) ∧ (((decide ((0 : Int) ≤ Pan.on (gpan l k)) && decide (Pan.on (gpan l k) < (↑k : Int)) && decide ((0 : Int) ≤ Pan.edge (gpan l k))) == true) = true → True)) (V.gd ((decide ((0 : Int) ≤ Pan.on (gpan l k)) && decide (Pan.on (gpan l k) < (↑k : Int)) && decide ((0 : Int) ≤ Pan.edge (gpan l k))) == true) (V.b (decide (Pan.edge (gpan l k) ≤ 3)))), pc 86 (((decide ((0 : Int) ≤ Pan.on (gpan l k)) && decide (Pan.on (gpan l k) < (↑k : Int)) && decide ((0 : Int) ≤ Pan.edge (gpan l k))) = true → ((decide ((0 : Int) ≤ Pan.on (gpan l k)) && decide (Pan.on (gpan l k) < (↑k : Int)) && decide ((0 : Int) ≤ Pan.edge (gpan l k))) == true) = true) ∧ True) (V.b (decide ((0 : Int) ≤ Pan.on (gpan l k)) && decide (Pan.on (gpan l k) < (↑k : Int)) && decide ((0 : Int) ≤ Pan.edge (gpan l k)) && decide (Pan.edge (gpan l k) ≤ 3))), pv 87 (V.b (decide ((0 : Int) ≤ Pan.on (gpan l k)) && decide (Pan.on (gpan l k) < (↑k : Int)) && decide ((0 : Int) ≤ Pan.edge (gpan l k)) && decide (Pan.edge (gpan l k) ≤ 3))), pc 88 ((True ∧ True) ∧ (((decide ((0 : Int) ≤ Pan.on (gpan l k)) && decide (Pan.on (gpan l k) < (↑k : Int)) && decide ((0 : Int) ≤ Pan.edge (gpan l k)) && decide (Pan.edge (gpan l k) ≤ 3)) == true) = true → True)) (V.gd ((decide ((0 : Int) ≤ Pan.on (gpan l k)) && decide (Pan.on (gpan l k) < (↑k : Int)) && decide ((0 : Int) ≤ Pan.edge (gpan l k)) && decide (Pan.edge (gpan l k) ≤ 3)) == true) (V.ref 200005 2)), pc 89 (((((decide ((0 : Int) ≤ Pan.on (gpan l k)) && decide (Pan.on (gpan l k) < (↑k : Int)) && decide ((0 : Int) ≤ Pan.edge (gpan l k)) && decide (Pan.edge (gpan l k) ≤ 3)) == true) = true → ((decide ((0 : Int) ≤ Pan.on (gpan l k)) && decide (Pan.on (gpan l k) < (↑k : Int)) && decide ((0 : Int) ≤ Pan.edge (gpan l k)) && decide (Pan.edge (gpan l k) ≤ 3)) == true) = true) ∧ True) ∧ (((decide ((0 : Int) ≤ Pan.on (gpan l k)) && decide (Pan.on (gpan l k) < (↑k : Int)) && decide ((0 : Int) ≤ Pan.edge (gpan l k)) && decide (Pan.edge (gpan l k) ≤ 3)) == true) = true → (2 : Nat) ≤ (5 : Nat))) (V.gd ((decide ((0 : Int) ≤ Pan.on (gpan l k)) && decide (Pan.on (gpan l k) < (↑k : Int)) && decide ((0 : Int) ≤ Pan.edge (gpan l k)) && decide (Pan.edge (gpan l k) ≤ 3)) == true) (V.i (Pan.off (gpan l k))))] kR kR ⟨oM, ⟨⟨tI, tI⟩, (fun _ => tI)⟩, ⟨⟨(by (exact fun h => h)), tI⟩, (by (intro _; simp; done))⟩, ⟨⟨tI, tI⟩, (fun _ => tI)⟩, ⟨⟨(by (exact fun h => h)), ⟨(by (exact fun h => h)), tI⟩⟩, (fun _ => tI)⟩, ⟨(by (intro h; rw [h]; rfl)), tI⟩, ⟨⟨tI, tI⟩, (fun _ => tI)⟩, ⟨⟨(by (exact fun h => h)), tI⟩, (by (intro _; simp; done))⟩, ⟨⟨(by (exact fun h => h)), ⟨tI, tI⟩⟩, (fun _ => tI)⟩, ⟨(by (intro h; rw [h]; rfl)), tI⟩, ⟨⟨tI, tI⟩, (fun _ => tI)⟩, ⟨⟨(by (exact fun h => h)), tI⟩, (by (intro _; simp; done))⟩, ⟨⟨(by (exact fun h => h)), ⟨tI, tI⟩⟩, (fun _ => tI)⟩, ⟨(by (intro h; rw [h]; rfl)), tI⟩, ⟨⟨tI, tI⟩, (fun _ => tI)⟩, ⟨⟨(by (exact fun h => h)), tI⟩, (by (intro _; simp; done))⟩, tI⟩ ?_
  refine eG 1 (g := (decide ((0 : Int) ≤ Pan.on (gpan l k)) && decide (Pan.on (gpan l k) < (↑k : Int)) && decide ((0 : Int) ≤ Pan.edge (gpan l k)) && decide (Pan.edge (gpan l k) ≤ 3)) == true) (fun h => soutside_ac (gpan l k).off (-65536) 65536) ?_
  refine aops_n hTT (M := []) (n := 2) [pc 91 (((((decide ((0 : Int) ≤ Pan.on (gpan l k)) && decide (Pan.on (gpan l k) < (↑k : Int)) && decide ((0 : Int) ≤ Pan.edge (gpan l k)) && decide (Pan.edge (gpan l k) ≤ 3)) == true) = true → ((decide ((0 : Int) ≤ Pan.on (gpan l k)) && decide (Pan.on (gpan l k) < (↑k : Int)) && decide ((0 : Int) ≤ Pan.edge (gpan l k)) && decide (Pan.edge (gpan l k) ≤ 3)) == true) = true) ∧ True) ∧ (((decide ((0 : Int) ≤ Pan.on (gpan l k)) && decide (Pan.on (gpan l k) < (↑k : Int)) && decide ((0 : Int) ≤ Pan.edge (gpan l k)) && decide (Pan.edge (gpan l k) ≤ 3)) == true) = true → True)) (V.gd ((decide ((0 : Int) ≤ Pan.on (gpan l k)) && decide (Pan.on (gpan l k) < (↑k : Int)) && decide ((0 : Int) ≤ Pan.edge (gpan l k)) && decide (Pan.edge (gpan l k) ≤ 3)) == true) (V.b !(decide (Pan.off (gpan l k) < (-65536 : Int)) || decide ((65536 : Int) < Pan.off (gpan l k))))), pc 92 (((decide ((0 : Int) ≤ Pan.on (gpan l k)) && decide (Pan.on (gpan l k) < (↑k : Int)) && decide ((0 : Int) ≤ Pan.edge (gpan l k)) && decide (Pan.edge (gpan l k) ≤ 3)) = true → ((decide ((0 : Int) ≤ Pan.on (gpan l k)) && decide (Pan.on (gpan l k) < (↑k : Int)) && decide ((0 : Int) ≤ Pan.edge (gpan l k)) && decide (Pan.edge (gpan l k) ≤ 3)) == true) = true) ∧ True) (V.b (decide ((0 : Int) ≤ Pan.on (gpan l k)) && decide (Pan.on (gpan l k) < (↑k : Int)) && decide ((0 : Int) ≤ Pan.edge (gpan l k)) && decide (Pan.edge (gpan l k) ≤ 3) && !(decide (Pan.off (gpan l k) < (-65536 : Int)) || decide ((65536 : Int) < Pan.off (gpan l k)))))] kR kR ⟨⟨⟨(by (exact fun h => h)), tI⟩, (fun _ => tI)⟩, ⟨(by (intro h; rw [h]; rfl)), tI⟩, tI⟩ ?_
  refine aops_nil ?_
  refine ⟨decide ((0 : Int) ≤ Pan.on (gpan l k)) && decide (Pan.on (gpan l k) < (↑k : Int)) && decide ((0 : Int) ≤ Pan.edge (gpan l k)) && decide (Pan.edge (gpan l k) ≤ 3) && !(decide (Pan.off (gpan l k) < (-65536 : Int)) || decide ((65536 : Int) < Pan.off (gpan l k))), (2 : Int), kR, by kernel_rfl, fun h1 => ?_, fun h1 => ?_⟩
  rotate_left
  ·
   have ho : ¬ (gpan l k).okI k := by unfold Pan.okI; simp at h1; omega
   have hE2 := netE_pan hne c1 hE (by rw [panE_I oM hs ho]; omega)
   rw [panE_I oM hs ho] at hE2
   refine xt_p ?_
   refine xb_p ?_
   refine xt_p ?_
   refine xt_p ?_
   refine xb_p ?_
   refine xt_p ?_
   rw [flatV, if_neg oM, hE2]
   exact .inr ⟨_, _, _, _, _, rfl, rfl, rfl, rfl, rfl, rfl⟩
  have ho : (gpan l k).okI k := by unfold Pan.okI; simp at h1; omega
  have ho2 := ho
  obtain ⟨⟨o1, o2⟩, ⟨o3, o4⟩, o5⟩ := ho2
  clear h1
  have hall : ∀ j, j < k → (gpan l j).szOk ∧ (0 < j → (gpan l j).okI j) := fun j hj => by
   obtain ⟨p1, _, p3⟩ := panE_inv (fstE_ok.1 hE j hj)
   exact ⟨p1, fun h => (p3 h).1⟩
  have hall2 : ∀ j, j ≤ k → (gpan l j).szOk ∧ (0 < j → (gpan l j).okI j) := fun j hj => by
   by_cases he : j = k
   ·
    subst he; exact ⟨hs, fun _ => ho⟩
   ·
    exact hall j oM
  have hon : (gpan l k).on.toNat < k := by omega
  have b1 : (rcF l (gpan l k).on.toNat).bd 1703936 := Rc.bd_mono (rcF_bd _ fun j hj => hall2 j oM) oM
  have b2 : (rcF l k).bd 1703936 := Rc.bd_mono (rcF_bd k hall2) oM
  have A1 := hang_ac _ _ (Rc.bd_mono b1 oM) hs o5
  rw [← rcF_succ l oM hon] at A1
  have A2 := common_ac _ _ (Rc.bd_mono b2 oM) (Rc.bd_mono b1 oM)
  rw [comW_comm, comH_comm] at A2
  refine xt_n (hK _ ?_); clear hK K; refine sK fun K hK => wD 7 ?_
  refine aops_n hTT (M := []) (n := 6) [pc 94 ((0 : Nat) ≤ (1 : Nat)) (V.own 5), pv 95 (V.ref 200005 0), pc 96 ((0 : Nat) ≤ (5 : Nat)) (V.i (Pan.on (gpan l k))), pc 97 ((0 : Int) ≤ Pan.on (gpan l k) ∧ Pan.on (gpan l k) < (↑k : Int)) (V.oel 5 5 (Int.toNat (Pan.on (gpan l k))) (0 : Nat)), pc 98 (Int.toNat (Pan.on (gpan l k)) < k ∧ (0 : Nat) ≤ (5 : Nat)) (V.agg [V.i (Rc.x0 (rcF l (Int.toNat (Pan.on (gpan l k))))), V.i (Rc.y0 (rcF l (Int.toNat (Pan.on (gpan l k))))), V.i (Rc.x1 (rcF l (Int.toNat (Pan.on (gpan l k))))), V.i (Rc.y1 (rcF l (Int.toNat (Pan.on (gpan l k))))), V.b (Rc.down (rcF l (Int.toNat (Pan.on (gpan l k)))))]), pc 99 ((0 : Nat) ≤ (5 : Nat)) (V.agg [V.i (Pan.on (gpan l k)), V.i (Pan.edge (gpan l k)), V.i (Pan.off (gpan l k)), V.i (Pan.wide (gpan l k)), V.i (Pan.high (gpan l k))])] kR kR ⟨oM, oM, oM, oM, oM, tI⟩ ?_
  refine eC (A1) ?_
  refine aops_n hTT (M := []) (n := 2) [pn 6 (V.ref 600006 0) (600006 : Nat) (Ob.box 95 [V.i 0, V.i 0, V.i 0, V.i 0, V.b false]), pw ((0 : Nat) + (5 : Nat) ≤ (5 : Nat)) (600006 : Nat) (Ob.box 95 [V.i (Rc.x0 (rcF l k)), V.i (Rc.y0 (rcF l k)), V.i (Rc.x1 (rcF l k)), V.i (Rc.y1 (rcF l k)), V.b (Rc.down (rcF l k))])] kR kR ⟨oM, tI⟩ ?_
  refine aops_nil ⟨kR, ?_⟩; refine xt_n (hK _ ?_); clear hK K; refine sK fun K hK => wD 8 ?_
  refine aops_n hTT (M := []) (n := 6) [pc 102 ((0 : Nat) ≤ (5 : Nat)) (V.agg [V.i (Rc.x0 (rcF l k)), V.i (Rc.y0 (rcF l k)), V.i (Rc.x1 (rcF l k)), V.i (Rc.y1 (rcF l k)), V.b (Rc.down (rcF l k))]), pc 103 ((0 : Nat) ≤ (1 : Nat)) (V.own 5), pv 104 (V.ref 200005 0), pc 105 ((0 : Nat) ≤ (5 : Nat)) (V.i (Pan.on (gpan l k))), pc 106 ((0 : Int) ≤ Pan.on (gpan l k) ∧ Pan.on (gpan l k) < (↑k : Int)) (V.oel 5 5 (Int.toNat (Pan.on (gpan l k))) (0 : Nat)), pc 107 (Int.toNat (Pan.on (gpan l k)) < k ∧ (0 : Nat) ≤ (5 : Nat)) (V.agg [V.i (Rc.x0 (rcF l (Int.toNat (Pan.on (gpan l k))))), V.i (Rc.y0 (rcF l (Int.toNat (Pan.on (gpan l k))))), V.i (Rc.x1 (rcF l (Int.toNat (Pan.on (gpan l k))))), V.i (Rc.y1 (rcF l (Int.toNat (Pan.on (gpan l k))))), V.b (Rc.down (rcF l (Int.toNat (Pan.on (gpan l k)))))])] kR kR ⟨oM, oM, oM, oM, oM, tI⟩ ?_
  refine eC (A2) ?_
  refine aops_n hTT (M := []) (n := 5) [pv 101 (V.tup [V.i (comW (rcF l (Int.toNat (Pan.on (gpan l k)))) (rcF l k)), V.i (comH (rcF l (Int.toNat (Pan.on (gpan l k)))) (rcF l k))]), pv 109 (V.i (comW (rcF l (Int.toNat (Pan.on (gpan l k)))) (rcF l k))), pv 110 (V.i (comH (rcF l (Int.toNat (Pan.on (gpan l k)))) (rcF l k))), pv 7 (V.i (comW (rcF l (Int.toNat (Pan.on (gpan l k)))) (rcF l k))), pv 8 (V.i (comH (rcF l (Int.toNat (Pan.on (gpan l k)))) (rcF l k)))] kR kR tI ?_
  refine aops_nil ⟨kR, ?_⟩; refine xt_n (hK _ ?_); clear hK K; refine sK fun K hK => ?_
  refine aw_must hMust hF 6 kR rfl kR (n' := 9) kR ?_
  refine aops_n hTT (M := []) (n := 6) [pv 111 (V.i (comW (rcF l (Int.toNat (Pan.on (gpan l k)))) (rcF l k))), pv 112 (V.b (decide ((0 : Int) < comW (rcF l (Int.toNat (Pan.on (gpan l k)))) (rcF l k)))), pv 113 (V.b (decide ((0 : Int) < comW (rcF l (Int.toNat (Pan.on (gpan l k)))) (rcF l k)))), pc 114 ((True ∧ True) ∧ ((decide ((0 : Int) < comW (rcF l (Int.toNat (Pan.on (gpan l k)))) (rcF l k)) == false) = true → True)) (V.gd (decide ((0 : Int) < comW (rcF l (Int.toNat (Pan.on (gpan l k)))) (rcF l k)) == false) (V.i (comH (rcF l (Int.toNat (Pan.on (gpan l k)))) (rcF l k)))), pc 115 ((((decide ((0 : Int) < comW (rcF l (Int.toNat (Pan.on (gpan l k)))) (rcF l k)) == false) = true → (decide ((0 : Int) < comW (rcF l (Int.toNat (Pan.on (gpan l k)))) (rcF l k)) == false) = true) ∧ True ∧ True) ∧ ((decide ((0 : Int) < comW (rcF l (Int.toNat (Pan.on (gpan l k)))) (rcF l k)) == false) = true → True)) (V.gd (decide ((0 : Int) < comW (rcF l (Int.toNat (Pan.on (gpan l k)))) (rcF l k)) == false) (V.b (decide ((0 : Int) < comH (rcF l (Int.toNat (Pan.on (gpan l k)))) (rcF l k))))), pc 116 (True ∧ (decide ((0 : Int) < comW (rcF l (Int.toNat (Pan.on (gpan l k)))) (rcF l k)) = false → (decide ((0 : Int) < comW (rcF l (Int.toNat (Pan.on (gpan l k)))) (rcF l k)) == false) = true)) (V.b (decide ((0 : Int) < comW (rcF l (Int.toNat (Pan.on (gpan l k)))) (rcF l k)) || decide ((0 : Int) < comH (rcF l (Int.toNat (Pan.on (gpan l k)))) (rcF l k))))] kR kR ⟨⟨⟨tI, tI⟩, (fun _ => tI)⟩, ⟨⟨(by (exact fun h => h)), ⟨tI, tI⟩⟩, (fun _ => tI)⟩, ⟨tI, (by (intro h; rw [h]; rfl))⟩, tI⟩ ?_
  refine aops_nil ?_
  refine ⟨decide ((0 : Int) < comW (rcF l (Int.toNat (Pan.on (gpan l k)))) (rcF l k)) || decide ((0 : Int) < comH (rcF l (Int.toNat (Pan.on (gpan l k)))) (rcF l k)), (5 : Int), kR, by kernel_rfl, fun h1 => ?_, fun h1 => ?_⟩
  rotate_left
  ·
   have ht : comW (rcF l (gpan l k).on.toNat) (rcF l k) ≤ 0 ∧ comH (rcF l (gpan l k).on.toNat) (rcF l k) ≤ 0 := by simp at h1; omega
   have hE2 := netE_pan hne c1 hE (by rw [panE_T oM hs ho ht]; omega)
   rw [panE_T oM hs ho ht] at hE2
   refine xt_p ?_
   refine xb_p ?_
   refine xt_p ?_
   refine xt_p ?_
   refine xb_p ?_
   refine xt_p ?_
   rw [flatV, if_neg oM, hE2]
   exact .inr ⟨_, _, _, _, _, rfl, rfl, rfl, rfl, rfl, rfl⟩
  have ht : ¬ (comW (rcF l (gpan l k).on.toNat) (rcF l k) ≤ 0 ∧ comH (rcF l (gpan l k).on.toNat) (rcF l k) ≤ 0) := by simp at h1; omega
  clear h1
  refine xt_n (hK _ ?_); clear hK K; refine wR 10 ?_
  refine aops_n hTT (M := []) (n := 5) [pc 118 ((0 : Nat) ≤ (1 : Nat)) (V.own 5), pc 119 ((0 : Nat) ≤ (5 : Nat)) (V.agg [V.i (Rc.x0 (rcF l k)), V.i (Rc.y0 (rcF l k)), V.i (Rc.x1 (rcF l k)), V.i (Rc.y1 (rcF l k)), V.b (Rc.down (rcF l k))]), pv 120 (V.sl 5 1 fun (i : Nat) => List.take (5 : Nat) (List.drop (i * 5) [V.i (Rc.x0 (rcF l k)), V.i (Rc.y0 (rcF l k)), V.i (Rc.x1 (rcF l k)), V.i (Rc.y1 (rcF l k)), V.b (Rc.down (rcF l k))])), PR.mk (some (121 : Nat)) (some (k + 1 ≤ (1099511627776 : Nat))) (V.own 900121) [((5 : Nat), none), ((900121 : Nat), some (Ob.row 95 5 (k + 1) (appRow k (fun (j : Nat) => Rc.c (rcF l j)) fun (i : Nat) => List.take (5 : Nat) (List.drop (i * 5) [V.i (Rc.x0 (rcF l k)), V.i (Rc.y0 (rcF l k)), V.i (Rc.x1 (rcF l k)), V.i (Rc.y1 (rcF l k)), V.b (Rc.down (rcF l k))]))))] false, pw ((0 : Nat) + (1 : Nat) ≤ (1 : Nat)) (500 : Nat) (Ob.box 90 [V.own 900121])] kR kR ⟨oM, oM, oM, oM, tI⟩ ?_
  refine aops_nil ?_; refine xb_n ?_; refine xt_n (hK _ ?_); clear hK K; refine wR 11 ?_
  refine aops_n hTT (M := []) (n := 2) [pc 122 ((-9223372036854775808 : Int) ≤ (↑k : Int) + 1 ∧ (↑k : Int) + 1 ≤ (9223372036854775807 : Int)) (V.i ((↑k : Int) + 1)), pv 27 (V.i ((↑k : Int) + 1))] kR kR ⟨oM, tI⟩ ?_
  refine aops_nil ?_; refine xt_n ?_
  refine ⟨k + 1, ⟨by omega, by rw [fstE, if_pos hE]; exact panE_ok oM hs ho ht⟩, ?_, by omega⟩
  refine le_ren (tl := [(2, V.ref 500 0), (3, V.ref 501 0), (25, V.sl 5 (List.length l) fun (k : Nat) => Pan.c (gpan l k)), (26, V.i (↑(List.length l) : Int)), (27, V.i (↑(k + 1) : Int))]) (sl := [(500, Ob.box 90 [V.own 5]), (501, Ob.box 25 [V.i 0]), (5, Ob.row 95 5 (k + 1) fun (j : Nat) => Rc.c (rcF l j))]) [(5, 900121)] (.cons kR (.cons kR (.cons kR (.cons kR (.cons kR .nil))))) (.cons ⟨Ob.box 90 [V.own 900121], kR, .box kR⟩ (.cons ⟨Ob.box 25 [V.i 0], kR, .box kR⟩ (.cons ⟨Ob.row 95 5 (k + 1) (appRow k (fun (j : Nat) => Rc.c (rcF l j)) fun (i : Nat) => List.take (5 : Nat) (List.drop (i * 5) [V.i (Rc.x0 (rcF l k)), V.i (Rc.y0 (rcF l k)), V.i (Rc.x1 (rcF l k)), V.i (Rc.y1 (rcF l k)), V.b (Rc.down (rcF l k))])), kR, .row kR ?_⟩ .nil))) kR kR
  exact appRow_ok (fun _ _ => rfl) rfl
 simp at c1
 obtain rfl : k = l.length := by omega
 refine aw_exit ?_
 refine xt_x ?_; refine xt_x ?_
 refine xb_same ?_
 refine xt_n ?_; clear hK K; refine hK _ ?_; clear hK K; refine sK fun K hK => ?_; refine sK fun K hK => wR 3 ?_
 refine aops_n hTT (M := []) (n := 3) [pc 123 ((0 : Nat) ≤ (1 : Nat)) (V.own 5), pv 124 (V.i (↑(List.length l) : Int)), pv 125 (V.i 0)] kR kR ⟨oM, tI⟩ ?_
 refine nK hK ?_; clear hK K
 refine aw_block ?_
 refine w_le (le_freezeIn 5 (e := (95 : Nat)) (sz := (5 : Nat)) (n := List.length l) (n' := l.length) (row := fun (j : Nat) => Rc.c (rcF l j)) (row' := (fun j => (rcF l j).c)) kR (fun _ => rfl) ?_ ?_) ?_
 ·
  rfl
 ·
  exact fun _ _ => rfl
 have hbd : ∀ i, i < l.length → (rcF l i).bd 1703936 := fun i hi => Rc.bd_mono (rcF_bd i fun j hj => by
  obtain ⟨p1, _, p3⟩ := panE_inv (fstE_ok.1 hE j oM)
  exact ⟨p1, fun h => (p3 h).1⟩) oM
 refine w_loop (ι := Nat) (fun k => [(2, .ref 500 0), (3, .ref 501 0), (123, V.rcs l.length (rcF l)), (124, .i l.length), (125, .i k)]) (fun k => [(500, .box 90 [V.rcs l.length (rcF l)]), (501, .box 25 [.i 0])]) (fun k => k ≤ l.length ∧ ∀ i j, j < i → i < k → ¬ lapB l i j) (fun k => l.length - k) 0 ⟨Nat.zero_le _, fun i j _ hi => by omega⟩ ?_ ?_
 ·
  refine le_ren (sl := [(500, Ob.box 90 [V.sl 5 (List.length l) fun (k : Nat) => Rc.c (rcF l k)]), (501, Ob.box 25 [V.i 0])]) [] (.cons kR (.cons kR (.cons kR (.cons kR (.cons kR .nil))))) (.cons ⟨Ob.box 90 [V.sl 5 (List.length l) fun (j : Nat) => Rc.c (rcF l j)], kR, .box kR⟩ (.cons ⟨Ob.box 25 [V.i 0], kR, .box kR⟩ .nil)) kR kR
 rintro i ⟨hi, hL⟩
 refine sK fun K hK => wR 2 ?_
 refine aops_n hTT (M := []) (n := 1) [pv 126 (V.b (decide ((↑i : Int) < (↑(List.length l) : Int))))] kR kR tI ?_
 refine nK hK ?_; clear hK K; refine sK fun K hK => ?_
 refine w_cond (t := decide ((↑i : Int) < (↑(List.length l) : Int))) kR (fun c1 => ?_) (fun c1 => ?_)
 ·
  simp at c1
  refine aw_skip ?_
  refine xt_n (hK _ ?_); clear hK K; refine sK fun K hK => ?_
  refine aw_block ?_
  refine sK fun K hK => wR 3 ?_
  refine aops_n hTT (M := []) (n := 6) [pv 127 (V.i (↑i : Int)), pc 128 ((0 : Int) ≤ (↑i : Int) ∧ (↑i : Int) < (↑(List.length l) : Int)) (V.ptr [V.i (Rc.x0 (rcF l i)), V.i (Rc.y0 (rcF l i)), V.i (Rc.x1 (rcF l i)), V.i (Rc.y1 (rcF l i)), V.b (Rc.down (rcF l i))]), pv 129 (V.agg [V.i (Rc.x0 (rcF l i)), V.i (Rc.y0 (rcF l i)), V.i (Rc.x1 (rcF l i)), V.i (Rc.y1 (rcF l i)), V.b (Rc.down (rcF l i))]), pn 10 (V.ref 200010 0) (200010 : Nat) (Ob.box 95 [V.i 0, V.i 0, V.i 0, V.i 0, V.b false]), pv 9 (V.i (↑i : Int)), pw ((0 : Nat) + (5 : Nat) ≤ (5 : Nat)) (200010 : Nat) (Ob.box 95 [V.i (Rc.x0 (rcF l i)), V.i (Rc.y0 (rcF l i)), V.i (Rc.x1 (rcF l i)), V.i (Rc.y1 (rcF l i)), V.b (Rc.down (rcF l i))])] kR kR ⟨oM, oM, tI⟩ ?_
  refine nK hK ?_; clear hK K; refine sK fun K hK => wR 4 ?_
  refine aops_n hTT (M := []) (n := 5) [pc 130 ((0 : Nat) ≤ (1 : Nat)) (V.sl 5 (List.length l) fun (k : Nat) => Rc.c (rcF l k)), pv 131 (V.i (↑i : Int)), pc 132 ((0 : Int) ≤ (0 : Int) ∧ (0 : Int) ≤ (↑i : Int) ∧ (↑i : Int) ≤ (↑(List.length l) : Int)) (V.sl 5 (i - 0) fun (i : Nat) => Rc.c (rcF l (i + 0))), pv 133 (V.i (↑(i - 0) : Int)), pv 134 (V.i 0)] kR kR ⟨oM, ⟨oM, oM⟩, tI⟩ ?_
  refine nK hK ?_; clear hK K
  refine aw_block ?_
  refine w_loop (ι := Nat) (fun k => [(2, .ref 500 0), (3, .ref 501 0), (10, .ref 10 0), (123, V.rcs l.length (rcF l)), (124, .i l.length), (125, .i i), (132, V.rcs i (rcF l)), (133, .i i), (134, .i k)]) (fun k => [(500, .box 90 [V.rcs l.length (rcF l)]), (501, .box 25 [.i 0]), (10, .box 95 (rcF l i).c)]) (fun k => k ≤ i ∧ ∀ j, j < k → ¬ lapB l i j) (fun k => i - k) 0 ⟨Nat.zero_le _, fun j hj => by omega⟩ ?_ ?_
  ·
   refine le_ren (sl := [(500, Ob.box 90 [V.sl 5 (List.length l) fun (k : Nat) => Rc.c (rcF l k)]), (501, Ob.box 25 [V.i 0]), (10, Ob.box 95 [V.i (Rc.x0 (rcF l i)), V.i (Rc.y0 (rcF l i)), V.i (Rc.x1 (rcF l i)), V.i (Rc.y1 (rcF l i)), V.b (Rc.down (rcF l i))])]) [(10, 200010)] (.cons kR (.cons kR (.cons kR (.cons kR (.cons kR (.cons kR (.cons kR (.cons kR (.cons kR .nil))))))))) (.cons ⟨Ob.box 90 [V.sl 5 (List.length l) fun (k : Nat) => Rc.c (rcF l k)], kR, .box kR⟩ (.cons ⟨Ob.box 25 [V.i 0], kR, .box kR⟩ (.cons ⟨Ob.box 95 [V.i (Rc.x0 (rcF l i)), V.i (Rc.y0 (rcF l i)), V.i (Rc.x1 (rcF l i)), V.i (Rc.y1 (rcF l i)), V.b (Rc.down (rcF l i))], kR, .box kR⟩ .nil))) kR kR
  rintro k ⟨hk, hM⟩
  refine sK fun K hK => wR 2 ?_
  refine aops_n hTT (M := []) (n := 1) [pv 135 (V.b (decide ((↑k : Int) < (↑i : Int))))] kR kR tI ?_
  refine nK hK ?_; clear hK K; refine sK fun K hK => ?_
  refine w_cond (t := decide ((↑k : Int) < (↑i : Int))) kR (fun c2 => ?_) (fun c2 => ?_)
  ·
   simp at c2
   refine aw_skip ?_
   refine xt_n (hK _ ?_); clear hK K; refine sK fun K hK => ?_
   refine aw_block ?_
   refine sK fun K hK => wR 3 ?_
   refine aops_n hTT (M := []) (n := 4) [pc 136 ((0 : Int) ≤ (↑k : Int) ∧ (↑k : Int) < (↑i : Int)) (V.ptr [V.i (Rc.x0 (rcF l k)), V.i (Rc.y0 (rcF l k)), V.i (Rc.x1 (rcF l k)), V.i (Rc.y1 (rcF l k)), V.b (Rc.down (rcF l k))]), pv 137 (V.agg [V.i (Rc.x0 (rcF l k)), V.i (Rc.y0 (rcF l k)), V.i (Rc.x1 (rcF l k)), V.i (Rc.y1 (rcF l k)), V.b (Rc.down (rcF l k))]), pn 12 (V.ref 200012 0) (200012 : Nat) (Ob.box 95 [V.i 0, V.i 0, V.i 0, V.i 0, V.b false]), pw ((0 : Nat) + (5 : Nat) ≤ (5 : Nat)) (200012 : Nat) (Ob.box 95 [V.i (Rc.x0 (rcF l k)), V.i (Rc.y0 (rcF l k)), V.i (Rc.x1 (rcF l k)), V.i (Rc.y1 (rcF l k)), V.b (Rc.down (rcF l k))])] kR kR ⟨oM, oM, tI⟩ ?_
   refine nK hK ?_; clear hK K; refine sK fun K hK => wR 4 ?_
   refine aops_n hTT (M := []) (n := 2) [pc 139 ((0 : Nat) ≤ (5 : Nat)) (V.agg [V.i (Rc.x0 (rcF l i)), V.i (Rc.y0 (rcF l i)), V.i (Rc.x1 (rcF l i)), V.i (Rc.y1 (rcF l i)), V.b (Rc.down (rcF l i))]), pc 140 ((0 : Nat) ≤ (5 : Nat)) (V.agg [V.i (Rc.x0 (rcF l k)), V.i (Rc.y0 (rcF l k)), V.i (Rc.x1 (rcF l k)), V.i (Rc.y1 (rcF l k)), V.b (Rc.down (rcF l k))])] kR kR ⟨oM, oM, tI⟩ ?_
   refine eC (common_ac _ _ (Rc.bd_mono (hbd i c1) oM) (Rc.bd_mono (hbd k oM) oM)) ?_
   refine aops_n hTT (M := []) (n := 5) [pv 138 (V.tup [V.i (comW (rcF l i) (rcF l k)), V.i (comH (rcF l i) (rcF l k))]), pv 142 (V.i (comW (rcF l i) (rcF l k))), pv 143 (V.i (comH (rcF l i) (rcF l k))), pv 13 (V.i (comW (rcF l i) (rcF l k))), pv 14 (V.i (comH (rcF l i) (rcF l k)))] kR kR tI ?_
   refine nK hK ?_; clear hK K
   refine aw_must hMust hF 6 kR rfl kR (n' := 5) kR ?_
   refine aops_n hTT (M := []) (n := 6) [pv 144 (V.i (comW (rcF l i) (rcF l k))), pv 145 (V.b (decide (comW (rcF l i) (rcF l k) ≤ 0))), pv 146 (V.b (decide (comW (rcF l i) (rcF l k) ≤ 0))), pc 147 ((True ∧ True) ∧ ((decide (comW (rcF l i) (rcF l k) ≤ 0) == false) = true → True)) (V.gd (decide (comW (rcF l i) (rcF l k) ≤ 0) == false) (V.i (comH (rcF l i) (rcF l k)))), pc 148 ((((decide (comW (rcF l i) (rcF l k) ≤ 0) == false) = true → (decide (comW (rcF l i) (rcF l k) ≤ 0) == false) = true) ∧ True ∧ True) ∧ ((decide (comW (rcF l i) (rcF l k) ≤ 0) == false) = true → True)) (V.gd (decide (comW (rcF l i) (rcF l k) ≤ 0) == false) (V.b (decide (comH (rcF l i) (rcF l k) ≤ 0)))), pc 149 (True ∧ (decide (comW (rcF l i) (rcF l k) ≤ 0) = false → (decide (comW (rcF l i) (rcF l k) ≤ 0) == false) = true)) (V.b (decide (comW (rcF l i) (rcF l k) ≤ 0) || decide (comH (rcF l i) (rcF l k) ≤ 0)))] kR kR ⟨⟨⟨tI, tI⟩, (fun _ => tI)⟩, ⟨⟨(by (exact fun h => h)), ⟨tI, tI⟩⟩, (fun _ => tI)⟩, ⟨tI, (by (intro h; rw [h]; rfl))⟩, tI⟩ ?_
   refine aops_nil ?_
   refine ⟨decide (comW (rcF l i) (rcF l k) ≤ 0) || decide (comH (rcF l i) (rcF l k) ≤ 0), (20 : Int), kR, by kernel_rfl, fun h1 => ?_, fun h1 => ?_⟩
   rotate_left
   ·
    have hl : lapB l i k := by unfold lapB; simp at h1; omega
    have hE2 := netE_lap hne hE c2 c1 hl
    refine xb_p ?_
    refine xt_p ?_
    refine xt_p ?_
    refine xb_p ?_
    refine xb_p ?_
    refine xt_p ?_
    refine xt_p ?_
    refine xb_p ?_
    refine xt_p ?_
    rw [flatV, if_neg oM, hE2]
    exact .inr ⟨_, _, _, _, _, rfl, rfl, rfl, rfl, rfl, rfl⟩
   have hl : ¬ lapB l i k := by unfold lapB; simp at h1; omega
   clear h1
   refine xb_n ?_; refine xt_n (hK _ ?_); clear hK K; refine wR 6 ?_
   refine aops_n hTT (M := []) (n := 2) [pc 151 ((-9223372036854775808 : Int) ≤ (↑k : Int) + 1 ∧ (↑k : Int) + 1 ≤ (9223372036854775807 : Int)) (V.i ((↑k : Int) + 1)), pv 134 (V.i ((↑k : Int) + 1))] kR kR ⟨oM, tI⟩ ?_
   refine aops_nil ?_; refine xt_n ?_
   refine ⟨k + 1, ⟨by omega, fun j hj => ?_⟩, by refine le_ren (sl := [(500, Ob.box 90 [V.sl 5 (List.length l) fun (k : Nat) => Rc.c (rcF l k)]), (501, Ob.box 25 [V.i 0]), (10, Ob.box 95 [V.i (Rc.x0 (rcF l i)), V.i (Rc.y0 (rcF l i)), V.i (Rc.x1 (rcF l i)), V.i (Rc.y1 (rcF l i)), V.b (Rc.down (rcF l i))])]) [(10, 10)] (.cons kR (.cons kR (.cons kR (.cons kR (.cons kR (.cons kR (.cons kR (.cons kR (.cons kR .nil))))))))) (.cons ⟨Ob.box 90 [V.sl 5 (List.length l) fun (k : Nat) => Rc.c (rcF l k)], kR, .box kR⟩ (.cons ⟨Ob.box 25 [V.i 0], kR, .box kR⟩ (.cons ⟨Ob.box 95 [V.i (Rc.x0 (rcF l i)), V.i (Rc.y0 (rcF l i)), V.i (Rc.x1 (rcF l i)), V.i (Rc.y1 (rcF l i)), V.b (Rc.down (rcF l i))], kR, .box kR⟩ .nil))) kR kR, by omega⟩
   by_cases he : j = k
   ·
    subst he; exact hl
   ·
    exact hM j oM
  simp at c2
  obtain rfl : k = i := by omega
  refine aw_exit ?_
  refine xt_x ?_; refine xt_x ?_
  refine xb_same ?_
  refine xb_n ?_; refine xt_n ?_; clear hK K; refine hK _ ?_; clear hK K; refine wR 3 ?_
  refine aops_n hTT (M := []) (n := 2) [pc 152 ((-9223372036854775808 : Int) ≤ (↑k : Int) + 1 ∧ (↑k : Int) + 1 ≤ (9223372036854775807 : Int)) (V.i ((↑k : Int) + 1)), pv 125 (V.i ((↑k : Int) + 1))] kR kR ⟨oM, tI⟩ ?_
  refine aops_nil ?_; refine xt_n ?_
  refine ⟨k + 1, ⟨by omega, fun a b hb ha => ?_⟩, by refine le_ren (sl := [(500, Ob.box 90 [V.sl 5 (List.length l) fun (k : Nat) => Rc.c (rcF l k)]), (501, Ob.box 25 [V.i 0])]) [] (.cons kR (.cons kR (.cons kR (.cons kR (.cons kR .nil))))) (.cons ⟨Ob.box 90 [V.sl 5 (List.length l) fun (k : Nat) => Rc.c (rcF l k)], kR, .box kR⟩ (.cons ⟨Ob.box 25 [V.i 0], kR, .box kR⟩ .nil)) kR kR, by omega⟩
  by_cases he : a = k
  ·
   subst he; exact hM b oM
  ·
   exact hL a b hb oM
 simp at c1
 obtain rfl : i = l.length := by omega
 refine aw_exit ?_
 refine xt_x ?_; refine xt_x ?_
 refine xb_same ?_
 refine xt_n ?_; clear hK K; refine hK _ ?_; clear hK K; refine sK fun K hK => wR 3 ?_
 refine aops_n hTT (M := []) (n := 3) [pc 153 ((0 : Nat) ≤ (1 : Nat)) (V.sl 5 (List.length l) fun (k : Nat) => Rc.c (rcF l k)), pw ((0 : Nat) + (1 : Nat) ≤ (1 : Nat)) (500 : Nat) (Ob.box 90 [V.sl 5 (List.length l) fun (k : Nat) => Rc.c (rcF l k)]), pw ((0 : Nat) + (1 : Nat) ≤ (1 : Nat)) (501 : Nat) (Ob.box 25 [V.i 0])] kR kR ⟨oM, oM, oM, tI⟩ ?_
 refine nK hK ?_; clear hK K
 refine aw_ret ?_
 have hE2 := netE_ok hne hE hL
 rw [flatV, if_pos hE2]
 refine .inl ⟨.inr rfl, ?_⟩
 refine ret_of_le (le_freezeBox (t := (90 : Nat)) (cs := [V.sl 5 (List.length l) fun (k : Nat) => Rc.c (rcF l k)]) 500 kR kR) ?_
 refine ret_of_le (le_freezeBox (t := (25 : Nat)) (cs := [V.i 0]) 501 kR kR) ?_
 refine rP (V.tup [V.sl 5 (List.length l) fun (k : Nat) => Rc.c (rcF l k), V.i 0])
end Go.Proofs.YtfckkkmacjjmhaaDoor

namespace Go.Proofs.YtfckkkmacjjmhaaDoor
open Go.Ab Go.RowKit Go.Dw Go.Shelf
def foldV (l : List Pan) : V := if netE l = 0 then .tup [V.rcs l.length (foldR l), .i 0] else .tup [.nil, .i (netE l)]
set_option maxHeartbeats 4000000 in
set_option maxRecDepth 100000 in
theorem folded_ac (l : List Pan) (hl : l.length ≤ 4611686018427387904) : AC Tryd.prog 62 [V.pans l] (foldV l) [] := by
 refine acI hTT hMX Tryd.func62 Tryd.ntmps62 fun C hC hF => ?_
 have A := flat_ac l hl
 refine sK fun K hK => wR 2 ?_; refine aX hTT 2 [] tI ?_; refine nK hK ?_; clear hK K; refine sK fun K hK => wR 3 ?_; refine aX hTT 1 [] tI ?_
 by_cases hE : netE l = 0
 ·
  rw [flatV, if_pos hE] at A
  have hN := netOk hE
  have hle := hN.le
  refine eC (A) ?_
  refine aX hTT 5 [] tI ?_; refine nK hK ?_; clear hK K; refine sK fun K hK => ?_; refine sK fun K hK => wR 4 ?_; refine aX hTT 2 [] tI ?_; refine nK hK ?_; clear hK K; refine w_false (t := false) kR rfl ?_
  refine aw_skip ?_
  refine xt_n (hK _ ?_); clear hK K; refine sK fun K hK => wR 5 ?_; refine aX hTT 1 [] tI ?_; refine nK hK ?_; clear hK K; refine sK fun K hK => ?_; refine sK fun K hK => wR 6 ?_; refine aX hTT 3 [] tI ?_; refine nK hK ?_; clear hK K
  refine aw_block ?_
  refine w_le (le_open 6 95 5 (fun k => (foldR l k).c) kR rfl) ?_
  refine w_loop (ι := Nat) (fun k => [(0, V.pans l), (4, V.rcs l.length (rcF l)), (6, .own 6), (18, V.rcs l.length (rcF l)), (19, .i l.length), (20, .i k)]) (fun k => [(6, .row 95 5 k fun j => (foldR l j).c)]) (fun k => k ≤ l.length) (fun k => l.length - k) 0 (Nat.zero_le _) ?_ ?_
  ·
   refine le_ren (sl := [(6, Ob.row 95 5 0 fun (j : Nat) => Rc.c (foldR l j))]) [(6, 600006)] (.cons kR (.cons kR (.cons kR (.cons kR (.cons kR (.cons kR .nil)))))) (.cons ⟨Ob.row 95 5 0 fun (k : Nat) => Rc.c (foldR l k), kR, .row kR (fun _ _ => rfl)⟩ .nil) kR kR
  intro i hi
  refine sK fun K hK => wR 2 ?_; refine aX hTT 1 [] tI ?_; refine nK hK ?_; clear hK K; refine sK fun K hK => ?_
  refine w_cond (t := decide ((↑i : Int) < (↑(List.length l) : Int))) kR (fun c1 => ?_) (fun c1 => ?_)
  ·
   simp at c1
   refine aw_skip ?_
   refine xt_n (hK _ ?_); clear hK K; refine sK fun K hK => ?_
   refine aw_block ?_
   refine sK fun K hK => wR 3 ?_; refine aX hTT 6 [(1, .c ((0 : Int) ≤ (↑i : Int) ∧ (↑i : Int) < (↑(List.length l) : Int))), (3, .r (pn 8 (V.ref 200008 0) (200008 : Nat) (Ob.box 95 [V.i 0, V.i 0, V.i 0, V.i 0, V.b false]))), (5, .r (pw ((0 : Nat) + (5 : Nat) ≤ (5 : Nat)) (200008 : Nat) (Ob.box 95 [V.i (Rc.x0 (rcF l i)), V.i (Rc.y0 (rcF l i)), V.i (Rc.x1 (rcF l i)), V.i (Rc.y1 (rcF l i)), V.b (Rc.down (rcF l i))])))] ⟨oM, oM, tI⟩ ?_; refine nK hK ?_; clear hK K; refine sK fun K hK => ?_; refine sK fun K hK => wR 4 ?_; refine aX hTT 2 [] tI ?_; refine nK hK ?_; clear hK K
   refine aw_block ?_
   refine w_loop (ι := Nat × Rc) (fun x => [(0, V.pans l), (4, V.rcs l.length (rcF l)), (6, .own 6), (8, .ref 8 0), (9, .i x.1), (18, V.rcs l.length (rcF l)), (19, .i l.length), (20, .i i)]) (fun x => [(6, .row 95 5 i fun j => (foldR l j).c), (8, .box 95 x.2.c)]) (fun x => x.1 ≤ i ∧ foldC l x.1 x.1 x.2 = foldR l i ∧ x.2.bd (1703936 * (1 + 2 * ((i : Int) - x.1)))) (fun x => x.1) (i, rcF l i) ⟨Nat.le_refl _, rfl, Rc.bd_mono (hN.bd i c1) oM⟩ ?_ ?_
   ·
    refine le_ren (sl := [(6, Ob.row 95 5 i fun (j : Nat) => Rc.c (foldR l j)), (8, Ob.box 95 [V.i (Rc.x0 (rcF l i)), V.i (Rc.y0 (rcF l i)), V.i (Rc.x1 (rcF l i)), V.i (Rc.y1 (rcF l i)), V.b (Rc.down (rcF l i))])]) [(6, 6), (8, 200008)] (.cons kR (.cons kR (.cons kR (.cons kR (.cons kR (.cons kR (.cons kR (.cons kR .nil)))))))) (.cons ⟨Ob.row 95 5 i fun (j : Nat) => Rc.c (foldR l j), kR, .row kR (fun _ _ => rfl)⟩ (.cons ⟨Ob.box 95 [V.i (Rc.x0 (rcF l i)), V.i (Rc.y0 (rcF l i)), V.i (Rc.x1 (rcF l i)), V.i (Rc.y1 (rcF l i)), V.b (Rc.down (rcF l i))], kR, .box kR⟩ .nil)) kR kR
   rintro ⟨k, b⟩ ⟨hk, hb, hbd⟩
   simp only at hk hb hbd
   refine sK fun K hK => ?_; refine sK fun K hK => wR 2 ?_; refine aX hTT 2 [] tI ?_; refine nK hK ?_; clear hK K
   refine w_cond (t := decide ((0 : Int) < (↑k : Int))) kR (fun c2 => ?_) (fun c2 => ?_)
   ·
    simp at c2
    have hq := hN.on k c2 oM
    obtain ⟨⟨o1, o2⟩, _⟩ := hN.okI k c2 oM
    refine aw_skip ?_
    refine xt_n (hK _ ?_); clear hK K; refine sK fun K hK => ?_
    refine aw_block ?_
    refine wD 3 ?_; refine aX hTT 14 [(0, .c ((0 : Nat) ≤ (5 : Nat))), (4, .c ((0 : Int) ≤ (↑k : Int) ∧ (↑k : Int) < (↑(List.length l) : Int))), (7, .c ((0 : Int) ≤ Pan.on (gpan l k) ∧ Pan.on (gpan l k) < (↑(List.length l) : Int))), (11, .c ((0 : Int) ≤ (↑k : Int) ∧ (↑k : Int) < (↑(List.length l) : Int)))] ⟨oM, oM, oM, oM, tI⟩ ?_
    refine eC (over_ac b (rcF l (gpan l k).on.toNat) (gpan l k).edge (Rc.bd_mono hbd oM) (Rc.bd_mono (hN.bd _ oM) oM)) ?_
    refine aX hTT 1 [(0, .r (pw ((0 : Nat) + (5 : Nat) ≤ (5 : Nat)) (8 : Nat) (Ob.box 95 [V.i (Rc.x0 (mirR b (rcF l (Int.toNat (Pan.on (gpan l k)))) (Pan.edge (gpan l k)))), V.i (Rc.y0 (mirR b (rcF l (Int.toNat (Pan.on (gpan l k)))) (Pan.edge (gpan l k)))), V.i (Rc.x1 (mirR b (rcF l (Int.toNat (Pan.on (gpan l k)))) (Pan.edge (gpan l k)))), V.i (Rc.y1 (mirR b (rcF l (Int.toNat (Pan.on (gpan l k)))) (Pan.edge (gpan l k)))), V.b (Rc.down (mirR b (rcF l (Int.toNat (Pan.on (gpan l k)))) (Pan.edge (gpan l k))))])))] ⟨oM, tI⟩ ?_; refine aops_nil ⟨kR, ?_⟩; refine xb_n ?_; refine xt_n (hK _ ?_); clear hK K; refine wR 4 ?_; refine aX hTT 6 [(2, .c ((0 : Int) ≤ (↑k : Int) ∧ (↑k : Int) < (↑(List.length l) : Int)))] ⟨oM, tI⟩ ?_; refine aops_nil ?_; refine xt_n ?_
    refine ⟨((gpan l k).on.toNat, mirR b (rcF l (gpan l k).on.toNat) (gpan l k).edge), ⟨by simp only; omega, by simp only; rw [← foldC_step hN.on b c2 oM]; exact hb, Rc.bd_mono (mirR_bd hbd (hN.bd _ oM) oM oM) (by simp only; omega)⟩, ?_, by simp only; omega⟩
    refine le_ren (tl := [(0, V.sl 5 (List.length l) fun (k : Nat) => Pan.c (gpan l k)), (4, V.sl 5 (List.length l) fun (k : Nat) => Rc.c (rcF l k)), (6, V.own 6), (8, V.ref 8 0), (9, V.i (↑(Int.toNat (Pan.on (gpan l k))) : Int)), (18, V.sl 5 (List.length l) fun (k : Nat) => Rc.c (rcF l k)), (19, V.i (↑(List.length l) : Int)), (20, V.i (↑i : Int))]) (sl := [(6, Ob.row 95 5 i fun (j : Nat) => Rc.c (foldR l j)), (8, Ob.box 95 [V.i (Rc.x0 (mirR b (rcF l (Int.toNat (Pan.on (gpan l k)))) (Pan.edge (gpan l k)))), V.i (Rc.y0 (mirR b (rcF l (Int.toNat (Pan.on (gpan l k)))) (Pan.edge (gpan l k)))), V.i (Rc.x1 (mirR b (rcF l (Int.toNat (Pan.on (gpan l k)))) (Pan.edge (gpan l k)))), V.i (Rc.y1 (mirR b (rcF l (Int.toNat (Pan.on (gpan l k)))) (Pan.edge (gpan l k)))), V.b (Rc.down (mirR b (rcF l (Int.toNat (Pan.on (gpan l k)))) (Pan.edge (gpan l k))))])]) [(6, 6), (8, 8)] (.cons kR (.cons kR (.cons kR (.cons kR (.cons ?_ (.cons kR (.cons kR (.cons kR .nil)))))))) (.cons ⟨Ob.row 95 5 i fun (j : Nat) => Rc.c (foldR l j), kR, .row kR (fun _ _ => rfl)⟩ (.cons ⟨Ob.box 95 [V.i (Rc.x0 (mirR b (rcF l (Int.toNat (Pan.on (gpan l k)))) (Pan.edge (gpan l k)))), V.i (Rc.y0 (mirR b (rcF l (Int.toNat (Pan.on (gpan l k)))) (Pan.edge (gpan l k)))), V.i (Rc.x1 (mirR b (rcF l (Int.toNat (Pan.on (gpan l k)))) (Pan.edge (gpan l k)))), V.i (Rc.y1 (mirR b (rcF l (Int.toNat (Pan.on (gpan l k)))) (Pan.edge (gpan l k)))), V.b (Rc.down (mirR b (rcF l (Int.toNat (Pan.on (gpan l k)))) (Pan.edge (gpan l k))))], kR, .box kR⟩ .nil)) kR kR
    exact congrArg V.i (show (gpan l k).on = ((gpan l k).on.toNat : Int) by omega)
   simp at c2
   subst c2
   simp only [foldC] at hb
   subst hb
   refine aw_exit ?_
   refine xt_x ?_; refine xt_x ?_
   refine xb_same ?_
   refine xt_n ?_; clear hK K; refine hK _ ?_; clear hK K; refine wR 3 ?_; refine aX hTT 5 [(1, .c ((0 : Nat) ≤ (5 : Nat))), (3, .r (PR.mk (some (51 : Nat)) (some (i + 1 ≤ (1099511627776 : Nat))) (V.own 200051) [((6 : Nat), none), ((200051 : Nat), some (Ob.row 95 5 (i + 1) (appRow i (fun (j : Nat) => Rc.c (foldR l j)) fun (i_1 : Nat) => List.take (5 : Nat) (List.drop (i_1 * 5) [V.i (Rc.x0 (foldR l i)), V.i (Rc.y0 (foldR l i)), V.i (Rc.x1 (foldR l i)), V.i (Rc.y1 (foldR l i)), V.b (Rc.down (foldR l i))]))))] false))] ⟨oM, oM, tI⟩ ?_; refine aops_nil ?_; refine xb_n ?_; refine xt_n (hK _ ?_); clear hK K; refine wR 4 ?_; refine aX hTT 2 [(0, .i ((↑i : Int) + 1))] ⟨oM, tI⟩ ?_; refine aops_nil ?_; refine xt_n ?_
   refine ⟨i + 1, by omega, ?_, by omega⟩
   refine le_ren (tl := [(0, V.sl 5 (List.length l) fun (k : Nat) => Pan.c (gpan l k)), (4, V.sl 5 (List.length l) fun (k : Nat) => Rc.c (rcF l k)), (6, V.own 6), (18, V.sl 5 (List.length l) fun (k : Nat) => Rc.c (rcF l k)), (19, V.i (↑(List.length l) : Int)), (20, V.i (↑(i + 1) : Int))]) (sl := [(6, Ob.row 95 5 (i + 1) fun (j : Nat) => Rc.c (foldR l j))]) [(6, 200051)] (.cons kR (.cons kR (.cons kR (.cons kR (.cons kR (.cons kR .nil)))))) (.cons ⟨Ob.row 95 5 (i + 1) (appRow i (fun (j : Nat) => Rc.c (foldR l j)) fun (i_1 : Nat) => List.take (5 : Nat) (List.drop (i_1 * 5) [V.i (Rc.x0 (foldR l i)), V.i (Rc.y0 (foldR l i)), V.i (Rc.x1 (foldR l i)), V.i (Rc.y1 (foldR l i)), V.b (Rc.down (foldR l i))])), kR, .row kR ?_⟩ .nil) kR kR
   exact appRow_ok (fun _ _ => rfl) rfl
  simp at c1
  obtain rfl : i = l.length := by omega
  refine aw_exit ?_
  refine xt_x ?_; refine xt_x ?_
  refine xb_same ?_
  refine xt_n ?_; clear hK K; refine hK _ ?_; clear hK K; refine sK fun K hK => wR 3 ?_; refine aX hTT 3 [] tI ?_; refine nK hK ?_; clear hK K
  refine aw_ret ?_
  rw [foldV, if_pos hE]
  refine ret_of_le (le_shut 2 6 (e := (95 : Nat)) (sz := (5 : Nat)) (n := List.length l) (n' := l.length) (row := fun (j : Nat) => Rc.c (foldR l j)) (row' := (fun j => (foldR l j).c)) kR kR (fun _ _ => rfl) ?_ ?_) ?_
  ·
   rfl
  ·
   exact fun _ _ => rfl
  refine rP (V.tup [V.sl 5 (List.length l) fun (j : Nat) => Rc.c (foldR l j), V.i 0])
 ·
  rw [flatV, if_neg hE] at A
  refine eC (A) ?_
  refine aX hTT 5 [] tI ?_; refine nK hK ?_; clear hK K; refine sK fun K hK => ?_; refine sK fun K hK => wR 4 ?_; refine aX hTT 2 [] tI ?_; refine nK hK ?_; clear hK K
  refine w_cond (t := !decide (netE l = 0)) kR (fun c1 => ?_) (fun c1 => ?_)
  ·
   refine sK fun K hK => ?_
   refine wR 5 ?_; refine aX hTT 3 [] tI ?_; refine nK hK ?_; clear hK K
   refine aw_ret ?_
   refine xt_r ?_
   rw [foldV, if_neg hE]
   refine rP (V.tup [V.nil, V.i (netE l)])
  ·
   simp at c1
   exact absurd c1 hE
set_option maxRecDepth 100000 in
theorem patches_ac (n : Nat) (f : Nat → Rc) (e : Int) (hn : n ≤ 4096) : AC Tryd.prog 61 [V.rcs n f, .i e] (.tup [V.rcs n f, .i e]) [] := by
 refine acI hTT hMX Tryd.func61 Tryd.ntmps61 fun C hC hF => ?_
 refine sK fun K hK => wR 2 ?_; refine aX hTT 2 [] tI ?_; refine nK hK ?_; clear hK K; refine sK fun K hK => wR 3 ?_; refine aX hTT 1 [] tI ?_; refine nK hK ?_; clear hK K; refine sK fun K hK => ?_; refine sK fun K hK => wR 4 ?_; refine aX hTT 3 [] tI ?_; refine nK hK ?_; clear hK K
 refine aw_block ?_
 refine w_le (le_open 6 52 5 (fun k => (f k).c) kR rfl) ?_
 refine w_loop (ι := Nat) (fun k => [(1, .i e), (6, .own 6), (9, V.rcs n f), (10, .i n), (11, .i k)]) (fun k => [(6, .row 52 5 k fun j => (f j).c)]) (fun k => k ≤ n) (fun k => n - k) 0 (Nat.zero_le _) ?_ ?_
 ·
  refine le_ren (sl := [(6, Ob.row 52 5 0 fun (j : Nat) => Rc.c (f j))]) [(6, 400006)] (.cons kR (.cons kR (.cons kR (.cons kR (.cons kR .nil))))) (.cons ⟨Ob.row 52 5 0 fun (k : Nat) => Rc.c (f k), kR, .row kR (fun _ _ => rfl)⟩ .nil) kR kR
 intro i hi
 refine sK fun K hK => wR 2 ?_; refine aX hTT 1 [] tI ?_; refine nK hK ?_; clear hK K; refine sK fun K hK => ?_
 refine w_cond (t := decide ((↑i : Int) < (↑n : Int))) kR (fun c1 => ?_) (fun c1 => ?_)
 ·
  simp at c1
  refine aw_skip ?_
  refine xt_n (hK _ ?_); clear hK K; refine sK fun K hK => ?_
  refine aw_block ?_
  refine sK fun K hK => wR 3 ?_; refine aX hTT 4 [(0, .c ((0 : Int) ≤ (↑i : Int) ∧ (↑i : Int) < (↑n : Int))), (2, .r (pn 8 (V.ref 200008 0) (200008 : Nat) (Ob.box 95 [V.i 0, V.i 0, V.i 0, V.i 0, V.b false]))), (3, .r (pw ((0 : Nat) + (5 : Nat) ≤ (5 : Nat)) (200008 : Nat) (Ob.box 95 [V.i (Rc.x0 (f i)), V.i (Rc.y0 (f i)), V.i (Rc.x1 (f i)), V.i (Rc.y1 (f i)), V.b (Rc.down (f i))])))] ⟨oM, oM, tI⟩ ?_; refine nK hK ?_; clear hK K; refine wR 4 ?_; refine aX hTT 6 [(2, .c ((0 : Nat) ≤ (5 : Nat))), (4, .r (PR.mk (some (19 : Nat)) (some (i + 1 ≤ (1099511627776 : Nat))) (V.own 300019) [((6 : Nat), none), ((300019 : Nat), some (Ob.row 52 5 (i + 1) (appRow i (fun (j : Nat) => Rc.c (f j)) fun (i_1 : Nat) => List.take (5 : Nat) (List.drop (i_1 * 5) [V.i (Rc.x0 (f i)), V.i (Rc.y0 (f i)), V.i (Rc.x1 (f i)), V.i (Rc.y1 (f i)), V.b (Rc.down (f i))]))))] false))] ⟨oM, oM, tI⟩ ?_; refine aops_nil ?_; refine xb_n ?_; refine xt_n (hK _ ?_); clear hK K; refine wR 5 ?_; refine aX hTT 2 [(0, .i ((↑i : Int) + 1))] ⟨oM, tI⟩ ?_; refine aops_nil ?_; refine xt_n ?_
  refine ⟨i + 1, by omega, ?_, by omega⟩
  refine le_ren (tl := [(1, V.i e), (6, V.own 6), (9, V.sl 5 n fun (k : Nat) => Rc.c (f k)), (10, V.i (↑n : Int)), (11, V.i (↑(i + 1) : Int))]) (sl := [(6, Ob.row 52 5 (i + 1) fun (j : Nat) => Rc.c (f j))]) [(6, 300019)] (.cons kR (.cons kR (.cons kR (.cons kR (.cons kR .nil))))) (.cons ⟨Ob.row 52 5 (i + 1) (appRow i (fun (j : Nat) => Rc.c (f j)) fun (i_1 : Nat) => List.take (5 : Nat) (List.drop (i_1 * 5) [V.i (Rc.x0 (f i)), V.i (Rc.y0 (f i)), V.i (Rc.x1 (f i)), V.i (Rc.y1 (f i)), V.b (Rc.down (f i))])), kR, .row kR ?_⟩ .nil) kR kR
  exact appRow_ok (fun _ _ => rfl) rfl
 simp at c1
 obtain rfl : i = n := by omega
 refine aw_exit ?_
 refine xt_x ?_; refine xt_x ?_
 refine xb_same ?_
 refine xt_n ?_; clear hK K; refine hK _ ?_; clear hK K; refine sK fun K hK => wR 3 ?_; refine aX hTT 4 [] tI ?_; refine nK hK ?_; clear hK K
 refine aw_ret ?_
 refine ret_of_le (le_shut 4 6 (e := (52 : Nat)) (sz := (5 : Nat)) (n := i) (n' := i) (row := fun (j : Nat) => Rc.c (f j)) (row' := (fun j => (f j).c)) kR kR (fun _ _ => rfl) ?_ ?_) ?_
 ·
  rfl
 ·
  exact fun _ _ => rfl
 refine rP (V.tup [V.sl 5 i fun (j : Nat) => Rc.c (f j), V.i e])
theorem RImp_nil (sz : Nat) (row : Nat → List V) : RImp .nil (.sl sz 0 row) := fun w L x h => by
 cases h; exact .sl0 _ _ _ _ _
theorem netN_1 {l : List Pan} (h : netE l = 0) : netN l = l.length := by rw [netN, if_pos h]
theorem netN_2 {l : List Pan} (h : ¬ netE l = 0) : netN l = 0 := by rw [netN, if_neg h]
set_option maxRecDepth 100000 in
theorem Folded_ac (l : List Pan) (hl : l.length ≤ 4611686018427387904) : AC Tryd.prog 28 [V.pans l] (.tup [V.rcs (netN l) (foldR l), .i (netE l)]) [] := by
 refine acI hTT hMX Tryd.func28 Tryd.ntmps28 fun C hC hF => ?_
 have A := folded_ac l hl
 refine sK fun K hK => wR 2 ?_; refine aX hTT 2 [] tI ?_; refine nK hK ?_; clear hK K; refine sK fun K hK => wR 3 ?_; refine aX hTT 1 [] tI ?_
 by_cases hE : netE l = 0
 ·
  rw [foldV, if_pos hE] at A
  have hN := netOk hE
  have hle := hN.le
  refine eC (A) ?_
  refine aX hTT 2 [] tI ?_
  refine eC (patches_ac l.length (foldR l) 0 oM) ?_
  refine aX hTT 4 [] tI ?_; refine nK hK ?_; clear hK K
  refine aw_ret ?_
  rw [netN_1 hE, hE]
  refine rP (V.tup [V.sl 5 (List.length l) fun (k : Nat) => Rc.c (foldR l k), V.i 0])
 ·
  rw [foldV, if_neg hE] at A
  refine eC (A) ?_
  refine aX hTT 2 [] tI ?_
  refine eC (AC.conv (patches_ac 0 (foldR l) (netE l) oM) (args' := [V.nil, V.i (netE l)]) ⟨?_, RImp.refl _, trivial⟩) ?_
  ·
   exact RImp_nil _ _
  refine aX hTT 4 [] tI ?_; refine nK hK ?_; clear hK K
  refine aw_ret ?_
  rw [netN_2 hE]
  refine rP (V.tup [V.sl 5 0 fun (k : Nat) => Rc.c (foldR l k), V.i (netE l)])
end Go.Proofs.YtfckkkmacjjmhaaDoor

namespace Go.Proofs.YtfckkkmacjjmhaaDoor
open Go.Ab Go.RowKit Go.Dw Go.Shelf
theorem RImp_int {a b : Int} (h : a = b) : RImp (V.i a) (V.i b) := by subst h; exact RImp.refl _
def bwV (f : List Int) : List (List V) := (List.range f.length).map fun k : Nat => [V.i ((f.length : Int) - 1 - k), V.i (gi f (f.length - 1 - k))]
theorem bwV_get {f : List Int} {k : Nat} (h : k < f.length) : (bwV f)[k]? = some [V.i ((f.length : Int) - 1 - k), V.i (gi f (f.length - 1 - k))] := by simp [bwV, h]
theorem bwV_len (f : List Int) : (bwV f).length = f.length := by simp [bwV]
set_option maxRecDepth 100000 in
theorem backward_it (f : List Int) (hl : f.length ≤ 4611686018427387904) : AIt4 Tryd.prog 87 [.ptr [V.ints f]] (bwV f) := by
 refine ait4_intro hTT hMX (fn := Tryd.f87) (N := _) ⟨Tryd.func87, rfl, Tryd.ntmps87, kR⟩ rfl (by simp) fun Y => ?_
 rw [bwV_len]
 refine awj4_seq_a fun C hF hC K hK => ?_
 refine wR 2 ?_; refine aX hTT 4 [(2, .i ((↑(List.length f) : Int) - 1))] ⟨oM, tI⟩ ?_; refine nK hK ?_; clear hK K
 refine awj4_block ?_
 refine awj4_loop (ι := Nat) (fun k => ⟨mkT [(0, .c (.func (.yield Y.l) #[] #[])), (1, .ptr [V.ints f]), (3, .i ((f.length : Int) - 1 - k))], mkS [], 1⟩) (fun k => k) (fun k => k ≤ f.length) (fun k => f.length - k) 0 (Nat.zero_le _) ?_ rfl ?_
 ·
  refine le_ren (tl := [(0, V.c (Value.func (Fn.yield (YE4.l Y)) #[] #[])), (1, V.ptr [V.sl 1 (List.length f) fun (k : Nat) => [V.i (gi f k)]]), (3, V.i ((↑(List.length f) : Int) - 1 - (↑(0 : Nat) : Int)))]) [] (.cons kR (.cons kR (.cons ?_ .nil))) .nil kR kR
  exact congrArg V.i (show (f.length : Int) - 1 = (f.length : Int) - 1 - (0 : Nat) by omega)
 intro k hk
 refine awj4_seq_a fun C hF hC K hK => ?_
 refine sK fun K hK => wR 2 ?_; refine aX hTT 2 [] tI ?_; refine nK hK ?_; clear hK K
 refine w_cond (t := decide ((0 : Int) ≤ (↑(List.length f) : Int) - 1 - (↑k : Int))) kR (fun c1 => ?_) (fun c1 => ?_)
 ·
  have h1 : k < f.length := by simp at c1; omega
  refine aw_skip ?_
  refine xt_n (hK _ ?_); clear hK K
  refine awj4_seq ?_
  refine awj4_block ?_
  refine awj4_seq (awj4_yield 6 kR rfl fun C hF hC => ?_)
  refine aX hTT 6 [(4, .c ((0 : Int) ≤ (↑(List.length f) : Int) - 1 - (↑k : Int) ∧ (↑(List.length f) : Int) - 1 - (↑k : Int) < (↑(List.length f) : Int)))] ⟨oM, tI⟩ ?_; refine aops_nil ?_
  refine ⟨kR, ⟨_, bwV_get h1, RImp.refl _, RImp_int (congrArg (gi f) oM), trivial⟩, ⟨kR, fun v hv => by rw [bwV_get h1] at hv; injection hv with hv; subst hv; rfl⟩, fun C hF hC => ?_, fun C hF hC => ?_⟩
  ·
   refine aX hTT 1 [] tI ?_
   refine aops_nil ?_
   refine xjt_n ?_
   refine awj4_cond (t := false) kR (fun h => by cases h) (fun _ => ?_)
   refine awj4_skip ?_
   refine xjb_n ?_
   refine xjt_n ?_
   refine awj4_aw fun C hF hC => ?_
   refine wR 4 ?_; refine aX hTT 3 [(1, .i ((↑(List.length f) : Int) - 1 - (↑k : Int) - 1))] ⟨oM, tI⟩ ?_; refine aops_nil ?_
   refine xjt_n ?_
   refine ⟨rfl, k + 1, by omega, ?_, rfl, by omega⟩
   refine le_ren (tl := [(0, V.c (Value.func (Fn.yield (YE4.l Y)) #[] #[])), (1, V.ptr [V.sl 1 (List.length f) fun (k : Nat) => [V.i (gi f k)]]), (3, V.i ((↑(List.length f) : Int) - 1 - (↑(k + 1) : Int)))]) [] (.cons kR (.cons kR (.cons ?_ .nil))) .nil kR kR
   exact congrArg V.i oM
  ·
   refine aX hTT 1 [] tI ?_
   refine aops_nil ?_
   refine xjt_n ?_
   refine awj4_cond (t := true) kR (fun _ => ?_) (fun h => by cases h)
   refine awj4_ret ?_
   refine xjb_r ?_
   refine xjt_r ?_
   refine xjt_r ?_
   refine xjb_r ?_
   exact ⟨.inr rfl, fun h => (by cases h), fun _ => h1⟩
 ·
  have h1 : k = f.length := by simp at c1; omega
  refine aw_exit ?_
  refine xt_x ?_
  refine xjt_x ?_
  refine xjb_same ?_
  exact ⟨.inl rfl, fun _ => h1, fun h => by cases h⟩
set_option maxRecDepth 100000 in
theorem Backward_ac (f : List Int) : AC Tryd.prog 74 [V.ints f] (.fn (.func 87) [] [.ptr [V.ints f]]) [] := by
 refine acI hTT hMX Tryd.func74 Tryd.ntmps74 fun C hC hF => ?_
 refine sK fun K hK => wR 2 ?_; refine aX hTT 2 [] tI ?_; refine nK hK ?_; clear hK K; refine sK fun K hK => wR 3 ?_; refine aX hTT 2 [] tI ?_; refine nK hK ?_; clear hK K
 refine aw_ret ?_
 refine rP (V.fn (Fn.func (87 : Nat)) [] [V.ptr [V.sl 1 (List.length f) fun (k : Nat) => [V.i (gi f k)]]])
theorem unf_1 {l : List Lf} {F R K : Int} {k : Nat} (h : k < l.length) (hb : (glf l k).back = true) {G : Nat → List V} {r : Nat → Nat} (g0 : G 0 = (glf l k).c) (g1 : G 1 = (othL (glf l k) F R K).c) :
  ∀ i, i < 2 * k + 2 → appRow (2 * k) (fun j => (glf (unfL l F R K) j).c) G i = V.renL r (glf (unfL l F R K) i).c := by
 obtain ⟨h1, h2⟩ := unfL_at (fold := F) (rows := R) (cols := K) h
 rw [if_pos hb] at h1 h2
 intro i hi
 by_cases h3 : i < 2 * k
 ·
  rw [appRow, if_pos h3]; rfl
 ·
  rw [appRow, if_neg h3]
  by_cases h4 : i = 2 * k
  ·
   subst h4; rw [Nat.sub_self, g0, h1]; rfl
  ·
   obtain rfl : i = 2 * k + 1 := by omega
   rw [show 2 * k + 1 - 2 * k = 1 by omega, g1, h2]; rfl
theorem unf_2 {l : List Lf} {F R K : Int} {k : Nat} (h : k < l.length) (hb : ¬ (glf l k).back = true) {G : Nat → List V} {r : Nat → Nat} (g1 : G 1 = (glf l k).c) (g0 : G 0 = (othL (glf l k) F R K).c) :
  ∀ i, i < 2 * k + 2 → appRow (2 * k) (fun j => (glf (unfL l F R K) j).c) G i = V.renL r (glf (unfL l F R K) i).c := by
 obtain ⟨h1, h2⟩ := unfL_at (fold := F) (rows := R) (cols := K) h
 rw [if_neg hb] at h1 h2
 intro i hi
 by_cases h3 : i < 2 * k
 ·
  rw [appRow, if_pos h3]; rfl
 ·
  rw [appRow, if_neg h3]
  by_cases h4 : i = 2 * k
  ·
   subst h4; rw [Nat.sub_self, g0, h1]; rfl
  ·
   obtain rfl : i = 2 * k + 1 := by omega
   rw [show 2 * k + 1 - 2 * k = 1 by omega, g1, h2]; rfl
abbrev qSN70 : Prop := (0 : Nat) ≤ (1 : Nat)
theorem qSN70_ : qSN70 := oM
abbrev qSN71 : Prop := (0 : Nat) ≤ (4 : Nat)
theorem qSN71_ : qSN71 := oM
abbrev qSN72 : Prop := (2 : Nat) ≤ (4 : Nat)
theorem qSN72_ : qSN72 := oM
set_option maxHeartbeats 4000000 in
set_option maxRecDepth 100000 in
theorem unfold_ac (l : List Lf) (F R M : Int) (hl : l.length ≤ 4096) (hR : 0 ≤ R ∧ R ≤ 65536) (hM : 0 ≤ M ∧ M ≤ 65536) (hb : ∀ k, k < l.length → (0 ≤ (glf l k).row ∧ (glf l k).row ≤ 65536) ∧ (0 ≤ (glf l k).col ∧ (glf l k).col ≤ 65536)) :
  AC Tryd.prog 75 [V.lfs l, .i F, .i R, .i M] (.own 0) [.row 31 4 (2 * l.length) fun j => (glf (unfL l F R M) j).c] := by
 refine acI hTT hMX Tryd.func75 Tryd.ntmps75 fun C hC hF => ?_
 refine sK fun K hK => wR 2 ?_; refine aX hTT 1 [] tI ?_; refine nK hK ?_; clear hK K; refine sK fun K hK => wR 3 ?_; refine aX hTT 1 [] tI ?_; refine nK hK ?_; clear hK K; refine sK fun K hK => ?_; refine sK fun K hK => wR 4 ?_; refine aX hTT 3 [] tI ?_; refine nK hK ?_; clear hK K
 refine aw_block ?_
 refine w_le (le_open 9 31 4 (fun k => (glf (unfL l F R M) k).c) kR rfl) ?_
 refine w_loop (ι := Nat) (fun k => [(1, .i F), (2, .i R), (3, .i M), (9, .own 9), (13, V.lfs l), (14, .i l.length), (15, .i k)]) (fun k => [(9, .row 31 4 (2 * k) fun j => (glf (unfL l F R M) j).c)]) (fun k => k ≤ l.length) (fun k => l.length - k) 0 (Nat.zero_le _) ?_ ?_
 ·
  refine le_ren (sl := [(9, Ob.row 31 4 0 fun (j : Nat) => Lf.c (glf (unfL l F R M) j))]) [(9, 400009)] (.cons kR (.cons kR (.cons kR (.cons kR (.cons kR (.cons kR (.cons kR .nil))))))) (.cons ⟨Ob.row 31 4 0 fun (k : Nat) => Lf.c (glf (unfL l F R M) k), kR, .row kR (fun _ _ => rfl)⟩ .nil) kR kR
 intro k hk
 refine sK fun K hK => wR 2 ?_; refine aX hTT 1 [] tI ?_; refine nK hK ?_; clear hK K; refine sK fun K hK => ?_
 refine w_cond (t := decide ((↑k : Int) < (↑(List.length l) : Int))) kR (fun c1 => ?_) (fun c1 => ?_)
 ·
  simp at c1
  obtain ⟨q1, q2⟩ := hb k c1
  refine aw_skip ?_
  refine xt_n (hK _ ?_); clear hK K; refine sK fun K hK => ?_
  refine aw_block ?_
  refine sK fun K hK => wR 3 ?_; refine aX hTT 4 [(0, .c ((0 : Int) ≤ (↑k : Int) ∧ (↑k : Int) < (↑(List.length l) : Int))), (2, .r (pn 11 (V.ref 200011 0) (200011 : Nat) (Ob.box 31 [V.i 0, V.i 0, V.b false, V.b false]))), (3, .r (pw ((0 : Nat) + (4 : Nat) ≤ (4 : Nat)) (200011 : Nat) (Ob.box 31 [V.i (Lf.row (glf l k)), V.i (Lf.col (glf l k)), V.b (Lf.back (glf l k)), V.b (Lf.turned (glf l k))])))] ⟨oM, oM, tI⟩ ?_; refine nK hK ?_; clear hK K; refine sK fun K hK => wR 4 ?_; refine aX hTT 3 [(0, .c qSN71), (1, .r (pn 12 (V.ref 300012 0) (300012 : Nat) (Ob.box 31 [V.i 0, V.i 0, V.b false, V.b false]))), (2, .r (pw ((0 : Nat) + (4 : Nat) ≤ (4 : Nat)) (300012 : Nat) (Ob.box 31 [V.i (Lf.row (glf l k)), V.i (Lf.col (glf l k)), V.b (Lf.back (glf l k)), V.b (Lf.turned (glf l k))])))] ⟨qSN71_, oM, tI⟩ ?_; refine nK hK ?_; clear hK K; refine sK fun K hK => wR 5 ?_; refine aX hTT 5 [(1, .c qSN72), (4, .r (pw ((2 : Nat) + (1 : Nat) ≤ (4 : Nat)) (300012 : Nat) (Ob.box 31 [V.i (Lf.row (glf l k)), V.i (Lf.col (glf l k)), V.b !Lf.back (glf l k), V.b (Lf.turned (glf l k))])))] ⟨qSN72_, oM, tI⟩ ?_; refine nK hK ?_; clear hK K; refine sK fun K hK => ?_; refine sK fun K hK => wR 6 ?_; refine aX hTT 2 [] tI ?_; refine nK hK ?_; clear hK K
  refine w_cond (t := decide (F = 2)) kR (fun c2 => ?_) (fun c2 => ?_)
  ·
   simp at c2
   have e1 : othL (glf l k) F R M = ⟨2 * R - 1 - (glf l k).row, (glf l k).col, !(glf l k).back, !(glf l k).turned⟩ := by rw [othL, if_pos c2]
   refine wD 7 ?_; refine aX hTT 13 [(1, .i ((2 : Int) * R)), (2, .i ((2 : Int) * R - 1)), (4, .c qSN71), (5, .i ((2 : Int) * R - 1 - Lf.row (glf l k))), (7, .c ((3 : Nat) ≤ (4 : Nat))), (10, .r (pw ((0 : Nat) + (1 : Nat) ≤ (4 : Nat)) (300012 : Nat) (Ob.box 31 [V.i ((2 : Int) * R - 1 - Lf.row (glf l k)), V.i (Lf.col (glf l k)), V.b !Lf.back (glf l k), V.b (Lf.turned (glf l k))]))), (12, .r (pw ((3 : Nat) + (1 : Nat) ≤ (4 : Nat)) (300012 : Nat) (Ob.box 31 [V.i ((2 : Int) * R - 1 - Lf.row (glf l k)), V.i (Lf.col (glf l k)), V.b !Lf.back (glf l k), V.b !Lf.turned (glf l k)])))] ⟨oM, oM, qSN71_, oM, oM, oM, oM, tI⟩ ?_; refine aops_nil ⟨kR, ?_⟩; refine xt_n (hK _ ?_); clear hK K; refine sK fun K hK => wR 8 ?_; refine aX hTT 2 [(1, .c qSN72)] ⟨qSN72_, tI⟩ ?_; refine nK hK ?_; clear hK K
   refine w_cond (t := Lf.back (glf l k)) kR (fun c3 => ?_) (fun c3 => ?_)
   ·
    refine wR 9 ?_
    refine aX hTT 6 [(1, .c ((0 : Nat) ≤ (4 : Nat))), (2, .c ((0 : Nat) ≤ (4 : Nat))), (4, .r (PR.mk (some (50 : Nat)) (some ((2 : Nat) * k + 2 ≤ (1099511627776 : Nat))) (V.own 800050) [((9 : Nat), none), ((800050 : Nat), some (Ob.row 31 4 ((2 : Nat) * k + 2) (appRow ((2 : Nat) * k) (fun (j : Nat) => Lf.c (glf (unfL l F R M) j)) fun (i : Nat) => List.take (4 : Nat) (List.drop (i * 4) [V.i (Lf.row (glf l k)), V.i (Lf.col (glf l k)), V.b (Lf.back (glf l k)), V.b (Lf.turned (glf l k)), V.i ((2 : Int) * R - 1 - Lf.row (glf l k)), V.i (Lf.col (glf l k)), V.b !Lf.back (glf l k), V.b !Lf.turned (glf l k)]))))] false))] ⟨oM, oM, oM, tI⟩ ?_; refine aops_nil ?_; refine xb_n ?_; refine xt_n (hK _ ?_); clear hK K; refine wR 10 ?_; refine aX hTT 2 [(0, .i ((↑k : Int) + 1))] ⟨oM, tI⟩ ?_; refine aops_nil ?_; refine xt_n ?_
    refine ⟨k + 1, by omega, ?_, by omega⟩
    refine le_ren (tl := [(1, V.i F), (2, V.i R), (3, V.i M), (9, V.own 9), (13, V.sl 4 (List.length l) fun (k : Nat) => Lf.c (glf l k)), (14, V.i (↑(List.length l) : Int)), (15, V.i (↑(k + 1) : Int))]) (sl := [(9, Ob.row 31 4 ((2 : Nat) * (k + 1)) fun (j : Nat) => Lf.c (glf (unfL l F R M) j))]) [(9, 800050)] (.cons kR (.cons kR (.cons kR (.cons kR (.cons kR (.cons kR (.cons kR .nil))))))) (.cons ⟨Ob.row 31 4 ((2 : Nat) * k + 2) (appRow ((2 : Nat) * k) (fun (j : Nat) => Lf.c (glf (unfL l F R M) j)) fun (i : Nat) => List.take (4 : Nat) (List.drop (i * 4) [V.i (Lf.row (glf l k)), V.i (Lf.col (glf l k)), V.b (Lf.back (glf l k)), V.b (Lf.turned (glf l k)), V.i ((2 : Int) * R - 1 - Lf.row (glf l k)), V.i (Lf.col (glf l k)), V.b !Lf.back (glf l k), V.b !Lf.turned (glf l k)])), kR, .row kR ?_⟩ .nil) kR kR
    exact unf_1 c1 (by simpa using c3) rfl (by rw [e1]; rfl)
   ·
    refine wR 9 ?_
    refine aX hTT 6 [(1, .c ((0 : Nat) ≤ (4 : Nat))), (2, .c ((0 : Nat) ≤ (4 : Nat))), (4, .r (PR.mk (some (55 : Nat)) (some ((2 : Nat) * k + 2 ≤ (1099511627776 : Nat))) (V.own 800055) [((9 : Nat), none), ((800055 : Nat), some (Ob.row 31 4 ((2 : Nat) * k + 2) (appRow ((2 : Nat) * k) (fun (j : Nat) => Lf.c (glf (unfL l F R M) j)) fun (i : Nat) => List.take (4 : Nat) (List.drop (i * 4) [V.i ((2 : Int) * R - 1 - Lf.row (glf l k)), V.i (Lf.col (glf l k)), V.b !Lf.back (glf l k), V.b !Lf.turned (glf l k), V.i (Lf.row (glf l k)), V.i (Lf.col (glf l k)), V.b (Lf.back (glf l k)), V.b (Lf.turned (glf l k))]))))] false))] ⟨oM, oM, oM, tI⟩ ?_; refine aops_nil ?_; refine xb_n ?_; refine xt_n (hK _ ?_); clear hK K; refine wR 10 ?_; refine aX hTT 2 [(0, .i ((↑k : Int) + 1))] ⟨oM, tI⟩ ?_; refine aops_nil ?_; refine xt_n ?_
    refine ⟨k + 1, by omega, ?_, by omega⟩
    refine le_ren (tl := [(1, V.i F), (2, V.i R), (3, V.i M), (9, V.own 9), (13, V.sl 4 (List.length l) fun (k : Nat) => Lf.c (glf l k)), (14, V.i (↑(List.length l) : Int)), (15, V.i (↑(k + 1) : Int))]) (sl := [(9, Ob.row 31 4 ((2 : Nat) * (k + 1)) fun (j : Nat) => Lf.c (glf (unfL l F R M) j))]) [(9, 800055)] (.cons kR (.cons kR (.cons kR (.cons kR (.cons kR (.cons kR (.cons kR .nil))))))) (.cons ⟨Ob.row 31 4 ((2 : Nat) * k + 2) (appRow ((2 : Nat) * k) (fun (j : Nat) => Lf.c (glf (unfL l F R M) j)) fun (i : Nat) => List.take (4 : Nat) (List.drop (i * 4) [V.i ((2 : Int) * R - 1 - Lf.row (glf l k)), V.i (Lf.col (glf l k)), V.b !Lf.back (glf l k), V.b !Lf.turned (glf l k), V.i (Lf.row (glf l k)), V.i (Lf.col (glf l k)), V.b (Lf.back (glf l k)), V.b (Lf.turned (glf l k))])), kR, .row kR ?_⟩ .nil) kR kR
    exact unf_2 c1 (by simpa using c3) rfl (by rw [e1]; rfl)
  ·
   simp at c2
   have e1 : othL (glf l k) F R M = ⟨(glf l k).row, 2 * M - 1 - (glf l k).col, !(glf l k).back, (glf l k).turned⟩ := by rw [othL, if_neg c2]
   refine wR 7 ?_; refine aX hTT 8 [(1, .i ((2 : Int) * M)), (2, .i ((2 : Int) * M - 1)), (4, .c ((1 : Nat) ≤ (4 : Nat))), (5, .i ((2 : Int) * M - 1 - Lf.col (glf l k))), (7, .r (pw ((1 : Nat) + (1 : Nat) ≤ (4 : Nat)) (300012 : Nat) (Ob.box 31 [V.i (Lf.row (glf l k)), V.i ((2 : Int) * M - 1 - Lf.col (glf l k)), V.b !Lf.back (glf l k), V.b (Lf.turned (glf l k))])))] ⟨oM, oM, oM, oM, oM, tI⟩ ?_; refine nK hK ?_; clear hK K; refine sK fun K hK => wR 8 ?_; refine aX hTT 2 [(1, .c qSN72)] ⟨qSN72_, tI⟩ ?_; refine nK hK ?_; clear hK K
   refine w_cond (t := Lf.back (glf l k)) kR (fun c3 => ?_) (fun c3 => ?_)
   ·
    refine wR 9 ?_
    refine aX hTT 6 [(1, .c ((0 : Nat) ≤ (4 : Nat))), (2, .c ((0 : Nat) ≤ (4 : Nat))), (4, .r (PR.mk (some (50 : Nat)) (some ((2 : Nat) * k + 2 ≤ (1099511627776 : Nat))) (V.own 800050) [((9 : Nat), none), ((800050 : Nat), some (Ob.row 31 4 ((2 : Nat) * k + 2) (appRow ((2 : Nat) * k) (fun (j : Nat) => Lf.c (glf (unfL l F R M) j)) fun (i : Nat) => List.take (4 : Nat) (List.drop (i * 4) [V.i (Lf.row (glf l k)), V.i (Lf.col (glf l k)), V.b (Lf.back (glf l k)), V.b (Lf.turned (glf l k)), V.i (Lf.row (glf l k)), V.i ((2 : Int) * M - 1 - Lf.col (glf l k)), V.b !Lf.back (glf l k), V.b (Lf.turned (glf l k))]))))] false))] ⟨oM, oM, oM, tI⟩ ?_; refine aops_nil ?_; refine xb_n ?_; refine xt_n (hK _ ?_); clear hK K; refine wR 10 ?_; refine aX hTT 2 [(0, .i ((↑k : Int) + 1))] ⟨oM, tI⟩ ?_; refine aops_nil ?_; refine xt_n ?_
    refine ⟨k + 1, by omega, ?_, by omega⟩
    refine le_ren (tl := [(1, V.i F), (2, V.i R), (3, V.i M), (9, V.own 9), (13, V.sl 4 (List.length l) fun (k : Nat) => Lf.c (glf l k)), (14, V.i (↑(List.length l) : Int)), (15, V.i (↑(k + 1) : Int))]) (sl := [(9, Ob.row 31 4 ((2 : Nat) * (k + 1)) fun (j : Nat) => Lf.c (glf (unfL l F R M) j))]) [(9, 800050)] (.cons kR (.cons kR (.cons kR (.cons kR (.cons kR (.cons kR (.cons kR .nil))))))) (.cons ⟨Ob.row 31 4 ((2 : Nat) * k + 2) (appRow ((2 : Nat) * k) (fun (j : Nat) => Lf.c (glf (unfL l F R M) j)) fun (i : Nat) => List.take (4 : Nat) (List.drop (i * 4) [V.i (Lf.row (glf l k)), V.i (Lf.col (glf l k)), V.b (Lf.back (glf l k)), V.b (Lf.turned (glf l k)), V.i (Lf.row (glf l k)), V.i ((2 : Int) * M - 1 - Lf.col (glf l k)), V.b !Lf.back (glf l k), V.b (Lf.turned (glf l k))])), kR, .row kR ?_⟩ .nil) kR kR
    exact unf_1 c1 (by simpa using c3) rfl (by rw [e1]; rfl)
   ·
    refine wR 9 ?_
    refine aX hTT 6 [(1, .c ((0 : Nat) ≤ (4 : Nat))), (2, .c ((0 : Nat) ≤ (4 : Nat))), (4, .r (PR.mk (some (55 : Nat)) (some ((2 : Nat) * k + 2 ≤ (1099511627776 : Nat))) (V.own 800055) [((9 : Nat), none), ((800055 : Nat), some (Ob.row 31 4 ((2 : Nat) * k + 2) (appRow ((2 : Nat) * k) (fun (j : Nat) => Lf.c (glf (unfL l F R M) j)) fun (i : Nat) => List.take (4 : Nat) (List.drop (i * 4) [V.i (Lf.row (glf l k)), V.i ((2 : Int) * M - 1 - Lf.col (glf l k)), V.b !Lf.back (glf l k), V.b (Lf.turned (glf l k)), V.i (Lf.row (glf l k)), V.i (Lf.col (glf l k)), V.b (Lf.back (glf l k)), V.b (Lf.turned (glf l k))]))))] false))] ⟨oM, oM, oM, tI⟩ ?_; refine aops_nil ?_; refine xb_n ?_; refine xt_n (hK _ ?_); clear hK K; refine wR 10 ?_; refine aX hTT 2 [(0, .i ((↑k : Int) + 1))] ⟨oM, tI⟩ ?_; refine aops_nil ?_; refine xt_n ?_
    refine ⟨k + 1, by omega, ?_, by omega⟩
    refine le_ren (tl := [(1, V.i F), (2, V.i R), (3, V.i M), (9, V.own 9), (13, V.sl 4 (List.length l) fun (k : Nat) => Lf.c (glf l k)), (14, V.i (↑(List.length l) : Int)), (15, V.i (↑(k + 1) : Int))]) (sl := [(9, Ob.row 31 4 ((2 : Nat) * (k + 1)) fun (j : Nat) => Lf.c (glf (unfL l F R M) j))]) [(9, 800055)] (.cons kR (.cons kR (.cons kR (.cons kR (.cons kR (.cons kR (.cons kR .nil))))))) (.cons ⟨Ob.row 31 4 ((2 : Nat) * k + 2) (appRow ((2 : Nat) * k) (fun (j : Nat) => Lf.c (glf (unfL l F R M) j)) fun (i : Nat) => List.take (4 : Nat) (List.drop (i * 4) [V.i (Lf.row (glf l k)), V.i ((2 : Int) * M - 1 - Lf.col (glf l k)), V.b !Lf.back (glf l k), V.b (Lf.turned (glf l k)), V.i (Lf.row (glf l k)), V.i (Lf.col (glf l k)), V.b (Lf.back (glf l k)), V.b (Lf.turned (glf l k))])), kR, .row kR ?_⟩ .nil) kR kR
    exact unf_2 c1 (by simpa using c3) rfl (by rw [e1]; rfl)
 ·
  simp at c1
  obtain rfl : k = l.length := by omega
  refine aw_exit ?_
  refine xt_x ?_; refine xt_x ?_
  refine xb_same ?_
  refine xt_n ?_; clear hK K; refine hK _ ?_; clear hK K; refine sK fun K hK => wR 3 ?_; refine aX hTT 2 [] tI ?_; refine nK hK ?_; clear hK K
  refine aw_ret ?_
  refine ret_own [(0, 9)] [(8, V.own 0)] (.inr rfl) (.cons kR .nil) (.cons ⟨Ob.row 31 4 ((2 : Nat) * List.length l) fun (j : Nat) => Lf.c (glf (unfL l F R M) j), kR, .row kR (fun _ _ => rfl)⟩ .nil) kR kR kR kR
theorem unfoldO_ac (l : List Lf) (F R M : Int) (hl : l.length ≤ 4096) (hR : 0 ≤ R ∧ R ≤ 65536) (hM : 0 ≤ M ∧ M ≤ 65536) (hb : ∀ k, k < l.length → (0 ≤ (glf l k).row ∧ (glf l k).row ≤ 65536) ∧ (0 ≤ (glf l k).col ∧ (glf l k).col ≤ 65536)) :
  AM Tryd.prog 75 [.own 500, .i F, .i R, .i M] [.row 31 4 l.length fun j => (glf l j).c] (.own 0) [none] [.row 31 4 (2 * l.length) fun j => (glf (unfL l F R M) j).c] :=
 (unfold_ac l F R M hl hR hM hb).row 31 (sz := 4) (n := l.length) (row := fun j => (glf l j).c) rfl rfl (by simp) rfl (fun _ _ => rfl) (fun _ => rfl)
def stV (f : List Int) : List (List V) := (stkL f).map fun x => [V.agg x.c]
theorem stV_get {f : List Int} {k : Nat} (h : k < (stkL f).length) : (stV f)[k]? = some [V.agg (glf (stkL f) k).c] := by rw [glf_get h]; simp [stV, h]
theorem stV_len (f : List Int) : (stV f).length = (stkL f).length := by simp [stV]
theorem drop_last {f : List Int} {k : Nat} (h : k < f.length) : f.drop (f.length - 1 - k) = gi f (f.length - 1 - k) :: f.drop (f.length - k) := by
 have h1 : f.length - 1 - k < f.length := by omega
 rw [List.drop_eq_getElem_cons h1, show f.length - 1 - k + 1 = f.length - k by omega]
 simp [gi, List.getD_eq_getElem?_getD, List.getElem?_eq_getElem h1]
theorem stk_step {f : List Int} {k : Nat} (h : k < f.length) : stkS (f.drop (f.length - (k + 1))) = (unfL (stkL (f.drop (f.length - k))) (gi f (f.length - 1 - k)) (stkS (f.drop (f.length - k))).2.1 (stkS (f.drop (f.length - k))).2.2, (stkS (f.drop (f.length - k))).2.1 * gr0 (gi f (f.length - 1 - k)), (stkS (f.drop (f.length - k))).2.2 * gr1 (gi f (f.length - 1 - k))) := by
 rw [show f.length - (k + 1) = f.length - 1 - k by omega, drop_last h, stkS, stkL]
theorem FO_drop {f : List Int} (h : FO f) (n : Nat) : FO (f.drop n) := fun x hx => h x (List.mem_of_mem_drop hx)
abbrev yySN70 : Ob := Ob.row 31 4 1 fun (i : Nat) => List.take (4 : Nat) (List.drop (i * 4) [V.i 0, V.i 0, V.b false, V.b false])
abbrev yySN71 (f : List Int) : Ob := Ob.row 31 4 (List.length (stkL f)) fun (j : Nat) => Lf.c (glf (stkL f) j)
set_option maxHeartbeats 4000000 in
set_option maxRecDepth 100000 in
theorem stack1_it (f : List Int) (hf : FO f) (hl : f.length ≤ 5) : AIt4 Tryd.prog 73 [.ptr [V.ints f]] (stV f) := by
 refine ait4_intro hTT hMX (fn := Tryd.f73) (N := _) ⟨Tryd.func73, rfl, Tryd.ntmps73, kR⟩ rfl (by simp) fun Y => ?_
 rw [stV_len]
 refine awj4_seq_a fun C hF hC K hK => ?_
 refine wR 2 ?_
 refine aops_x (M := [11]) hTT 8 [(1, .r (pn 11 (V.own 100011) (100011 : Nat) (yySN70))), (2, .r (pn 3 (V.ref 100003 0) (100003 : Nat) (Ob.box 24 [V.nil]))), (3, .r (pn 4 (V.ref 100004 0) (100004 : Nat) (Ob.box 3 [V.i 0]))), (4, .r (pn 5 (V.ref 100005 0) (100005 : Nat) (Ob.box 3 [V.i 0]))), (5, .r (pw ((0 : Nat) + (1 : Nat) ≤ (1 : Nat)) (100003 : Nat) (Ob.box 24 [V.own 100011]))), (6, .r (pw ((0 : Nat) + (1 : Nat) ≤ (1 : Nat)) (100004 : Nat) (Ob.box 3 [V.i 1]))), (7, .r (pw ((0 : Nat) + (1 : Nat) ≤ (1 : Nat)) (100005 : Nat) (Ob.box 3 [V.i 1])))] ⟨oM, oM, oM, tI⟩ ?_
 refine nK hK ?_; clear hK K
 refine awj4_seq_a fun C hF hC K hK => ?_
 refine sK fun K hK => wR 3 ?_
 refine aops_x (M := [11]) hTT 1 [] tI ?_
 refine eC (Backward_ac f) ?_
 refine nK hK ?_; clear hK K
 refine aw_block ?_
 refine w_range4 (caps := [V.ptr [V.sl 1 (List.length f) fun (k : Nat) => [V.i (gi f k)]]]) hF [500, 501, 502] [0] [(500, 100003), (501, 100004), (502, 100005), (0, 100011)] (fun _ _ h => by rw [hC] at h; cases h) (backward_it f oM) kR kR ?_ kR [(0, V.c (.func (.yield Y.l) #[] #[])), (3, V.ref 500 0), (4, V.ref 501 0), (5, V.ref 502 0)] (fun k => k ≤ f.length) (fun k => [Ob.box 24 [.own 0], Ob.box 3 [.i (stkS (f.drop (f.length - k))).2.1], Ob.box 3 [.i (stkS (f.drop (f.length - k))).2.2], Ob.row 31 4 (stkL (f.drop (f.length - k))).length fun j => (glf (stkL (f.drop (f.length - k))) j).c]) (fun _ _ _ => False) ?_ kR kR kR (.cons kR (.cons kR (.cons kR (.cons kR .nil)))) (.cons ⟨Ob.box 24 [V.own 100011], kR, .box kR⟩ (.cons ⟨Ob.box 3 [V.i 1], kR, .box ?_⟩ (.cons ⟨Ob.box 3 [V.i 1], kR, .box ?_⟩ (.cons ⟨yySN70, kR, .row ?_ ?_⟩ .nil)))) kR ?_ ?_ ?_
 ·
  intro x hx
  simp only [bwV, List.mem_map] at hx
  obtain ⟨j, _, rfl⟩ := hx
  rfl
 ·
  exact Nat.zero_le _
 ·
  rw [Nat.sub_zero, List.drop_length]; rfl
 ·
  rw [Nat.sub_zero, List.drop_length]; rfl
 ·
  rw [Nat.sub_zero, List.drop_length]; rfl
 ·
  rw [Nat.sub_zero, List.drop_length]
  intro i hi
  obtain rfl : i = 0 := by omega
  rfl
 ·
  rintro C' ⟨lx, hF⟩ k x hx _
  have h1 : k < f.length := by have := (List.getElem?_eq_some_iff.1 hx).1; rwa [bwV_len] at this
  rw [bwV_get h1] at hx
  injection hx with hx
  subst hx
  have hf1 := FO_drop hf (f.length - k)
  obtain ⟨⟨r1, r2, r3⟩, r4⟩ := stk_bd hf1
  have hle := stk_le hf1 (by simp; omega)
  have hlen : (stkL (f.drop (f.length - k))).length ≤ 32 := by rw [stkL_len]; exact pow_le5 (by simp; omega)
  have hgk : gi f (f.length - 1 - k) = 1 ∨ gi f (f.length - 1 - k) = 2 := by
   have hlt : f.length - 1 - k < f.length := by omega
   simp only [gi, List.getD_eq_getElem?_getD, List.getElem?_eq_getElem hlt, Option.getD_some]
   exact hf _ (List.getElem_mem hlt)
  generalize hg : gi f (f.length - 1 - k) = F at hgk
  generalize hs : stkL (f.drop (f.length - k)) = ls at r4 hlen
  generalize hR : (stkS (f.drop (f.length - k))).2.1 = R at r1 r3 r4 hle
  generalize hM : (stkS (f.drop (f.length - k))).2.2 = M at r2 r3 r4 hle
  have hst := stk_step h1
  rw [hg, hs, hR, hM] at hst
  rcases hgk with rfl | rfl
  ·
   refine wR 2 ?_
   refine aX hTT 1 [] tI ?_; refine aops_nil ?_; refine xt_n ?_
   refine aw_block ?_
   refine sK fun K hK => wR 3 ?_; refine aX hTT 4 [(0, .c qSN70), (2, .c qSN70), (3, .c qSN70)] ⟨qSN70_, qSN70_, qSN70_, tI⟩ ?_
   refine aops_callM [0] (first := []) (caps := []) (ins' := [Ob.row 31 4 (List.length ls) fun (j : Nat) => Lf.c (glf ls j)]) (v' := V.own 200020) (δ := [(0, Option.none), (200020, Option.some (Ob.row 31 4 ((2 : Nat) * List.length ls) fun (i : Nat) => V.renL (nameG (2 : Nat) (some 20) [(0 : Nat)]) (Lf.c (glf (unfL ls (1 : Int) R M) i))))]) (kp := [0]) (unfoldO_ac ls 1 R M oM oM oM (fun j hj => by rw [glf_get hj]; have := r4 _ (List.getElem_mem hj); omega)) kR kR kR kR kR kR rfl rfl kR (.row kR (fun _ _ => rfl) (fun _ _ => rfl) .nil) kR kR kR ?_
   refine aX hTT 1 [(0, .r (pw ((0 : Nat) + (1 : Nat) ≤ (1 : Nat)) (500 : Nat) (Ob.box 24 [V.own 200020])))] ⟨oM, tI⟩ ?_; refine nK hK ?_; clear hK K; refine wD 4 ?_; refine aX hTT 14 [(0, .c qSN70), (2, .c ((0 : Int) ≤ (1 : Int) ∧ (1 : Int) < (↑(3 : Nat) : Int))), (3, .c ((0 : Int) ≤ (0 : Int) ∧ (0 : Int) < (↑(2 : Nat) : Int))), (5, .i (R * 1)), (6, .c qSN70), (8, .c ((0 : Int) ≤ (1 : Int) ∧ (1 : Int) < (↑(3 : Nat) : Int))), (9, .c ((0 : Int) ≤ (1 : Int) ∧ (1 : Int) < (↑(2 : Nat) : Int))), (11, .i (M * 2)), (12, .r (pw ((0 : Nat) + (1 : Nat) ≤ (1 : Nat)) (501 : Nat) (Ob.box 3 [V.i (R * 1)]))), (13, .r (pw ((0 : Nat) + (1 : Nat) ≤ (1 : Nat)) (502 : Nat) (Ob.box 3 [V.i (M * 2)])))] ⟨qSN70_, oM, oM, oM, qSN70_, oM, oM, oM, oM, oM, tI⟩ ?_; refine aops_nil ⟨kR, ?_⟩; refine xb_n ?_
   refine ⟨by omega, ?_⟩
   refine le_ren (sl := [(500, Ob.box 24 [V.own 0]), (501, Ob.box 3 [V.i (Prod.fst (Prod.snd (stkS (List.drop (List.length f - (k + 1)) f))))]), (502, Ob.box 3 [V.i (Prod.snd (Prod.snd (stkS (List.drop (List.length f - (k + 1)) f))))]), (0, Ob.row 31 4 (List.length (stkL (List.drop (List.length f - (k + 1)) f))) fun (j : Nat) => Lf.c (glf (stkL (List.drop (List.length f - (k + 1)) f)) j))]) [(0, 200020)] .nil (.cons ⟨Ob.box 24 [V.own 200020], kR, .box kR⟩ (.cons ⟨Ob.box 3 [V.i (R * 1)], kR, .box ?_⟩ (.cons ⟨Ob.box 3 [V.i (M * 2)], kR, .box ?_⟩ (.cons ⟨Ob.row 31 4 ((2 : Nat) * List.length ls) fun (i : Nat) => V.renL (nameG (2 : Nat) (some (20 : Tmp)) [(0 : Nat)]) (Lf.c (glf (unfL ls (1 : Int) R M) i)), kR, .row ?_ ?_⟩ .nil)))) kR kR
   ·
    rw [hst]; rfl
   ·
    rw [hst]; rfl
   ·
    rw [stkL, hst, unfL_len]
   ·
    rw [stkL, hst]; exact fun _ _ => rfl
  ·
   refine wR 2 ?_
   refine aX hTT 1 [] tI ?_; refine aops_nil ?_; refine xt_n ?_
   refine aw_block ?_
   refine sK fun K hK => wR 3 ?_; refine aX hTT 4 [(0, .c qSN70), (2, .c qSN70), (3, .c qSN70)] ⟨qSN70_, qSN70_, qSN70_, tI⟩ ?_
   refine aops_callM [0] (first := []) (caps := []) (ins' := [Ob.row 31 4 (List.length ls) fun (j : Nat) => Lf.c (glf ls j)]) (v' := V.own 200020) (δ := [(0, Option.none), (200020, Option.some (Ob.row 31 4 ((2 : Nat) * List.length ls) fun (i : Nat) => V.renL (nameG (2 : Nat) (some 20) [(0 : Nat)]) (Lf.c (glf (unfL ls (2 : Int) R M) i))))]) (kp := [0]) (unfoldO_ac ls 2 R M oM oM oM (fun j hj => by rw [glf_get hj]; have := r4 _ (List.getElem_mem hj); omega)) kR kR kR kR kR kR rfl rfl kR (.row kR (fun _ _ => rfl) (fun _ _ => rfl) .nil) kR kR kR ?_
   refine aX hTT 1 [(0, .r (pw ((0 : Nat) + (1 : Nat) ≤ (1 : Nat)) (500 : Nat) (Ob.box 24 [V.own 200020])))] ⟨oM, tI⟩ ?_; refine nK hK ?_; clear hK K; refine wD 4 ?_; refine aX hTT 14 [(0, .c qSN70), (2, .c ((0 : Int) ≤ (2 : Int) ∧ (2 : Int) < (↑(3 : Nat) : Int))), (3, .c ((0 : Int) ≤ (0 : Int) ∧ (0 : Int) < (↑(2 : Nat) : Int))), (5, .i (R * 2)), (6, .c qSN70), (8, .c ((0 : Int) ≤ (2 : Int) ∧ (2 : Int) < (↑(3 : Nat) : Int))), (9, .c ((0 : Int) ≤ (1 : Int) ∧ (1 : Int) < (↑(2 : Nat) : Int))), (11, .i (M * 1)), (12, .r (pw ((0 : Nat) + (1 : Nat) ≤ (1 : Nat)) (501 : Nat) (Ob.box 3 [V.i (R * 2)]))), (13, .r (pw ((0 : Nat) + (1 : Nat) ≤ (1 : Nat)) (502 : Nat) (Ob.box 3 [V.i (M * 1)])))] ⟨qSN70_, oM, oM, oM, qSN70_, oM, oM, oM, oM, oM, tI⟩ ?_; refine aops_nil ⟨kR, ?_⟩; refine xb_n ?_
   refine ⟨by omega, ?_⟩
   refine le_ren (sl := [(500, Ob.box 24 [V.own 0]), (501, Ob.box 3 [V.i (Prod.fst (Prod.snd (stkS (List.drop (List.length f - (k + 1)) f))))]), (502, Ob.box 3 [V.i (Prod.snd (Prod.snd (stkS (List.drop (List.length f - (k + 1)) f))))]), (0, Ob.row 31 4 (List.length (stkL (List.drop (List.length f - (k + 1)) f))) fun (j : Nat) => Lf.c (glf (stkL (List.drop (List.length f - (k + 1)) f)) j))]) [(0, 200020)] .nil (.cons ⟨Ob.box 24 [V.own 200020], kR, .box kR⟩ (.cons ⟨Ob.box 3 [V.i (R * 2)], kR, .box ?_⟩ (.cons ⟨Ob.box 3 [V.i (M * 1)], kR, .box ?_⟩ (.cons ⟨Ob.row 31 4 ((2 : Nat) * List.length ls) fun (i : Nat) => V.renL (nameG (2 : Nat) (some (20 : Tmp)) [(0 : Nat)]) (Lf.c (glf (unfL ls (2 : Int) R M) i)), kR, .row ?_ ?_⟩ .nil)))) kR kR
   ·
    rw [hst]; rfl
   ·
    rw [hst]; rfl
   ·
    rw [stkL, hst, unfL_len]
   ·
    rw [stkL, hst]; exact fun _ _ => rfl
 ·
  rw [bwV_len, Nat.sub_self, List.drop_zero]
  intro _
  refine xb_n ?_; refine xt_n (hK _ ?_); clear hK K
  refine awj4_seq_a fun C hF hC K hK => ?_
  refine wR 2 ?_; refine aX hTT 3 [(0, .c qSN70)] ⟨qSN70_, tI⟩ ?_; refine nK hK ?_; clear hK K
  refine awj4_block ?_
  refine awj4_loop (ι := Nat) (fun k => ⟨mkT [(0, .c (.func (.yield Y.l) #[] #[])), (33, .own 0), (34, .i (stkL f).length), (35, .i k)], mkS [(0, .row 31 4 (stkL f).length fun j => (glf (stkL f) j).c)], 1⟩) (fun k => k) (fun k => k ≤ (stkL f).length) (fun k => (stkL f).length - k) 0 (Nat.zero_le _) ?_ rfl ?_
  ·
   refine le_ren (sl := [(0, (yySN71 f))]) [(0, 0)] (.cons kR (.cons kR (.cons kR (.cons kR .nil)))) (.cons ⟨(yySN71 f), kR, .row kR (fun _ _ => rfl)⟩ .nil) kR kR
  intro k hk
  have hlen : (stkL f).length ≤ 32 := by rw [stkL_len]; exact pow_le5 hl
  refine awj4_seq_a fun C hF hC K hK => ?_
  refine wR 2 ?_; refine aX hTT 1 [] tI ?_; refine nK hK ?_; clear hK K
  refine awj4_seq_a fun C hF hC K hK => ?_
  refine w_cond (t := decide ((↑k : Int) < (↑(List.length (stkL f)) : Int))) kR (fun c1 => ?_) (fun c1 => ?_)
  ·
   have h1 : k < (stkL f).length := by simpa using c1
   refine aw_skip ?_
   refine xt_n (hK _ ?_); clear hK K
   refine awj4_seq ?_
   refine awj4_block ?_
   refine awj4_seq_a fun C hF hC K hK => ?_
   refine wR 3 ?_; refine aX hTT 4 [(0, .c ((0 : Int) ≤ (↑k : Int) ∧ (↑k : Int) < (↑(List.length (stkL f)) : Int))), (1, .c (k < List.length (stkL f) ∧ (0 : Nat) ≤ (4 : Nat))), (2, .r (pn 9 (V.ref 200009 0) (200009 : Nat) (Ob.box 31 [V.i 0, V.i 0, V.b false, V.b false]))), (3, .r (pw ((0 : Nat) + (4 : Nat) ≤ (4 : Nat)) (200009 : Nat) (Ob.box 31 [V.i (Lf.row (glf (stkL f) k)), V.i (Lf.col (glf (stkL f) k)), V.b (Lf.back (glf (stkL f) k)), V.b (Lf.turned (glf (stkL f) k))])))] ⟨oM, oM, oM, tI⟩ ?_; refine nK hK ?_; clear hK K
   refine awj4_seq (awj4_yield 2 kR rfl fun C hF hC => ?_)
   refine aX hTT 2 [(1, .c qSN71)] ⟨qSN71_, tI⟩ ?_; refine aops_nil ?_
   refine ⟨kR, ⟨_, stV_get h1, RImp.refl _, trivial⟩, ⟨kR, fun v hv => by rw [stV_get h1] at hv; injection hv with hv; subst hv; rfl⟩, fun C hF hC => ?_, fun C hF hC => ?_⟩
   ·
    refine aX hTT 1 [] tI ?_
    refine aops_nil ?_
    refine xjt_n ?_
    refine awj4_cond (t := false) kR (fun h => by cases h) (fun _ => ?_)
    refine awj4_skip ?_
    refine xjb_n ?_
    refine xjt_n ?_
    refine awj4_aw fun C hF hC => ?_
    refine wR 5 ?_; refine aX hTT 2 [(0, .i ((↑k : Int) + 1))] ⟨oM, tI⟩ ?_; refine aops_nil ?_
    refine xjt_n ?_
    refine ⟨rfl, k + 1, by omega, ?_, rfl, by omega⟩
    refine le_ren (sl := [(0, (yySN71 f))]) [(0, 0)] (.cons kR (.cons kR (.cons kR (.cons kR .nil)))) (.cons ⟨(yySN71 f), kR, .row kR (fun _ _ => rfl)⟩ .nil) kR kR
   ·
    refine aX hTT 1 [] tI ?_
    refine aops_nil ?_
    refine xjt_n ?_
    refine awj4_cond (t := true) kR (fun _ => ?_) (fun h => by cases h)
    refine awj4_ret ?_
    refine xjb_r ?_
    refine xjt_r ?_
    refine xjt_r ?_
    refine xjb_r ?_
    exact ⟨.inr rfl, fun h => (by cases h), fun _ => h1⟩
  ·
   have h1 : k = (stkL f).length := by simp at c1; omega
   refine aw_exit ?_
   refine xt_x ?_
   refine xjt_x ?_
   refine xjb_same ?_
   exact ⟨.inl rfl, fun _ => h1, fun h => by cases h⟩
 ·
  exact fun _ _ _ _ h => h.elim
set_option maxRecDepth 100000 in
theorem stack_ac (f : List Int) : AC Tryd.prog 47 [V.ints f] (.fn (.func 73) [] [.ptr [V.ints f]]) [] := by
 refine acI hTT hMX Tryd.func47 Tryd.ntmps47 fun C hC hF => ?_
 refine sK fun K hK => wR 2 ?_; refine aX hTT 2 [] tI ?_; refine nK hK ?_; clear hK K; refine sK fun K hK => wR 3 ?_; refine aX hTT 2 [] tI ?_; refine nK hK ?_; clear hK K
 refine aw_ret ?_
 refine rP (V.fn (Fn.func (73 : Nat)) [] [V.ptr [V.sl 1 (List.length f) fun (k : Nat) => [V.i (gi f k)]]])
set_option maxRecDepth 100000 in
theorem folB_ac (k : Int) : AC Tryd.prog 52 [.i k] (.b (folB k)) [] := by
 refine acI hTT hMX Tryd.func52 Tryd.ntmps52 fun C hC hF => ?_
 refine sK fun K hK => wR 2 ?_; refine aX hTT 1 [] tI ?_; refine nK hK ?_; clear hK K; refine sK fun K hK => wR 3 ?_; refine aX hTT 7 [(3, .c (gA (decide (k < 1) == false) True)), (4, .c (gD (decide (k < 1) == false) True)), (5, .c (True ∧ (decide (k < 1) = false → (decide (k < 1) == false) = true)))] ⟨⟨⟨tI, tI⟩, (fun _ => tI)⟩, ⟨⟨(by (exact fun h => h)), ⟨tI, tI⟩⟩, (fun _ => tI)⟩, ⟨tI, (by (intro h; rw [h]; rfl))⟩, tI⟩ ?_; refine nK hK ?_; clear hK K
 refine aw_ret ?_
 refine rP (V.b (decide (k < 1) || decide ((2 : Int) < k)))
set_option maxRecDepth 100000 in
theorem indexFold_ac (l : List Int) (hl : l.length ≤ 4611686018427387904) : AC Tryd.prog 78 [V.ints l, .fn (.func 52) [] []] (.i (idxF (fun k => folB (gi l k)) l.length)) [] := by
 refine acI hTT hMX Tryd.func78 Tryd.ntmps78 fun C hC hF => ?_
 refine sK fun K hK => wR 2 ?_; refine aX hTT 1 [] tI ?_; refine nK hK ?_; clear hK K; refine sK fun K hK => ?_; refine sK fun K hK => wR 3 ?_; refine aX hTT 3 [] tI ?_; refine nK hK ?_; clear hK K
 refine aw_block ?_
 refine w_loop (ι := Nat) (fun k => [(0, V.ints l), (1, .fn (.func 52) [] []), (7, .i l.length), (8, .i k)]) (fun _ => []) (fun k => k ≤ l.length ∧ ∀ j, j < k → (fun k => folB (gi l k)) j = false) (fun k => l.length - k) 0 ⟨Nat.zero_le _, fun _ h => by omega⟩ ?_ ?_
 ·
  refine le_ren [] (.cons kR (.cons kR (.cons kR (.cons kR .nil)))) .nil kR kR
 rintro k ⟨hk, h0⟩
 refine sK fun K hK => wR 2 ?_; refine aX hTT 1 [] tI ?_; refine nK hK ?_; clear hK K; refine sK fun K hK => ?_
 refine w_cond (t := decide ((↑k : Int) < (↑(List.length l) : Int))) kR (fun c1 => ?_) (fun c1 => ?_)
 ·
  simp at c1
  refine aw_skip ?_
  refine xt_n (hK _ ?_); clear hK K; refine sK fun K hK => ?_
  refine aw_block ?_
  refine sK fun K hK => wR 3 ?_; refine aX hTT 2 [] tI ?_; refine nK hK ?_; clear hK K; refine sK fun K hK => wR 4 ?_; refine aX hTT 5 [(3, .c ((0 : Int) ≤ (↑k : Int) ∧ (↑k : Int) < (↑(List.length l) : Int)))] ⟨oM, tI⟩ ?_
  refine eC (folB_ac (gi l k)) ?_
  refine nK hK ?_; clear hK K
  refine w_cond (t := folB (gi l k)) kR (fun c2 => ?_) (fun c2 => ?_)
  ·
   refine sK fun K hK => ?_
   refine wR 5 ?_; refine aX hTT 2 [] tI ?_; refine nK hK ?_; clear hK K
   refine aw_ret ?_
   refine xb_r ?_
   refine xt_r ?_; refine xt_r ?_
   refine xb_r ?_
   refine xt_r ?_
   rw [idxF_some (p := fun k => folB (gi l k)) c1 c2 h0]
   refine rP (V.i (↑k : Int))
  refine aw_skip ?_
  refine xb_n ?_; refine xt_n (hK _ ?_); clear hK K; refine wR 5 ?_; refine aX hTT 2 [(0, .i ((↑k : Int) + 1))] ⟨oM, tI⟩ ?_; refine aops_nil ?_; refine xt_n ?_
  refine ⟨k + 1, ⟨by omega, fun j hj => ?_⟩, by refine le_ren [] (.cons kR (.cons kR (.cons kR (.cons kR .nil)))) .nil kR kR, by omega⟩
  by_cases he : j = k
  ·
   subst he; exact c2
  ·
   exact h0 j oM
 simp at c1
 obtain rfl : k = l.length := by omega
 refine aw_exit ?_
 refine xt_x ?_; refine xt_x ?_
 refine xb_same ?_
 refine xt_n ?_; clear hK K; refine hK _ ?_; clear hK K; refine sK fun K hK => wR 3 ?_; refine aX hTT 1 [] tI ?_; refine nK hK ?_; clear hK K
 refine aw_ret ?_
 rw [idxF_none h0]
 refine rP (V.i (-1))
def isPg (x : Lf) (row col : Int) (back : Bool) : Bool := decide (x.row = row) && decide (x.col = col) && (x.back == back)
set_option maxRecDepth 100000 in
theorem isPg_ac (x : Lf) (row col : Int) (back : Bool) : AC Tryd.prog 50 [.agg x.c, .ptr [.i row], .ptr [.i col], .ptr [.b back]] (.b (isPg x row col back)) [] := by
 refine acI hTT hMX Tryd.func50 Tryd.ntmps50 fun C hC hF => ?_
 refine sK fun K hK => wR 2 ?_; refine aX hTT 2 [] tI ?_; refine nK hK ?_; clear hK K; refine sK fun K hK => wR 3 ?_; refine aX hTT 17 [(5, .c (gA (decide (Lf.row x = row) == true) True)), (6, .c (gB (decide (Lf.row x = row) == true) True)), (7, .c (gA (decide (Lf.row x = row) == true) True)), (8, .c (gC (decide (Lf.row x = row) == true) True)), (9, .c ((decide (Lf.row x = row) = true → (decide (Lf.row x = row) == true) = true) ∧ True)), (11, .c (gA ((decide (Lf.row x = row) && decide (Lf.col x = col)) == true) True)), (12, .c (gB ((decide (Lf.row x = row) && decide (Lf.col x = col)) == true) True)), (13, .c (gA ((decide (Lf.row x = row) && decide (Lf.col x = col)) == true) True)), (14, .c (gC ((decide (Lf.row x = row) && decide (Lf.col x = col)) == true) True)), (15, .c (((decide (Lf.row x = row) && decide (Lf.col x = col)) = true → ((decide (Lf.row x = row) && decide (Lf.col x = col)) == true) = true) ∧ True))] ⟨⟨⟨tI, tI⟩, (fun _ => tI)⟩, ⟨⟨(by (exact fun h => h)), tI⟩, (fun _ => tI)⟩, ⟨⟨tI, tI⟩, (fun _ => tI)⟩, ⟨⟨(by (exact fun h => h)), ⟨(by (exact fun h => h)), tI⟩⟩, (fun _ => tI)⟩, ⟨(by (intro h; rw [h]; rfl)), tI⟩, ⟨⟨tI, tI⟩, (fun _ => tI)⟩, ⟨⟨(by (exact fun h => h)), tI⟩, (fun _ => tI)⟩, ⟨⟨tI, tI⟩, (fun _ => tI)⟩, ⟨⟨(by (exact fun h => h)), ⟨(by (exact fun h => h)), tI⟩⟩, (fun _ => tI)⟩, ⟨(by (intro h; rw [h]; rfl)), tI⟩, tI⟩ ?_; refine nK hK ?_; clear hK K
 refine aw_ret ?_
 refine rP (V.b (decide (Lf.row x = row) && decide (Lf.col x = col) && Lf.back x == back))
set_option maxRecDepth 100000 in
theorem indexPg_ac (l : List Lf) (row col : Int) (back : Bool) (hl : l.length ≤ 4096) : AC Tryd.prog 49 [V.lfs l, .fn (.func 50) [] [.ptr [.i row], .ptr [.i col], .ptr [.b back]]] (.i (idxF (fun k => isPg (glf l k) row col back) l.length)) [] := by
 refine acI hTT hMX Tryd.func49 Tryd.ntmps49 fun C hC hF => ?_
 refine sK fun K hK => wR 2 ?_; refine aX hTT 1 [] tI ?_; refine nK hK ?_; clear hK K; refine sK fun K hK => ?_; refine sK fun K hK => wR 3 ?_; refine aX hTT 3 [] tI ?_; refine nK hK ?_; clear hK K
 refine aw_block ?_
 refine w_loop (ι := Nat) (fun k => [(0, V.lfs l), (1, .fn (.func 50) [] [.ptr [.i row], .ptr [.i col], .ptr [.b back]]), (7, .i l.length), (8, .i k)]) (fun _ => []) (fun k => k ≤ l.length ∧ ∀ j, j < k → (fun k => isPg (glf l k) row col back) j = false) (fun k => l.length - k) 0 ⟨Nat.zero_le _, fun _ h => by omega⟩ ?_ ?_
 ·
  refine le_ren [] (.cons kR (.cons kR (.cons kR (.cons kR .nil)))) .nil kR kR
 rintro k ⟨hk, h0⟩
 refine sK fun K hK => wR 2 ?_; refine aX hTT 1 [] tI ?_; refine nK hK ?_; clear hK K; refine sK fun K hK => ?_
 refine w_cond (t := decide ((↑k : Int) < (↑(List.length l) : Int))) kR (fun c1 => ?_) (fun c1 => ?_)
 ·
  simp at c1
  refine aw_skip ?_
  refine xt_n (hK _ ?_); clear hK K; refine sK fun K hK => ?_
  refine aw_block ?_
  refine sK fun K hK => wR 3 ?_; refine aX hTT 2 [] tI ?_; refine nK hK ?_; clear hK K; refine sK fun K hK => wR 4 ?_; refine aX hTT 5 [(3, .c ((0 : Int) ≤ (↑k : Int) ∧ (↑k : Int) < (↑(List.length l) : Int)))] ⟨oM, tI⟩ ?_
  refine e_call (first := []) (caps := [V.ptr [V.i row], V.ptr [V.i col], V.ptr [V.b back]]) (isPg_ac (glf l k) row col back) kR kR kR kR kR ?_
  refine nK hK ?_; clear hK K
  refine w_cond (t := isPg (glf l k) row col back) kR (fun c2 => ?_) (fun c2 => ?_)
  ·
   refine sK fun K hK => ?_
   refine wR 5 ?_; refine aX hTT 2 [] tI ?_; refine nK hK ?_; clear hK K
   refine aw_ret ?_
   refine xb_r ?_
   refine xt_r ?_; refine xt_r ?_
   refine xb_r ?_
   refine xt_r ?_
   rw [idxF_some (p := fun k => isPg (glf l k) row col back) c1 c2 h0]
   refine rP (V.i (↑k : Int))
  refine aw_skip ?_
  refine xb_n ?_; refine xt_n (hK _ ?_); clear hK K; refine wR 5 ?_; refine aX hTT 2 [(0, .i ((↑k : Int) + 1))] ⟨oM, tI⟩ ?_; refine aops_nil ?_; refine xt_n ?_
  refine ⟨k + 1, ⟨by omega, fun j hj => ?_⟩, by refine le_ren [] (.cons kR (.cons kR (.cons kR (.cons kR .nil)))) .nil kR kR, by omega⟩
  by_cases he : j = k
  ·
   subst he; exact c2
  ·
   exact h0 j oM
 simp at c1
 obtain rfl : k = l.length := by omega
 refine aw_exit ?_
 refine xt_x ?_; refine xt_x ?_
 refine xb_same ?_
 refine xt_n ?_; clear hK K; refine hK _ ?_; clear hK K; refine sK fun K hK => wR 3 ?_; refine aX hTT 1 [] tI ?_; refine nK hK ?_; clear hK K
 refine aw_ret ?_
 rw [idxF_none h0]
 refine rP (V.i (-1))
set_option maxRecDepth 100000 in
theorem containsFold_ac (l : List Int) (hl : l.length ≤ 4611686018427387904) : AC Tryd.prog 51 [V.ints l, .fn (.func 52) [] []] (.b (decide (0 ≤ idxF (fun k => folB (gi l k)) l.length))) [] := by
 refine acI hTT hMX Tryd.func51 Tryd.ntmps51 fun C hC hF => ?_
 refine sK fun K hK => wR 2 ?_; refine aX hTT 1 [] tI ?_; refine nK hK ?_; clear hK K; refine sK fun K hK => wR 3 ?_; refine aX hTT 2 [] tI ?_
 refine eC (indexFold_ac l hl) ?_
 refine aX hTT 2 [] tI ?_; refine nK hK ?_; clear hK K
 refine aw_ret ?_
 refine rP (V.b (decide ((0 : Int) ≤ idxF (fun (k : Nat) => folB (gi l k)) (List.length l))))
set_option maxRecDepth 100000 in
theorem CheckFolds_ac (f : List Int) (hl : f.length ≤ 4611686018427387904) : AC Tryd.prog 19 [V.ints f] (.i (chkF f)) [] := by
 refine acI hTT hMX Tryd.func19 Tryd.ntmps19 fun C hC hF => ?_
 refine sK fun K hK => wR 2 ?_; refine aX hTT 1 [] tI ?_; refine nK hK ?_; clear hK K; refine sK fun K hK => ?_; refine sK fun K hK => wR 3 ?_; refine aX hTT 8 [(4, .c (gA (decide ((↑(List.length f) : Int) = 0) == false) True)), (5, .c (gB (decide ((↑(List.length f) : Int) = 0) == false) True)), (6, .c (gD (decide ((↑(List.length f) : Int) = 0) == false) True)), (7, .c (True ∧ (decide ((↑(List.length f) : Int) = 0) = false → (decide ((↑(List.length f) : Int) = 0) == false) = true)))] ⟨⟨⟨tI, tI⟩, (fun _ => tI)⟩, ⟨⟨(by (exact fun h => h)), tI⟩, (fun _ => tI)⟩, ⟨⟨(by (exact fun h => h)), ⟨tI, tI⟩⟩, (fun _ => tI)⟩, ⟨tI, (by (intro h; rw [h]; rfl))⟩, tI⟩ ?_; refine nK hK ?_; clear hK K
 refine w_cond (t := decide ((↑(List.length f) : Int) = 0) || decide ((5 : Int) < (↑(List.length f) : Int))) kR (fun c1 => ?_) (fun c1 => ?_)
 ·
  have h1 : f.length = 0 ∨ 5 < f.length := by
   simp at c1
   rcases c1 with h | h
   ·
    exact .inl (by rw [h]; rfl)
   ·
    exact .inr oM
  refine sK fun K hK => wR 4 ?_; refine aX hTT 1 [] tI ?_; refine nK hK ?_; clear hK K
  refine aw_ret ?_
  refine xt_r ?_
  rw [chkF_many h1]
  refine rP (V.i 6)
 have h1 : ¬ (f.length = 0 ∨ 5 < f.length) := by
  simp at c1
  intro h
  rcases h with h | h
  ·
   exact c1.1 (List.length_eq_zero_iff.1 h)
  ·
   omega
 refine aw_skip ?_
 refine xt_n (hK _ ?_); clear hK K; refine sK fun K hK => ?_; refine sK fun K hK => wR 4 ?_; refine aX hTT 1 [] tI ?_
 refine eC (containsFold_ac f hl) ?_
 refine nK hK ?_; clear hK K
 rcases idxF_inv (p := fun k => folB (gi f k)) (n := f.length) with ⟨e, h⟩ | ⟨i, hi, e, h, _⟩
 ·
  rw [e]
  refine w_false (t := false) kR rfl ?_
  refine aw_skip ?_
  refine xt_n (hK _ ?_); clear hK K; refine sK fun K hK => wR 5 ?_; refine aX hTT 1 [] tI ?_; refine nK hK ?_; clear hK K
  refine aw_ret ?_
  rw [chkF_ok h1 h]
  refine rP (V.i 0)
 ·
  rw [e]
  refine w_cond (t := decide ((0 : Int) ≤ (↑i : Int))) kR (fun c2 => ?_) (fun c2 => ?_)
  ·
   refine sK fun K hK => ?_
   refine wR 5 ?_; refine aX hTT 1 [] tI ?_; refine nK hK ?_; clear hK K
   refine aw_ret ?_
   refine xt_r ?_
   rw [chkF_bad h1 hi h]
   refine rP (V.i 2)
  ·
   simp at c2
theorem pg_1 {f : List Int} {k : Nat} (h : k < (stkL f).length) {G : Nat → List V} {r : Nat → Nat} (g0 : G 0 = (glf (stkL f) k).c) (g1 : G 1 = (glf (stkL f) k).flip.c) :
  ∀ i, i < 2 * k + 2 → appRow (2 * k) (fun j => (glf (pgL f) j).c) G i = V.renL r (glf (pgL f) i).c := by
 obtain ⟨h1, h2⟩ := pgL_at h
 intro i hi
 by_cases h3 : i < 2 * k
 ·
  rw [appRow, if_pos h3]; rfl
 ·
  rw [appRow, if_neg h3]
  by_cases h4 : i = 2 * k
  ·
   subst h4; rw [Nat.sub_self, g0, h1]; rfl
  ·
   obtain rfl : i = 2 * k + 1 := by omega
   rw [show 2 * k + 1 - 2 * k = 1 by omega, g1, h2]; rfl
def pgV (f : List Int) : V := if chkF f = 0 then .tup [V.lfs (pgL f), .i 0] else .tup [.nil, .i (chkF f)]
set_option maxHeartbeats 4000000 in
set_option maxRecDepth 100000 in
theorem Pages_ac (f : List Int) (hl : f.length ≤ 4611686018427387904) : AC Tryd.prog 15 [V.ints f] (pgV f) [] := by
 refine acI hTT hMX Tryd.func15 Tryd.ntmps15 fun C hC hF => ?_
 refine sK fun K hK => wR 2 ?_; refine aX hTT 2 [] tI ?_; refine nK hK ?_; clear hK K; refine sK fun K hK => ?_; refine sK fun K hK => wR 3 ?_; refine aX hTT 1 [] tI ?_
 refine eC (CheckFolds_ac f hl) ?_
 refine aX hTT 1 [] tI ?_; refine nK hK ?_; clear hK K; refine sK fun K hK => wR 4 ?_; refine aX hTT 2 [] tI ?_; refine nK hK ?_; clear hK K
 refine w_cond (t := !decide (chkF f = 0)) kR (fun c1 => ?_) (fun c1 => ?_)
 ·
  have h1 : ¬ chkF f = 0 := by simpa using c1
  refine sK fun K hK => wR 5 ?_; refine aX hTT 3 [] tI ?_; refine nK hK ?_; clear hK K
  refine aw_ret ?_
  refine xt_r ?_
  rw [pgV, if_neg h1]
  refine rP (V.tup [V.nil, V.i (chkF f)])
 have h1 : chkF f = 0 := by simpa using c1
 obtain ⟨⟨l1, l2⟩, l3⟩ := chkF_inv h1
 have hf := FO_of l3
 have hlen : (stkL f).length ≤ 32 := by rw [stkL_len]; exact pow_le5 l2
 refine aw_skip ?_
 refine xt_n (hK _ ?_); clear hK K; refine sK fun K hK => wR 5 ?_; refine aX hTT 1 [(0, .r (pn 5 (V.ref 400005 0) (400005 : Nat) (Ob.box 24 [V.nil])))] tI ?_; refine nK hK ?_; clear hK K; refine sK fun K hK => ?_; refine sK fun K hK => wR 6 ?_; refine aX hTT 1 [] tI ?_
 refine eC (stack_ac f) ?_
 refine nK hK ?_; clear hK K
 refine aw_block ?_
 refine w_le (le_openIn 400005 0 (t := 24) (cs := [.nil]) 31 4 (fun k => (glf (pgL f) k).c) kR kR rfl rfl) ?_
 refine w_range4 (caps := [V.ptr [V.sl 1 (List.length f) fun (k : Nat) => [V.i (gi f k)]]]) hF [500] [0] [(500, 400005), (0, 600000)] (fun _ _ h => by rw [hC] at h; cases h) (stack1_it f hf l2) kR kR ?_ kR [(5, V.ref 500 0)] (fun k => k ≤ (stkL f).length) (fun k => [Ob.box 24 [.own 0], Ob.row 31 4 (2 * k) fun j => (glf (pgL f) j).c]) (fun _ _ _ => False) ?_ kR kR kR (.cons kR .nil) (.cons ⟨Ob.box 24 [V.own 600000], kR, .box kR⟩ (.cons ⟨Ob.row 31 4 0 fun (k : Nat) => Lf.c (glf (pgL f) k), kR, .row kR (fun _ _ => rfl)⟩ .nil)) kR ?_ ?_ ?_
 ·
  intro x hx
  simp only [stV, List.mem_map] at hx
  obtain ⟨j, _, rfl⟩ := hx
  rfl
 ·
  exact Nat.zero_le _
 ·
  rintro C' ⟨lx, hF⟩ k x hx _
  have h2 : k < (stkL f).length := by have := (List.getElem?_eq_some_iff.1 hx).1; rwa [stV_len] at this
  rw [stV_get h2] at hx
  injection hx with hx
  subst hx
  refine wR 2 ?_; refine aX hTT 2 [(0, .r (pn 6 (V.ref 100006 0) (100006 : Nat) (Ob.box 31 [V.i 0, V.i 0, V.b false, V.b false]))), (1, .r (pw ((0 : Nat) + (4 : Nat) ≤ (4 : Nat)) (100006 : Nat) (Ob.box 31 [V.i (Lf.row (glf (stkL f) k)), V.i (Lf.col (glf (stkL f) k)), V.b (Lf.back (glf (stkL f) k)), V.b (Lf.turned (glf (stkL f) k))])))] ⟨oM, tI⟩ ?_; refine aops_nil ?_; refine xt_n ?_
  refine aw_block ?_
  refine sK fun K hK => wR 3 ?_; refine aX hTT 3 [(0, .c qSN71), (1, .r (pn 7 (V.ref 200007 0) (200007 : Nat) (Ob.box 31 [V.i 0, V.i 0, V.b false, V.b false]))), (2, .r (pw ((0 : Nat) + (4 : Nat) ≤ (4 : Nat)) (200007 : Nat) (Ob.box 31 [V.i (Lf.row (glf (stkL f) k)), V.i (Lf.col (glf (stkL f) k)), V.b (Lf.back (glf (stkL f) k)), V.b (Lf.turned (glf (stkL f) k))])))] ⟨qSN71_, oM, tI⟩ ?_; refine nK hK ?_; clear hK K; refine sK fun K hK => wR 4 ?_; refine aX hTT 5 [(1, .c qSN72), (4, .r (pw ((2 : Nat) + (1 : Nat) ≤ (4 : Nat)) (200007 : Nat) (Ob.box 31 [V.i (Lf.row (glf (stkL f) k)), V.i (Lf.col (glf (stkL f) k)), V.b !Lf.back (glf (stkL f) k), V.b (Lf.turned (glf (stkL f) k))])))] ⟨qSN72_, oM, tI⟩ ?_; refine nK hK ?_; clear hK K; refine wR 5 ?_; refine aX hTT 6 [(0, .c ((0 : Nat) ≤ (1 : Nat))), (1, .c ((0 : Nat) ≤ (4 : Nat))), (2, .c ((0 : Nat) ≤ (4 : Nat))), (4, .r (PR.mk (some (25 : Nat)) (some ((2 : Nat) * k + 2 ≤ (1099511627776 : Nat))) (V.own 400025) [((0 : Nat), none), ((400025 : Nat), some (Ob.row 31 4 ((2 : Nat) * k + 2) (appRow ((2 : Nat) * k) (fun (j : Nat) => Lf.c (glf (pgL f) j)) fun (i : Nat) => List.take (4 : Nat) (List.drop (i * 4) [V.i (Lf.row (glf (stkL f) k)), V.i (Lf.col (glf (stkL f) k)), V.b (Lf.back (glf (stkL f) k)), V.b (Lf.turned (glf (stkL f) k)), V.i (Lf.row (glf (stkL f) k)), V.i (Lf.col (glf (stkL f) k)), V.b !Lf.back (glf (stkL f) k), V.b (Lf.turned (glf (stkL f) k))]))))] false)), (5, .r (pw ((0 : Nat) + (1 : Nat) ≤ (1 : Nat)) (500 : Nat) (Ob.box 24 [V.own 400025])))] ⟨oM, oM, oM, oM, oM, tI⟩ ?_; refine aops_nil ?_; refine xb_n ?_
  refine ⟨h2, ?_⟩
  refine le_ren (sl := [(500, Ob.box 24 [V.own 0]), (0, Ob.row 31 4 ((2 : Nat) * (k + 1)) fun (j : Nat) => Lf.c (glf (pgL f) j))]) [(0, 400025)] .nil (.cons ⟨Ob.box 24 [V.own 400025], kR, .box kR⟩ (.cons ⟨Ob.row 31 4 ((2 : Nat) * k + 2) (appRow ((2 : Nat) * k) (fun (j : Nat) => Lf.c (glf (pgL f) j)) fun (i : Nat) => List.take (4 : Nat) (List.drop (i * 4) [V.i (Lf.row (glf (stkL f) k)), V.i (Lf.col (glf (stkL f) k)), V.b (Lf.back (glf (stkL f) k)), V.b (Lf.turned (glf (stkL f) k)), V.i (Lf.row (glf (stkL f) k)), V.i (Lf.col (glf (stkL f) k)), V.b !Lf.back (glf (stkL f) k), V.b (Lf.turned (glf (stkL f) k))])), kR, .row kR ?_⟩ .nil)) kR kR
  exact pg_1 h2 rfl rfl
 ·
  rw [stV_len]
  intro _
  refine xb_n ?_; refine xt_n (hK _ ?_); clear hK K; refine sK fun K hK => wR 2 ?_; refine aX hTT 3 [(0, .c qSN70)] ⟨qSN70_, tI⟩ ?_; refine nK hK ?_; clear hK K
  refine aw_ret ?_
  rw [pgV, if_pos h1]
  refine ret_of_le (le_shut 2 0 (e := (31 : Nat)) (sz := (4 : Nat)) (n := (2 : Nat) * List.length (stkL f)) (n' := (pgL f).length) (row := fun (j : Nat) => Lf.c (glf (pgL f) j)) (row' := (fun j => (glf (pgL f) j).c)) kR kR (fun _ _ => rfl) ?_ ?_) ?_
  ·
   exact (pgL_len f).symm
  ·
   exact fun _ _ => rfl
  refine rP (V.tup [V.sl 4 (List.length (pgL f)) fun (j : Nat) => Lf.c (glf (pgL f) j), V.i 0])
 ·
  exact fun _ _ _ _ h => h.elim
def pgI (f : List Int) (row col : Int) (back : Bool) : Int := idxF (fun k => isPg (glf (pgL f) k) row col back) (pgL f).length
def pageN (f : List Int) (row col : Int) (back : Bool) : Int := if chkF f = 0 then (if pgI f row col back < 0 then 0 else pgI f row col back + 1) else 0
def pageE (f : List Int) (row col : Int) (back : Bool) : Int := if chkF f = 0 then (if pgI f row col back < 0 then 3 else 0) else chkF f
theorem pgL_len32 {f : List Int} (h : f.length ≤ 5) : (pgL f).length ≤ 64 := by
 rw [pgL_len, stkL_len]
 have := pow_le5 h
 omega
theorem pgI_le (f : List Int) (row col : Int) (back : Bool) : pgI f row col back < (pgL f).length := by
 rcases idxF_inv (p := fun k => isPg (glf (pgL f) k) row col back) (n := (pgL f).length) with ⟨e, _⟩ | ⟨i, hi, e, _⟩
 ·
  unfold pgI; omega
 ·
  unfold pgI; omega
set_option maxRecDepth 100000 in
theorem Page_ac (f : List Int) (row col : Int) (back : Bool) (hl : f.length ≤ 4611686018427387904) : AC Tryd.prog 17 [V.ints f, .i row, .i col, .b back] (.tup [.i (pageN f row col back), .i (pageE f row col back)]) [] := by
 refine acI hTT hMX Tryd.func17 Tryd.ntmps17 fun C hC hF => ?_
 have A := Pages_ac f hl
 refine sK fun K hK => wR 2 ?_; refine aX hTT 5 [] tI ?_; refine nK hK ?_; clear hK K; refine sK fun K hK => wR 3 ?_; refine aX hTT 1 [] tI ?_
 by_cases h1 : chkF f = 0
 ·
  rw [pgV, if_pos h1] at A
  have h2 := pgL_len32 (chkF_inv h1).1.2
  have h3 := pgI_le f row col back
  refine eC (A) ?_
  refine aX hTT 5 [] tI ?_; refine nK hK ?_; clear hK K; refine sK fun K hK => ?_; refine sK fun K hK => wR 4 ?_; refine aX hTT 2 [] tI ?_; refine nK hK ?_; clear hK K; refine w_false (t := false) kR rfl ?_
  refine aw_skip ?_
  refine xt_n (hK _ ?_); clear hK K; refine sK fun K hK => wR 5 ?_; refine aX hTT 2 [] tI ?_
  refine eC (indexPg_ac (pgL f) row col back oM) ?_
  rw [show idxF (fun k => isPg (glf (pgL f) k) row col back) (pgL f).length = pgI f row col back from rfl]
  refine aX hTT 1 [] tI ?_; refine nK hK ?_; clear hK K; refine sK fun K hK => ?_; refine sK fun K hK => wR 6 ?_; refine aX hTT 2 [] tI ?_; refine nK hK ?_; clear hK K
  refine w_cond (t := decide (pgI f row col back < 0)) kR (fun c1 => ?_) (fun c1 => ?_)
  ·
   simp at c1
   refine sK fun K hK => wR 7 ?_; refine aX hTT 2 [] tI ?_; refine nK hK ?_; clear hK K
   refine aw_ret ?_
   refine xt_r ?_
   rw [pageN, pageE, if_pos h1, if_pos h1, if_pos c1, if_pos c1]
   refine rP (V.tup [V.i 0, V.i 3])
  simp at c1
  refine aw_skip ?_
  refine xt_n (hK _ ?_); clear hK K; refine sK fun K hK => wR 7 ?_
  refine aops_n hTT (M := []) (n := 4) [pv 26 (V.i (pgI f row col back)), pc 27 ((-9223372036854775808 : Int) ≤ pgI f row col back + 1 ∧ pgI f row col back + 1 ≤ (9223372036854775807 : Int)) (V.i (pgI f row col back + 1)), pv 8 (V.i (pgI f row col back + 1)), pv 9 (V.i 0)] kR kR ⟨oM, tI⟩ ?_
  refine nK hK ?_; clear hK K
  refine aw_ret ?_
  rw [pageN, pageE, if_pos h1, if_pos h1, if_neg oM, if_neg oM]
  refine rP (V.tup [V.i (pgI f row col back + 1), V.i 0])
 ·
  rw [pgV, if_neg h1] at A
  refine eC (A) ?_
  refine aX hTT 5 [] tI ?_; refine nK hK ?_; clear hK K; refine sK fun K hK => ?_; refine sK fun K hK => wR 4 ?_; refine aX hTT 2 [] tI ?_; refine nK hK ?_; clear hK K
  refine w_cond (t := !decide (chkF f = 0)) kR (fun c1 => ?_) (fun c1 => ?_)
  ·
   refine sK fun K hK => ?_
   refine wR 5 ?_; refine aX hTT 3 [] tI ?_; refine nK hK ?_; clear hK K
   refine aw_ret ?_
   refine xt_r ?_
   rw [pageN, pageE, if_neg h1, if_neg h1]
   refine rP (V.tup [V.i 0, V.i (chkF f)])
  ·
   simp at c1
   exact absurd c1 h1
end Go.Proofs.YtfckkkmacjjmhaaDoor

namespace Go.Proofs.YtfckkkmacjjmhaaDoor
open Go.Ab Go.RowKit Go.Dw Go.Shelf
set_option maxRecDepth 100000 in
theorem copB_ac (n : Int) : AC Tryd.prog 58 [.i n] (.b (copB n)) [] := by
 refine acI hTT hMX Tryd.func58 Tryd.ntmps58 fun C hC hF => ?_
 refine sK fun K hK => wR 2 ?_; refine aX hTT 1 [] tI ?_; refine nK hK ?_; clear hK K; refine sK fun K hK => wR 3 ?_; refine aX hTT 1 [] tI ?_
 refine eC (soutside_ac n 1 1048576) ?_
 refine aX hTT 1 [] tI ?_; refine nK hK ?_; clear hK K
 refine aw_ret ?_
 refine rP (V.b (decide (n < 1) || decide ((1048576 : Int) < n)))
set_option maxRecDepth 100000 in
theorem indexCop_ac (l : List Int) (hl : l.length ≤ 4611686018427387904) : AC Tryd.prog 80 [V.ints l, .fn (.func 58) [] []] (.i (idxF (fun k => copB (gi l k)) l.length)) [] := by
 refine acI hTT hMX Tryd.func80 Tryd.ntmps80 fun C hC hF => ?_
 refine sK fun K hK => wR 2 ?_; refine aX hTT 1 [] tI ?_; refine nK hK ?_; clear hK K; refine sK fun K hK => ?_; refine sK fun K hK => wR 3 ?_; refine aX hTT 3 [] tI ?_; refine nK hK ?_; clear hK K
 refine aw_block ?_
 refine w_loop (ι := Nat) (fun k => [(0, V.ints l), (1, .fn (.func 58) [] []), (7, .i l.length), (8, .i k)]) (fun _ => []) (fun k => k ≤ l.length ∧ ∀ j, j < k → (fun k => copB (gi l k)) j = false) (fun k => l.length - k) 0 ⟨Nat.zero_le _, fun _ h => by omega⟩ ?_ ?_
 ·
  refine le_ren [] (.cons kR (.cons kR (.cons kR (.cons kR .nil)))) .nil kR kR
 rintro k ⟨hk, h0⟩
 refine sK fun K hK => wR 2 ?_; refine aX hTT 1 [] tI ?_; refine nK hK ?_; clear hK K; refine sK fun K hK => ?_
 refine w_cond (t := decide ((↑k : Int) < (↑(List.length l) : Int))) kR (fun c1 => ?_) (fun c1 => ?_)
 ·
  simp at c1
  refine aw_skip ?_
  refine xt_n (hK _ ?_); clear hK K; refine sK fun K hK => ?_
  refine aw_block ?_
  refine sK fun K hK => wR 3 ?_; refine aX hTT 2 [] tI ?_; refine nK hK ?_; clear hK K; refine sK fun K hK => wR 4 ?_; refine aX hTT 5 [(3, .c ((0 : Int) ≤ (↑k : Int) ∧ (↑k : Int) < (↑(List.length l) : Int)))] ⟨oM, tI⟩ ?_
  refine eC (copB_ac (gi l k)) ?_
  refine nK hK ?_; clear hK K
  refine w_cond (t := copB (gi l k)) kR (fun c2 => ?_) (fun c2 => ?_)
  ·
   refine sK fun K hK => ?_
   refine wR 5 ?_; refine aX hTT 2 [] tI ?_; refine nK hK ?_; clear hK K
   refine aw_ret ?_
   refine xb_r ?_
   refine xt_r ?_; refine xt_r ?_
   refine xb_r ?_
   refine xt_r ?_
   rw [idxF_some (p := fun k => copB (gi l k)) c1 c2 h0]
   refine rP (V.i (↑k : Int))
  refine aw_skip ?_
  refine xb_n ?_; refine xt_n (hK _ ?_); clear hK K; refine wR 5 ?_; refine aX hTT 2 [(0, .i ((↑k : Int) + 1))] ⟨oM, tI⟩ ?_; refine aops_nil ?_; refine xt_n ?_
  refine ⟨k + 1, ⟨by omega, fun j hj => ?_⟩, by refine le_ren [] (.cons kR (.cons kR (.cons kR (.cons kR .nil)))) .nil kR kR, by omega⟩
  by_cases he : j = k
  ·
   subst he; exact c2
  ·
   exact h0 j oM
 simp at c1
 obtain rfl : k = l.length := by omega
 refine aw_exit ?_
 refine xt_x ?_; refine xt_x ?_
 refine xb_same ?_
 refine xt_n ?_; clear hK K; refine hK _ ?_; clear hK K; refine sK fun K hK => wR 3 ?_; refine aX hTT 1 [] tI ?_; refine nK hK ?_; clear hK K
 refine aw_ret ?_
 rw [idxF_none h0]
 refine rP (V.i (-1))
set_option maxRecDepth 100000 in
theorem containsCop_ac (l : List Int) (hl : l.length ≤ 4611686018427387904) : AC Tryd.prog 57 [V.ints l, .fn (.func 58) [] []] (.b (decide (0 ≤ idxF (fun k => copB (gi l k)) l.length))) [] := by
 refine acI hTT hMX Tryd.func57 Tryd.ntmps57 fun C hC hF => ?_
 refine sK fun K hK => wR 2 ?_; refine aX hTT 1 [] tI ?_; refine nK hK ?_; clear hK K; refine sK fun K hK => wR 3 ?_; refine aX hTT 2 [] tI ?_
 refine eC (indexCop_ac l hl) ?_
 refine aX hTT 2 [] tI ?_; refine nK hK ?_; clear hK K
 refine aw_ret ?_
 refine rP (V.b (decide ((0 : Int) ≤ idxF (fun (k : Nat) => copB (gi l k)) (List.length l))))
set_option maxRecDepth 100000 in
theorem CheckCopies_ac (c : List Int) (slots plate : Int) (hl : c.length ≤ 4611686018427387904) : AC Tryd.prog 24 [V.ints c, .i slots, .i plate] (.i (chkC c slots plate)) [] := by
 refine acI hTT hMX Tryd.func24 Tryd.ntmps24 fun C hC hF => ?_
 refine sK fun K hK => wR 2 ?_; refine aX hTT 1 [] tI ?_; refine nK hK ?_; clear hK K; refine sK fun K hK => ?_
 refine aw_block ?_
 refine sK fun K hK => wR 3 ?_; refine aX hTT 4 [] tI ?_; refine nK hK ?_; clear hK K
 refine w_cond (t := decide ((8 : Int) < (↑(List.length c) : Int))) kR (fun c1 => ?_) (fun c1 => ?_)
 ·
  have h1 : 8 < c.length := by simp at c1; omega
  refine sK fun K hK => wR 4 ?_; refine aX hTT 1 [] tI ?_; refine nK hK ?_; clear hK K
  refine aw_ret ?_
  refine xb_r ?_
  refine xt_r ?_
  rw [chkC_1 h1]
  refine rP (V.i 6)
 have h1 : ¬ 8 < c.length := by simp at c1; omega
 refine sK fun K hK => wR 4 ?_; refine aX hTT 1 [] tI ?_
 refine eC (containsCop_ac c hl) ?_
 refine aX hTT 1 [] tI ?_; refine nK hK ?_; clear hK K
 rcases idxF_inv (p := fun k => copB (gi c k)) (n := c.length) with ⟨e, h⟩ | ⟨i, hi, e, h, _⟩
 ·
  rw [e]
  refine w_false (t := false) kR rfl ?_; refine sK fun K hK => wR 5 ?_; refine aX hTT 1 [] tI ?_
  refine eC (soutside_ac slots 1 64) ?_
  refine aX hTT 2 [(1, .c (gA ((decide (slots < 1) || decide ((64 : Int) < slots)) == false) True))] ⟨⟨⟨tI, tI⟩, (fun _ => tI)⟩, tI⟩ ?_
  refine eG 1 (g := (decide (slots < 1) || decide ((64 : Int) < slots)) == false) (fun g => soutside_ac plate 0 1048576) ?_
  refine aX hTT 2 [(0, .c (True ∧ ((decide (slots < 1) || decide ((64 : Int) < slots)) = false → ((decide (slots < 1) || decide ((64 : Int) < slots)) == false) = true)))] ⟨⟨tI, (by (intro h; rw [h]; rfl))⟩, tI⟩ ?_; refine nK hK ?_; clear hK K
  refine w_cond (t := decide (slots < 1) || decide ((64 : Int) < slots) || (decide (plate < 0) || decide ((1048576 : Int) < plate))) kR (fun c2 => ?_) (fun c2 => ?_)
  ·
   refine sK fun K hK => ?_
   refine wR 6 ?_; refine aX hTT 1 [] tI ?_; refine nK hK ?_; clear hK K
   refine aw_ret ?_
   refine xb_r ?_
   refine xt_r ?_
   rw [chkC_3 h1 h c2]
   refine rP (V.i 3)
  ·
   refine aw_skip ?_
   refine xb_n ?_; refine xt_n (hK _ ?_); clear hK K; refine sK fun K hK => wR 6 ?_; refine aX hTT 1 [] tI ?_; refine nK hK ?_; clear hK K
   refine aw_ret ?_
   rw [chkC_4 h1 h (by rw [outB, outB, c2]; simp)]
   refine rP (V.i 0)
 ·
  rw [e]
  refine w_cond (t := decide ((0 : Int) ≤ (↑i : Int))) kR (fun c2 => ?_) (fun c2 => ?_)
  ·
   refine sK fun K hK => ?_
   refine wR 5 ?_; refine aX hTT 1 [] tI ?_; refine nK hK ?_; clear hK K
   refine aw_ret ?_
   refine xb_r ?_
   refine xt_r ?_
   rw [chkC_2 h1 hi h]
   refine rP (V.i 2)
  ·
   simp at c2
set_option maxRecDepth 100000 in
theorem places_ac (c : List Int) (s : Int) (h : CO c) (hl : c.length ≤ 4096) (hs : 1 ≤ s ∧ s ≤ 1048576) : AC Tryd.prog 54 [V.ints c, .i s] (.tup [V.ints (c.map fun n => plc n s), .i (plcS c s c.length)]) [] := by
 obtain ⟨s1, s2⟩ := hs
 refine acI hTT hMX Tryd.func54 Tryd.ntmps54 fun C hC hF => ?_
 refine sK fun K hK => wR 2 ?_; refine aX hTT 2 [] tI ?_; refine nK hK ?_; clear hK K; refine sK fun K hK => wR 3 ?_; refine aX hTT 1 [] tI ?_; refine nK hK ?_; clear hK K; refine sK fun K hK => wR 4 ?_; refine aX hTT 1 [] tI ?_; refine nK hK ?_; clear hK K; refine sK fun K hK => ?_; refine sK fun K hK => wR 5 ?_; refine aX hTT 3 [] tI ?_; refine nK hK ?_; clear hK K
 refine aw_block ?_
 refine w_le (le_open 6 2 1 (fun k => [.i (plc (gi c k) s)]) kR rfl) ?_
 refine w_loop (ι := Nat) (fun k => [(1, .i s), (6, .own 6), (7, .i (plcS c s k)), (11, V.ints c), (12, .i c.length), (13, .i k)]) (fun k => [(6, .row 2 1 k fun k => [.i (plc (gi c k) s)])]) (fun k => k ≤ c.length) (fun k => c.length - k) 0 (Nat.zero_le _) ?_ ?_
 ·
  refine le_ren (sl := [(6, Ob.row 2 1 0 fun (k : Nat) => [V.i (plc (gi c k) s)])]) [(6, 500006)] (.cons kR (.cons kR (.cons kR (.cons kR (.cons kR (.cons kR .nil)))))) (.cons ⟨Ob.row 2 1 0 fun (k : Nat) => [V.i (plc (gi c k) s)], kR, .row kR (fun _ _ => rfl)⟩ .nil) kR kR
 intro k hk
 have hb := plcS_bd h s1 k hk
 refine sK fun K hK => wR 2 ?_; refine aX hTT 1 [] tI ?_; refine nK hK ?_; clear hK K; refine sK fun K hK => ?_
 refine w_cond (t := decide ((↑k : Int) < (↑(List.length c) : Int))) kR (fun c1 => ?_) (fun c1 => ?_)
 ·
  simp at c1
  obtain ⟨q1, q2⟩ := h.gi c1
  have e1 := tdiv_plc q1 s1
  have p1 := plc_pos q1 s1
  have p2 := plc_le q1 s1
  refine aw_skip ?_
  refine xt_n (hK _ ?_); clear hK K; refine sK fun K hK => ?_
  refine aw_block ?_
  refine sK fun K hK => wR 3 ?_; refine aX hTT 3 [(0, .c ((0 : Int) ≤ (↑k : Int) ∧ (↑k : Int) < (↑(List.length c) : Int)))] ⟨oM, tI⟩ ?_; refine nK hK ?_; clear hK K; refine sK fun K hK => wR 4 ?_
  refine aops_n hTT (M := []) (n := 7) [pv 17 (V.i (gi c k)), pv 18 (V.i s), pc 19 ((-9223372036854775808 : Int) ≤ gi c k + s ∧ gi c k + s ≤ 9223372036854775807) (V.i (gi c k + s)), pc 20 ((-9223372036854775808 : Int) ≤ gi c k + s - 1 ∧ gi c k + s - 1 ≤ (9223372036854775807 : Int)) (V.i (gi c k + s - 1)), pv 21 (V.i s), pc 22 ((0 : Int) < s ∧ (-9223372036854775808 : Int) ≤ gi c k + s - 1 ∧ gi c k + s - 1 ≤ (9223372036854775807 : Int)) (V.i (Int.tdiv (gi c k + s - 1) s)), pv 10 (V.i (Int.tdiv (gi c k + s - 1) s))] kR kR ⟨oM, oM, ⟨oM, oM⟩, tI⟩ ?_
  refine nK hK ?_; clear hK K; refine sK fun K hK => ?_
  rw [e1]
  refine wR 5 ?_; refine aX hTT 5 [(3, .r (PR.mk (some (26 : Nat)) (some (k + 1 ≤ (1099511627776 : Nat))) (V.own 400026) [((6 : Nat), none), ((400026 : Nat), some (Ob.row 2 1 (k + 1) (appRow k (fun (k : Nat) => [V.i (plc (gi c k) s)]) fun (i : Nat) => List.take (1 : Nat) (List.drop (i * 1) [V.i (plc (gi c k) s)]))))] false))] ⟨oM, tI⟩ ?_; refine nK hK ?_; clear hK K; refine wR 6 ?_; refine aX hTT 4 [(2, .i (plcS c s k + plc (gi c k) s))] ⟨oM, tI⟩ ?_; refine aops_nil ?_; refine xb_n ?_; refine xt_n (hK _ ?_); clear hK K; refine wR 7 ?_; refine aX hTT 2 [(0, .i ((↑k : Int) + 1))] ⟨oM, tI⟩ ?_; refine aops_nil ?_; refine xt_n ?_
  refine ⟨k + 1, by omega, ?_, by omega⟩
  refine le_ren (tl := [(1, V.i s), (6, V.own 6), (7, V.i (plcS c s (k + 1))), (11, V.sl 1 (List.length c) fun (k : Nat) => [V.i (gi c k)]), (12, V.i (↑(List.length c) : Int)), (13, V.i (↑(k + 1) : Int))]) (sl := [(6, Ob.row 2 1 (k + 1) fun (k : Nat) => [V.i (plc (gi c k) s)])]) [(6, 400026)] (.cons kR (.cons kR (.cons kR (.cons kR (.cons kR (.cons kR .nil)))))) (.cons ⟨Ob.row 2 1 (k + 1) (appRow k (fun (k : Nat) => [V.i (plc (gi c k) s)]) fun (i : Nat) => List.take (1 : Nat) (List.drop (i * 1) [V.i (plc (gi c k) s)])), kR, .row kR ?_⟩ .nil) kR kR
  exact appRow_i rfl rfl
 simp at c1
 obtain rfl : k = c.length := by omega
 refine aw_exit ?_
 refine xt_x ?_; refine xt_x ?_
 refine xb_same ?_
 refine xt_n ?_; clear hK K; refine hK _ ?_; clear hK K; refine sK fun K hK => wR 3 ?_; refine aX hTT 4 [] tI ?_; refine nK hK ?_; clear hK K
 refine aw_ret ?_
 refine ret_of_le (le_shut 4 6 (e := (2 : Nat)) (sz := (1 : Nat)) (n := List.length c) (n' := (c.map fun n => plc n s).length) (row := fun (k : Nat) => [V.i (plc (gi c k) s)]) (row' := (fun k => [.i (gi (c.map fun n => plc n s) k)])) kR kR (fun _ _ => rfl) ?_ ?_) ?_
 ·
  simp
 ·
  intro i hi; rw [gi_map hi]
 refine rP (V.tup [V.sl 1 (List.length (List.map (fun (n : Int) => plc n s) c)) fun (k : Nat) => [V.i (gi (List.map (fun (n : Int) => plc n s) c) k)], V.i (plcS c s (List.length c))])
def mxP (c : List Int) : Nat → Int
 | 0 => gi c 0
 | k + 1 => max (mxP c k) (gi c (k + 1))
theorem mxP_ge {c : List Int} : ∀ {k i : Nat}, i ≤ k → gi c i ≤ mxP c k
 | 0, i, h => by
  obtain rfl : i = 0 := by omega
  exact Int.le_refl _
 | k + 1, i, h => by
  rw [mxP]
  by_cases he : i = k + 1
  ·
   subst he; omega
  ·
   have := mxP_ge (c := c) (k := k) (i := i) oM; omega
theorem mxP_bd {c : List Int} (h : CO c) : ∀ {k : Nat}, k < c.length → 1 ≤ mxP c k ∧ mxP c k ≤ 1048576
 | 0, hk => h.gi hk
 | k + 1, hk => by
  have := mxP_bd h (k := k) oM
  have := h.gi hk
  rw [mxP]; omega
set_option maxRecDepth 100000 in
theorem Max_ac (c : List Int) (h0 : 0 < c.length) (hl : c.length ≤ 4096) : AC Tryd.prog 79 [V.ints c] (.i (mxP c (c.length - 1))) [] := by
 refine acI hTT hMX Tryd.func79 Tryd.ntmps79 fun C hC hF => ?_
 refine sK fun K hK => wR 2 ?_; refine aX hTT 1 [] tI ?_; refine nK hK ?_; clear hK K; refine sK fun K hK => ?_; refine sK fun K hK => wR 3 ?_; refine aX hTT 3 [] tI ?_; refine nK hK ?_; clear hK K
 refine w_cond (t := decide ((↑(List.length c) : Int) < 1)) kR (fun c1 => ?_) (fun c1 => ?_)
 ·
  simp at c1
  omega
 refine aw_skip ?_
 refine xt_n (hK _ ?_); clear hK K; refine sK fun K hK => wR 4 ?_; refine aX hTT 4 [(1, .c ((0 : Int) ≤ (0 : Int) ∧ (0 : Int) < (↑(List.length c) : Int)))] ⟨oM, tI⟩ ?_; refine nK hK ?_; clear hK K; refine sK fun K hK => ?_; refine sK fun K hK => wR 5 ?_; refine aX hTT 1 [] tI ?_; refine nK hK ?_; clear hK K
 refine aw_block ?_
 refine w_loop (ι := Nat) (fun k => [(0, V.ints c), (3, .i (mxP c k)), (4, .i (k + 1 : Nat))]) (fun k => []) (fun k => k < c.length) (fun k => c.length - k) 0 h0 ?_ ?_
 ·
  refine le_ren [] (.cons kR (.cons kR (.cons kR .nil))) .nil kR kR
 intro k hk
 refine sK fun K hK => ?_; refine sK fun K hK => wR 2 ?_; refine aX hTT 4 [] tI ?_; refine nK hK ?_; clear hK K
 refine w_cond (t := decide ((↑(k + 1) : Int) < (↑(List.length c) : Int))) kR (fun c2 => ?_) (fun c2 => ?_)
 ·
  simp at c2
  refine aw_skip ?_
  refine xt_n (hK _ ?_); clear hK K; refine sK fun K hK => ?_
  refine aw_block ?_
  refine wR 3 ?_; refine aX hTT 7 [(3, .c ((0 : Int) ≤ (↑(k + 1) : Int) ∧ (↑(k + 1) : Int) < (↑(List.length c) : Int)))] ⟨oM, tI⟩ ?_; refine aops_nil ?_; refine xb_n ?_; refine xt_n (hK _ ?_); clear hK K; refine wR 4 ?_; refine aX hTT 3 [(1, .i ((↑(k + 1) : Int) + 1))] ⟨oM, tI⟩ ?_; refine aops_nil ?_; refine xt_n ?_
  refine ⟨k + 1, by omega, by refine le_ren [] (.cons kR (.cons kR (.cons kR .nil))) .nil kR kR, by omega⟩
 simp at c2
 obtain rfl : k = c.length - 1 := by omega
 refine aw_exit ?_
 refine xt_x ?_; refine xt_x ?_
 refine xb_same ?_
 refine xt_n ?_; clear hK K; refine hK _ ?_; clear hK K; refine sK fun K hK => wR 3 ?_; refine aX hTT 2 [] tI ?_; refine nK hK ?_; clear hK K
 refine aw_ret ?_
 refine rP (V.i (mxP c (List.length c - 1)))
theorem half {a b : Int} (h0 : 0 ≤ a) (h : a < b) : a ≤ (a + b).tdiv 2 ∧ (a + b).tdiv 2 < b := by
 rw [Int.tdiv_eq_ediv_of_nonneg oM]
 omega
def runV (c : List Int) (slots : Int) : V := .tup [.i (if slots < c.length then 0 else fewN c slots), .b (decide ((c.length : Int) ≤ slots))]
set_option maxRecDepth 100000 in
theorem run_ac (c : List Int) (slots : Int) (h : CO c) (hl : c.length ≤ 4096) : AC Tryd.prog 53 [V.ints c, .i slots] (runV c slots) [] := by
 refine acI hTT hMX Tryd.func53 Tryd.ntmps53 fun C hC hF => ?_
 refine sK fun K hK => wR 2 ?_; refine aX hTT 2 [] tI ?_; refine nK hK ?_; clear hK K; refine sK fun K hK => ?_; refine sK fun K hK => wR 3 ?_; refine aX hTT 4 [] tI ?_; refine nK hK ?_; clear hK K
 refine w_cond (t := decide (slots < (↑(List.length c) : Int))) kR (fun c1 => ?_) (fun c1 => ?_)
 ·
  simp at c1
  refine sK fun K hK => wR 4 ?_; refine aX hTT 2 [] tI ?_; refine nK hK ?_; clear hK K
  refine aw_ret ?_
  refine xt_r ?_
  rw [runV, if_pos c1, decide_eq_false oM]
  refine rP (V.tup [V.i 0, V.b false])
 simp at c1
 refine aw_skip ?_
 refine xt_n (hK _ ?_); clear hK K; refine sK fun K hK => ?_; refine sK fun K hK => wR 4 ?_; refine aX hTT 3 [] tI ?_; refine nK hK ?_; clear hK K
 refine w_cond (t := decide ((↑(List.length c) : Int) = 0)) kR (fun c2 => ?_) (fun c2 => ?_)
 ·
  have h0 : c.length = 0 := by
   simp at c2
   exact List.length_eq_zero_iff.2 c2
  refine sK fun K hK => wR 5 ?_; refine aX hTT 2 [] tI ?_; refine nK hK ?_; clear hK K
  refine aw_ret ?_
  refine xt_r ?_
  rw [runV, if_neg oM, decide_eq_true c1, fewN_nil h0]
  refine rP (V.tup [V.i 0, V.b true])
 have h0 : c.length ≠ 0 := by
  simp at c2
  exact fun h => c2 (List.length_eq_zero_iff.1 h)
 have hm := mxP_bd h (k := c.length - 1) oM
 have htop := plcS_top (c := c) (s := mxP c (c.length - 1)) hm.1 (fun i hi => mxP_ge oM) c.length (Nat.le_refl _)
 refine aw_skip ?_
 refine xt_n (hK _ ?_); clear hK K; refine sK fun K hK => wR 5 ?_; refine aX hTT 1 [] tI ?_
 refine eC (Max_ac c oM hl) ?_
 refine aX hTT 2 [] tI ?_; refine nK hK ?_; clear hK K; refine sK fun K hK => ?_
 refine aw_block ?_
 refine w_loop (ι := Int × Int) (fun x => [(0, V.ints c), (1, .i slots), (6, .i x.1), (7, .i x.2)]) (fun _ => []) (fun x => (1 ≤ x.1 ∧ x.1 ≤ x.2 ∧ x.2 ≤ 1048576) ∧ plcS c x.2 c.length ≤ slots ∧ ∀ s, 1 ≤ s → s < x.1 → slots < plcS c s c.length) (fun x => (x.2 - x.1).toNat) (1, mxP c (c.length - 1)) ⟨⟨by omega, hm.1, hm.2⟩, by simp only; omega, fun s h1 h2 => by simp only at h2; omega⟩ ?_ ?_
 ·
  refine le_ren [] (.cons kR (.cons kR (.cons kR (.cons kR .nil)))) .nil kR kR
 rintro ⟨lo, hi⟩ ⟨⟨l1, l2, l3⟩, h1, h2⟩
 simp only at l1 l2 l3 h1 h2
 refine sK fun K hK => ?_; refine sK fun K hK => wR 2 ?_; refine aX hTT 3 [] tI ?_; refine nK hK ?_; clear hK K
 refine w_cond (t := decide (lo < hi)) kR (fun c3 => ?_) (fun c3 => ?_)
 ·
  simp at c3
  have hh := half oM c3
  refine aw_skip ?_
  refine xt_n (hK _ ?_); clear hK K
  refine aw_block ?_
  refine sK fun K hK => wR 3 ?_; refine aX hTT 5 [(2, .i (lo + hi)), (3, .c ((0 : Int) < (2 : Int) ∧ (-9223372036854775808 : Int) ≤ lo + hi ∧ lo + hi ≤ 9223372036854775807))] ⟨oM, ⟨oM, oM⟩, tI⟩ ?_; refine nK hK ?_; clear hK K; refine sK fun K hK => wR 4 ?_; refine aX hTT 2 [] tI ?_
  refine eC (places_ac c ((lo + hi).tdiv 2) h hl oM) ?_
  refine aX hTT 5 [] tI ?_; refine nK hK ?_; clear hK K; refine sK fun K hK => wR 5 ?_; refine aX hTT 3 [] tI ?_; refine nK hK ?_; clear hK K
  refine w_cond (t := decide (plcS c (Int.tdiv (lo + hi) (2 : Int)) (List.length c) ≤ slots)) kR (fun c4 => ?_) (fun c4 => ?_)
  ·
   simp at c4
   refine wR 6 ?_; refine aX hTT 2 [] tI ?_; refine aops_nil ?_; refine xb_n ?_; refine xt_n ?_
   refine ⟨(lo, (lo + hi).tdiv 2), ⟨⟨l1, hh.1, by simp only; omega⟩, c4, h2⟩, by refine le_ren [] (.cons kR (.cons kR (.cons kR (.cons kR .nil)))) .nil kR kR, by simp only; omega⟩
  ·
   simp at c4
   refine wR 6 ?_; refine aX hTT 3 [(1, .i (Int.tdiv (lo + hi) (2 : Int) + (1 : Int)))] ⟨oM, tI⟩ ?_; refine aops_nil ?_; refine xb_n ?_; refine xt_n ?_
   refine ⟨((lo + hi).tdiv 2 + 1, hi), ⟨⟨by simp only; omega, by simp only; omega, l3⟩, h1, fun s hs1 hs2 => ?_⟩, by refine le_ren [] (.cons kR (.cons kR (.cons kR (.cons kR .nil)))) .nil kR kR, by simp only; omega⟩
   simp only at hs2
   have := plcS_mono h hs1 (show s ≤ (lo + hi).tdiv 2 by omega) c.length (Nat.le_refl _)
   omega
 ·
  simp at c3
  obtain rfl : lo = hi := by omega
  refine aw_exit ?_
  refine xt_x ?_; refine xt_x ?_
  refine xb_same ?_
  refine xt_n ?_; clear hK K; refine hK _ ?_; clear hK K; refine sK fun K hK => wR 3 ?_; refine aX hTT 3 [] tI ?_; refine nK hK ?_; clear hK K
  refine aw_ret ?_
  rw [runV, if_neg oM, decide_eq_true c1, fewN_eq h c1 h0 ⟨l1, h1, h2⟩]
  refine rP (V.tup [V.i lo, V.b true])
theorem runS_1 {c : List Int} {slots : Int} (h : chkC c slots 0 ≠ 0) : runE c slots = chkC c slots 0 ∧ runS c slots = 0 ∧ runL c slots = [] := by
 have e : runE c slots = chkC c slots 0 := by rw [runE, if_pos h]
 exact ⟨e, by rw [runS, e, if_neg h], by rw [runL, e, if_neg h]⟩
theorem runS_2 {c : List Int} {slots : Int} (h : chkC c slots 0 = 0) (h2 : slots < c.length) : runE c slots = 14 ∧ runS c slots = 0 ∧ runL c slots = [] := by
 have e : runE c slots = 14 := by rw [runE, if_neg (fun k => k h), if_pos h2]
 exact ⟨e, by rw [runS, e, if_neg oM], by rw [runL, e, if_neg oM]⟩
theorem runS_3 {c : List Int} {slots : Int} (h : chkC c slots 0 = 0) (h2 : ¬ slots < c.length) : runE c slots = 0 ∧ runS c slots = fewN c slots ∧ runL c slots = c.map fun n => plc n (fewN c slots) := by
 have e : runE c slots = 0 := by rw [runE, if_neg (fun k => k h), if_neg h2]
 exact ⟨e, by rw [runS, e, if_pos rfl], by rw [runL, e, if_pos rfl]⟩
abbrev yySN80 (c : List Int) (slots : Int) : V := V.sl 1 (List.length (List.map (fun (n : Int) => plc n (fewN c slots)) c)) fun (k : Nat) => [V.i (gi (List.map (fun (n : Int) => plc n (fewN c slots)) c) k)]
set_option maxRecDepth 100000 in
theorem Run_ac (c : List Int) (slots : Int) (hl : c.length ≤ 4611686018427387904) : AC Tryd.prog 21 [V.ints c, .i slots] (.tup [.i (runS c slots), V.ints (runL c slots), .i (runE c slots)]) [] := by
 refine acI hTT hMX Tryd.func21 Tryd.ntmps21 fun C hC hF => ?_
 refine sK fun K hK => wR 2 ?_
 refine aops_n hTT (M := []) (n := 3) [pv 4 (V.i 0), pv 5 V.nil, pv 6 (V.i 0)] kR kR tI ?_
 refine nK hK ?_; clear hK K; refine sK fun K hK => ?_; refine sK fun K hK => wR 3 ?_
 refine aops_n hTT (M := []) (n := 2) [pv 12 (V.sl 1 (List.length c) fun (k : Nat) => [V.i (gi c k)]), pv 13 (V.i slots)] kR kR tI ?_
 refine eC (CheckCopies_ac c slots 0 hl) ?_
 refine aops_n hTT (M := []) (n := 1) [pv 7 (V.i (chkC c slots (0 : Int)))] kR kR tI ?_
 refine nK hK ?_; clear hK K; refine sK fun K hK => wR 4 ?_
 refine aops_n hTT (M := []) (n := 2) [pv 15 (V.i (chkC c slots (0 : Int))), pv 16 (V.b !decide (chkC c slots (0 : Int) = (0 : Int)))] kR kR tI ?_
 refine nK hK ?_; clear hK K
 refine w_cond (t := !decide (chkC c slots (0 : Int) = (0 : Int))) kR (fun c1 => ?_) (fun c1 => ?_)
 ·
  obtain ⟨e1, e2, e3⟩ := runS_1 (c := c) (slots := slots) (by simpa using c1)
  refine sK fun K hK => wR 5 ?_
  refine aops_n hTT (M := []) (n := 4) [pv 17 (V.i (chkC c slots (0 : Int))), pv 4 (V.i 0), pv 5 V.nil, pv 6 (V.i (chkC c slots (0 : Int)))] kR kR tI ?_
  refine nK hK ?_; clear hK K
  refine aw_ret ?_
  refine xt_r ?_
  rw [e1, e2, e3]
  refine ret_of_le (le_nil 5 (sz := 1) 0 (fun k => [.i (gi [] k)]) kR ?_) ?_
  ·
   rfl
  refine rP (V.tup [V.i 0, V.sl 1 0 fun (k : Nat) => [V.i (gi [] k)], V.i (chkC c slots (0 : Int))])
 have h1 : chkC c slots 0 = 0 := by simpa using c1
 obtain ⟨l8, hco, hs, _⟩ := chkC_inv h1
 have A := run_ac c slots hco oM
 refine aw_skip ?_
 refine xt_n (hK _ ?_); clear hK K; refine sK fun K hK => wR 5 ?_
 refine aops_n hTT (M := []) (n := 2) [pv 19 (V.sl 1 (List.length c) fun (k : Nat) => [V.i (gi c k)]), pv 20 (V.i slots)] kR kR tI ?_
 by_cases h2 : slots < c.length
 ·
  obtain ⟨e1, e2, e3⟩ := runS_2 h1 h2
  rw [runV, if_pos h2, decide_eq_false oM] at A
  refine eC (A) ?_
  refine aops_n hTT (M := []) (n := 5) [pv 18 (V.tup [V.i 0, V.b false]), pv 22 (V.i 0), pv 23 (V.b false), pv 8 (V.i 0), pv 9 (V.b false)] kR kR tI ?_
  refine nK hK ?_; clear hK K; refine sK fun K hK => ?_; refine sK fun K hK => wR 6 ?_
  refine aops_n hTT (M := []) (n := 2) [pv 24 (V.b false), pv 25 (V.b true)] kR kR tI ?_
  refine nK hK ?_; clear hK K; refine w_true (t := true) kR rfl ?_; refine sK fun K hK => wR 7 ?_
  refine aops_n hTT (M := []) (n := 3) [pv 4 (V.i 0), pv 5 V.nil, pv 6 (V.i 14)] kR kR tI ?_
  refine nK hK ?_; clear hK K
  refine aw_ret ?_
  refine xt_r ?_
  rw [e1, e2, e3]
  refine ret_of_le (le_nil 5 (sz := 1) 0 (fun k => [.i (gi [] k)]) kR ?_) ?_
  ·
   rfl
  refine rP (V.tup [V.i 0, V.sl 1 0 fun (k : Nat) => [V.i (gi [] k)], V.i 14])
 obtain ⟨e1, e2, e3⟩ := runS_3 h1 h2
 rw [runV, if_neg h2, decide_eq_true oM] at A
 refine eC (A) ?_
 refine aops_n hTT (M := []) (n := 5) [pv 18 (V.tup [V.i (fewN c slots), V.b true]), pv 22 (V.i (fewN c slots)), pv 23 (V.b true), pv 8 (V.i (fewN c slots)), pv 9 (V.b true)] kR kR tI ?_
 refine nK hK ?_; clear hK K; refine sK fun K hK => ?_; refine sK fun K hK => wR 6 ?_
 refine aops_n hTT (M := []) (n := 2) [pv 24 (V.b true), pv 25 (V.b false)] kR kR tI ?_
 refine nK hK ?_; clear hK K; refine w_false (t := false) kR rfl ?_
 refine aw_skip ?_
 refine xt_n (hK _ ?_); clear hK K; refine sK fun K hK => ?_; refine sK fun K hK => wR 7 ?_
 refine aops_n hTT (M := []) (n := 2) [pv 26 (V.i (fewN c slots)), pv 27 (V.b (decide (fewN c slots = 0)))] kR kR tI ?_
 refine nK hK ?_; clear hK K
 refine w_cond (t := decide (fewN c slots = 0)) kR (fun c3 => ?_) (fun c3 => ?_)
 ·
  have h0 : c.length = 0 := by
   simp at c3
   by_cases h0 : c.length = 0
   ·
    exact h0
   ·
    have := (fewN_spec (slots := slots) hco oM h0).1.pos; omega
  have hn : c = [] := List.length_eq_zero_iff.1 h0
  refine sK fun K hK => wR 8 ?_
  refine aops_n hTT (M := []) (n := 3) [pv 4 (V.i 0), pv 5 V.nil, pv 6 (V.i 0)] kR kR tI ?_
  refine nK hK ?_; clear hK K
  refine aw_ret ?_
  refine xt_r ?_
  rw [e1, e2, e3, fewN_nil h0, hn]
  refine ret_of_le (le_nil 5 (sz := 1) 0 (fun k => [.i (gi [] k)]) kR ?_) ?_
  ·
   rfl
  refine rP (V.tup [V.i 0, V.sl 1 0 fun (k : Nat) => [V.i (gi [] k)], V.i 0])
 have h0 : c.length ≠ 0 := fun h => by simp at c3; exact absurd (fewN_nil h) c3
 have hr := fewN_spec (slots := slots) hco oM h0
 refine aw_skip ?_
 refine xt_n (hK _ ?_); clear hK K; refine sK fun K hK => wR 8 ?_
 refine aops_n hTT (M := []) (n := 2) [pv 29 (V.sl 1 (List.length c) fun (k : Nat) => [V.i (gi c k)]), pv 30 (V.i (fewN c slots))] kR kR tI ?_
 refine eC (places_ac c (fewN c slots) hco oM ⟨hr.1.pos, hr.2⟩) ?_
 refine aops_n hTT (M := []) (n := 5) [pv 28 (V.tup [(yySN80 c slots), V.i (plcS c (fewN c slots) (List.length c))]), pv 32 ((yySN80 c slots)), pv 33 (V.i (plcS c (fewN c slots) (List.length c))), pv 10 ((yySN80 c slots)), pv 11 (V.i (plcS c (fewN c slots) (List.length c)))] kR kR tI ?_
 refine nK hK ?_; clear hK K; refine sK fun K hK => wR 9 ?_
 refine aops_n hTT (M := []) (n := 5) [pv 34 (V.i (fewN c slots)), pv 35 ((yySN80 c slots)), pv 4 (V.i (fewN c slots)), pv 5 ((yySN80 c slots)), pv 6 (V.i 0)] kR kR tI ?_
 refine nK hK ?_; clear hK K
 refine aw_ret ?_
 rw [e1, e2, e3]
 refine rP (V.tup [V.i (fewN c slots), (yySN80 c slots), V.i 0])
end Go.Proofs.YtfckkkmacjjmhaaDoor
