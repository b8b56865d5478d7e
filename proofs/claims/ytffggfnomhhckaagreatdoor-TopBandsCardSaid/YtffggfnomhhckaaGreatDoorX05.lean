/-
  Several texts in one: The points of samples: the walks of both copies. Conditions: told in each theorem. .. Formats, tracks and their bands: walks of the program and of the document's copy. Conditions: told in each theorem.
-/
import Derived.Test.YtffggfnomhhckaaGreatDoorAbs42
import Derived.Test.YtffggfnomhhckaaGreatDoorX04
import Derived.Test.YtffggfnomhhckaaGreatDoorX00
import Derived.Test.YtffggfnomhhckaaGreatDoorX01
namespace Go.Proofs.YtffggfnomhhckaaGreatDoor
open Go.Ab Go.RowKit Go.Dw Go.Shelf
end Go.Proofs.YtffggfnomhhckaaGreatDoor

namespace Go.Proofs.YtffggfnomhhckaaGreatDoor
open Go.Ab Go.RowKit Go.Dw Go.Shelf
theorem nmB_len {s : List UInt8} (h : s.length < 1 ∨ 20 < s.length) : nmB s = false := by
 unfold nmB
 by_cases h1 : 1 ≤ s.length <;> by_cases h2 : s.length ≤ 20 <;> simp [h1, h2]
 omega
theorem nmB_bad {s : List UInt8} {k : Nat} (hk : k < s.length) (h : chB (gby s k) = false) : nmB s = false := by
 unfold nmB
 have : ((List.range s.length).all fun k => chB (gby s k)) = false := by
  rw [List.all_eq_false]
  exact ⟨k, List.mem_range.2 hk, by rw [h]; decide⟩
 rw [this, Bool.and_false]
theorem nmB_ok {s : List UInt8} (h1 : 1 ≤ s.length) (h2 : s.length ≤ 20) (h : ∀ k, k < s.length → chB (gby s k) = true) : nmB s = true := by
 unfold nmB
 simp only [Bool.and_eq_true, decide_eq_true_eq, List.all_eq_true, List.mem_range]
 exact ⟨⟨h1, h2⟩, h⟩
theorem nmB_inv {s : List UInt8} (h : nmB s = true) : 1 ≤ s.length ∧ s.length ≤ 20 ∧ ∀ k, k < s.length → chB (gby s k) = true := by
 unfold nmB at h
 simp only [Bool.and_eq_true, decide_eq_true_eq, List.all_eq_true, List.mem_range] at h
 exact ⟨h.1.1, h.1.2, h.2⟩
end Go.Proofs.YtffggfnomhhckaaGreatDoor

namespace Go.Proofs.YtffggfnomhhckaaGreatDoor
open Go.Ab Go.RowKit Go.Dw Go.Shelf
set_option maxRecDepth 100000 in
theorem outside_no (x lo hi : Int) (h : betB x lo hi = true) : AC Tryz.prog 54 [.i x, .i lo, .i hi] (.b false) [] := by
 simp only [betB, Bool.and_eq_true, decide_eq_true_eq] at h
 refine acI hTT hMX Tryz.func54 Tryz.ntmps54 fun C hC hF => ?_
 refine sX hTT 2 1 [] tI ?_; refine sX hTT 3 9 [(4, .c (gA (decide (x < lo) == false) True)), (5, .c (gA (decide (x < lo) == false) True)), (6, .c (gC (decide (x < lo) == false) True)), (7, .c (True ∧ (decide (x < lo) = false → (decide (x < lo) == false) = true)))] ⟨⟨⟨tI, tI⟩, (fun _ => tI)⟩, ⟨⟨tI, tI⟩, (fun _ => tI)⟩, ⟨⟨(by (exact fun h => h)), ⟨(by (exact fun h => h)), tI⟩⟩, (fun _ => tI)⟩, ⟨tI, (by (intro h; rw [h]; rfl))⟩, tI⟩ ?_
 refine aw_ret ?_
 rw [show (V.b false) = V.b (decide (x < lo) || decide (hi < x)) by simp; omega]
 refine rP (V.b (decide (x < lo) || decide (hi < x)))
set_option maxRecDepth 100000 in
theorem isName4_ac (s : List UInt8) (h : nmB s = true) : AC Tryz.prog 53 [nmV s] (.b true) [] := by
 obtain ⟨h1, h2, h3⟩ := nmB_inv h
 have hsz := bytes_size s
 have e2 : decide (s = []) = false := decide_eq_false fun h => by rw [h] at h1; simp at h1
 have e : ((ByteArray.mk s.toArray).toList == (ByteArray.mk #[]).toList) = false := (bytes_beq s []).trans e2
 refine acI hTT hMX Tryz.func53 Tryz.ntmps53 fun C hC hF => ?_
 refine sX hTT 2 1 [] tI (sK fun K hK => sK fun K hK => wR 3 ?_)
 refine aops_n hTT (M := []) (n := 4) [pv 5 (V.c (Value.string (ByteArray.mk (List.toArray s)))), pv 6 (V.sl 1 (ByteArray.size (ByteArray.mk (List.toArray s))) fun (i : Nat) => [V.c (Value.int IntKind.u8 (strB (ByteArray.mk (List.toArray s)) i))]), pv 7 (V.i (↑(ByteArray.size (ByteArray.mk (List.toArray s))) : Int)), pv 8 (V.i 0)] kR kR tI ?_
 refine nK hK ?_; clear hK K
 refine aw_block ?_
 refine w_loop (ι := Nat) (fun k => [(0, nmV s), (6, .sl 1 s.length fun i => [.c (.int .u8 (strB (ByteArray.mk s.toArray) i))]), (7, .i s.length), (8, .i k)]) (fun _ => []) (fun k => k ≤ s.length) (fun k => s.length - k) 0 (Nat.zero_le _) ?_ ?_
 ·
  rw [hsz]
  refine le_ren [] (.cons kR (.cons kR (.cons kR (.cons kR .nil)))) .nil kR kR
 intro k hk
 refine sX hTT 2 1 [] tI (sK fun K hK => ?_)
 refine w_cond (t := decide ((↑k : Int) < (↑(List.length s) : Int))) kR (fun c2 => ?_) (fun c2 => ?_)
 ·
  have hk1 : k < s.length := by simpa using c2
  have e4 := strB_gby s hk1
  have e5 := h3 k hk1
  refine aw_skip ?_
  refine xt_n (hK _ ?_); clear hK K; refine sK fun K hK => ?_
  refine aw_block ?_
  refine sX hTT 3 3 [(0, .c ((0 : Int) ≤ (↑k : Int) ∧ (↑k : Int) < (↑(List.length s) : Int)))] ⟨oM, tI⟩ ?_; refine sX hTT 4 14 [(3, .c (gA (decide (strB (ByteArray.mk (List.toArray s)) k < 97) == false) True)), (4, .c (gD (decide (strB (ByteArray.mk (List.toArray s)) k < 97) == false) True)), (5, .c (True ∧ (decide (strB (ByteArray.mk (List.toArray s)) k < 97) = false → (decide (strB (ByteArray.mk (List.toArray s)) k < 97) == false) = true))), (7, .c (gA ((decide (strB (ByteArray.mk (List.toArray s)) k < 97) || decide ((122 : Int) < strB (ByteArray.mk (List.toArray s)) k)) == true) True)), (8, .c (gD ((decide (strB (ByteArray.mk (List.toArray s)) k < 97) || decide ((122 : Int) < strB (ByteArray.mk (List.toArray s)) k)) == true) True)), (9, .c (gB ((decide (strB (ByteArray.mk (List.toArray s)) k < 97) || decide ((122 : Int) < strB (ByteArray.mk (List.toArray s)) k)) == true) True)), (10, .c (gA ((decide (strB (ByteArray.mk (List.toArray s)) k < 97) || decide ((122 : Int) < strB (ByteArray.mk (List.toArray s)) k)) == true && decide (strB (ByteArray.mk (List.toArray s)) k < 48) == false) True)), (11, .c (gD ((decide (strB (ByteArray.mk (List.toArray s)) k < 97) || decide ((122 : Int) < strB (ByteArray.mk (List.toArray s)) k)) == true && decide (strB (ByteArray.mk (List.toArray s)) k < 48) == false) True)), (12, .c ((((decide (strB (ByteArray.mk (List.toArray s)) k < 97) || decide ((122 : Int) < strB (ByteArray.mk (List.toArray s)) k)) == true) = true → ((decide (strB (ByteArray.mk (List.toArray s)) k < 97) || decide ((122 : Int) < strB (ByteArray.mk (List.toArray s)) k)) == true) = true) ∧ (((decide (strB (ByteArray.mk (List.toArray s)) k < 97) || decide ((122 : Int) < strB (ByteArray.mk (List.toArray s)) k)) == true) = true → True) ∧ (((decide (strB (ByteArray.mk (List.toArray s)) k < 97) || decide ((122 : Int) < strB (ByteArray.mk (List.toArray s)) k)) == true) = true → decide (strB (ByteArray.mk (List.toArray s)) k < 48) = false → ((decide (strB (ByteArray.mk (List.toArray s)) k < 97) || decide ((122 : Int) < strB (ByteArray.mk (List.toArray s)) k)) == true && decide (strB (ByteArray.mk (List.toArray s)) k < 48) == false) = true))), (13, .c (((decide (strB (ByteArray.mk (List.toArray s)) k < 97) || decide ((122 : Int) < strB (ByteArray.mk (List.toArray s)) k)) = true → ((decide (strB (ByteArray.mk (List.toArray s)) k < 97) || decide ((122 : Int) < strB (ByteArray.mk (List.toArray s)) k)) == true) = true) ∧ True))] ⟨⟨⟨tI, tI⟩, (fun _ => tI)⟩, ⟨⟨(by (exact fun h => h)), ⟨tI, tI⟩⟩, (fun _ => tI)⟩, ⟨tI, (by (intro h; rw [h]; rfl))⟩, ⟨⟨tI, tI⟩, (fun _ => tI)⟩, ⟨⟨(by (exact fun h => h)), ⟨tI, tI⟩⟩, (fun _ => tI)⟩, ⟨⟨(by (exact fun h => h)), tI⟩, (fun _ => tI)⟩, ⟨⟨tI, tI⟩, (fun _ => tI)⟩, ⟨⟨(by (exact fun h => h)), ⟨tI, tI⟩⟩, (fun _ => tI)⟩, ⟨(by (exact fun h => h)), ⟨(fun _ => tI), (by (simp; omega))⟩⟩, ⟨(by (intro h; rw [h]; rfl)), tI⟩, tI⟩ ?_
  refine w_cond (t := (decide (strB (ByteArray.mk (List.toArray s)) k < 97) || decide ((122 : Int) < strB (ByteArray.mk (List.toArray s)) k)) && (decide (strB (ByteArray.mk (List.toArray s)) k < 48) || decide ((57 : Int) < strB (ByteArray.mk (List.toArray s)) k))) kR (fun c3 => ?_) (fun c3 => ?_)
  ·
   rw [e4] at c3
   exfalso
   revert c3 e5
   unfold chB
   simp
   omega
  ·
   refine aw_skip ?_
   refine xb_n (xt_n (hK _ ?_)); clear hK K; refine wR 5 (aX hTT 2 [(0, .i ((↑k : Int) + 1))] ⟨oM, tI⟩ (aops_nil (xt_n ?_)))
   refine ⟨k + 1, by omega, ?_, by omega⟩
   refine le_ren [] (.cons kR (.cons kR (.cons kR (.cons kR .nil)))) .nil kR kR
 ·
  refine aw_exit ?_
  refine xt_x ?_; refine xt_x ?_
  refine xb_same ?_
  refine xt_n ?_; clear hK K; refine hK _ ?_; clear hK K; refine sK fun K hK => wR 3 ?_
  refine aops_n hTT (M := []) (n := 8) [pv 27 (V.c (Value.string (ByteArray.mk (List.toArray s)))), pv 28 (V.b !ByteArray.toList (ByteArray.mk (List.toArray s)) == ByteArray.toList (ByteArray.mk #[])), pv 29 (V.b !ByteArray.toList (ByteArray.mk (List.toArray s)) == ByteArray.toList (ByteArray.mk #[])), pc 30 ((True ∧ True) ∧ (((!ByteArray.toList (ByteArray.mk (List.toArray s)) == ByteArray.toList (ByteArray.mk #[])) == true) = true → True)) (V.gd ((!ByteArray.toList (ByteArray.mk (List.toArray s)) == ByteArray.toList (ByteArray.mk #[])) == true) (V.c (Value.string (ByteArray.mk (List.toArray s))))), pc 31 (((((!ByteArray.toList (ByteArray.mk (List.toArray s)) == ByteArray.toList (ByteArray.mk #[])) == true) = true → ((!ByteArray.toList (ByteArray.mk (List.toArray s)) == ByteArray.toList (ByteArray.mk #[])) == true) = true) ∧ True) ∧ (((!ByteArray.toList (ByteArray.mk (List.toArray s)) == ByteArray.toList (ByteArray.mk #[])) == true) = true → True)) (V.gd ((!ByteArray.toList (ByteArray.mk (List.toArray s)) == ByteArray.toList (ByteArray.mk #[])) == true) (V.i (↑(ByteArray.size (ByteArray.mk (List.toArray s))) : Int))), pc 32 (((((!ByteArray.toList (ByteArray.mk (List.toArray s)) == ByteArray.toList (ByteArray.mk #[])) == true) = true → ((!ByteArray.toList (ByteArray.mk (List.toArray s)) == ByteArray.toList (ByteArray.mk #[])) == true) = true) ∧ True ∧ True) ∧ (((!ByteArray.toList (ByteArray.mk (List.toArray s)) == ByteArray.toList (ByteArray.mk #[])) == true) = true → True)) (V.gd ((!ByteArray.toList (ByteArray.mk (List.toArray s)) == ByteArray.toList (ByteArray.mk #[])) == true) (V.b (decide ((↑(ByteArray.size (ByteArray.mk (List.toArray s))) : Int) ≤ 20)))), pc 33 (((!ByteArray.toList (ByteArray.mk (List.toArray s)) == ByteArray.toList (ByteArray.mk #[])) = true → ((!ByteArray.toList (ByteArray.mk (List.toArray s)) == ByteArray.toList (ByteArray.mk #[])) == true) = true) ∧ True) (V.b (!ByteArray.toList (ByteArray.mk (List.toArray s)) == ByteArray.toList (ByteArray.mk #[]) && decide ((↑(ByteArray.size (ByteArray.mk (List.toArray s))) : Int) ≤ 20))), pv 2 (V.b (!ByteArray.toList (ByteArray.mk (List.toArray s)) == ByteArray.toList (ByteArray.mk #[]) && decide ((↑(ByteArray.size (ByteArray.mk (List.toArray s))) : Int) ≤ 20)))] kR kR ⟨⟨⟨tI, tI⟩, (fun _ => tI)⟩, ⟨⟨(by (exact fun h => h)), tI⟩, (fun _ => tI)⟩, ⟨⟨(by (exact fun h => h)), ⟨tI, tI⟩⟩, (fun _ => tI)⟩, ⟨(by (intro h; rw [h]; rfl)), tI⟩, tI⟩ ?_
  refine nK hK ?_; clear hK K
  refine aw_ret ?_
  rw [hsz, e]
  refine ret_pure (v' := V.b (decide ((↑(List.length s) : Int) ≤ 20))) (.inr rfl) kR ?_ kR
  simp; omega
set_option maxRecDepth 100000 in
theorem width4_ac (f : Fm) (l : List Tr) (t : Tr) (hf : f.ok) (ht : trB t = true) : AC Tryz.prog 25 [.ptr (plC4 f l), .agg t.c] (.i (widI f t)) [] := by
 obtain ⟨h1, h2, h3⟩ := trB_ok ht
 obtain ⟨p1, p2⟩ := hf.per
 obtain ⟨w1, w2, w3⟩ := widI_bd hf ht
 unfold widI at w3
 refine acI hTT hMX Tryz.func25 Tryz.ntmps25 fun C hC hF => ?_
 refine sX hTT 2 2 [] tI (sK fun K hK => wD 3 (aX hTT 19 [(9, .i (Prod.fst t + Fm.per f)), (10, .i (Prod.fst t + Fm.per f - 1)), (16, .c ((0 : Int) < Fm.per f ∧ (-9223372036854775808 : Int) ≤ Prod.fst t + Fm.per f - 1 ∧ Prod.fst t + Fm.per f - 1 ≤ (9223372036854775807 : Int))), (17, .i (Prod.fst (Prod.snd t) * Int.tdiv (Prod.fst t + Fm.per f - 1) (Fm.per f)))] ⟨oM, oM, ⟨oM, oM⟩, oM, tI⟩ (aops_nil ⟨kR, (xt_n (hK _ ?_))⟩))); clear hK K
 refine aw_ret ?_
 refine rP (V.i (Prod.fst (Prod.snd t) * Int.tdiv (Prod.fst t + Fm.per f - 1) (Fm.per f)))
def spanL (i j : Nat) : List Int := (List.range (j - i)).map fun m => ((i + m : Nat) : Int)
theorem spanL_len (i j : Nat) : (spanL i j).length = j - i := by simp [spanL]
theorem spanL_at {i j m : Nat} (h : m < j - i) : gi (spanL i j) m = ((i + m : Nat) : Int) := by simp [gi, spanL, h]
set_option maxRecDepth 100000 in
theorem span_ac (i j : Nat) (hij : i ≤ j) (hj : j ≤ 1000000) : AC Tryz.prog 57 [.i i, .i j] (V.ints (spanL i j)) [] := by
 refine acI hTT hMX Tryz.func57 Tryz.ntmps57 fun C hC hF => ?_
 refine sX hTT 2 1 [] tI (sX hTT 3 1 [] tI (sK fun K hK => ?_))
 refine aw_block ?_
 refine w_le (le_open 5 3 1 (fun m => [.i ((i + m : Nat) : Int)]) kR rfl) ?_
 refine w_loop (ι := Nat) (fun k => [(0, .i ((i + k : Nat) : Int)), (1, .i j), (5, .own 1)]) (fun k => [(1, .row 3 1 k fun m => [.i ((i + m : Nat) : Int)])]) (fun k => i + k ≤ j) (fun k => j - i - k) 0 oM ?_ ?_
 ·
  refine le_ren (sl := [(1, Ob.row 3 1 0 fun (m : Nat) => [V.i (↑(i + m) : Int)])]) [(1, 300005)] (.cons kR (.cons kR (.cons kR .nil))) (.cons ⟨Ob.row 3 1 0 fun (m : Nat) => [V.i (↑(i + m) : Int)], kR, .row kR (fun _ _ => rfl)⟩ .nil) kR kR
 intro k hk
 have ek : ((i + k : Nat) : Int) = (i : Int) + (k : Int) := by omega
 refine sK fun K hK => sX hTT 2 3 [] tI ?_
 refine w_cond (t := decide ((↑(i + k) : Int) < (↑j : Int))) kR (fun c1 => ?_) (fun c1 => ?_)
 ·
  have hk1 : i + k < j := by simp at c1; omega
  refine aw_skip ?_
  refine xt_n (hK _ ?_); clear hK K; refine sK fun K hK => ?_
  refine aw_block ?_
  refine wR 3 (aX hTT 5 [(3, .r (PR.mk (some (14 : Nat)) (some (k + 1 ≤ (1099511627776 : Nat))) (V.own 200014) [((1 : Nat), none), ((200014 : Nat), some (Ob.row 3 1 (k + 1) (appRow k (fun (m : Nat) => [V.i (↑(i + m) : Int)]) fun (i_1 : Nat) => List.take (1 : Nat) (List.drop (i_1 * 1) [V.i (↑(i + k) : Int)]))))] false))] ⟨oM, tI⟩ (aops_nil (xb_n (xt_n (hK _ ?_))))); clear hK K; refine wR 4 (aX hTT 3 [(1, .i ((↑(i + k) : Int) + 1))] ⟨oM, tI⟩ (aops_nil (xt_n ?_)))
  refine ⟨k + 1, by omega, ?_, by omega⟩
  refine le_ren (tl := [(0, V.i (↑(i + (k + 1)) : Int)), (1, V.i (↑j : Int)), (5, V.own 1)]) (sl := [(1, Ob.row 3 1 (k + 1) fun (m : Nat) => [V.i (↑(i + m) : Int)])]) [(1, 200014)] (.cons kR (.cons kR (.cons kR .nil))) (.cons ⟨Ob.row 3 1 (k + 1) (appRow k (fun (m : Nat) => [V.i (↑(i + m) : Int)]) fun (i_1 : Nat) => List.take (1 : Nat) (List.drop (i_1 * 1) [V.i (↑(i + k) : Int)])), kR, .row kR ?_⟩ .nil) kR kR
  exact appRow_i rfl rfl
 ·
  have hk1 : i + k = j := by simp at c1; omega
  refine w_le (le_shut 5 1 (e := (3 : Nat)) (sz := (1 : Nat)) (n := k) (n' := (spanL i j).length) (row := fun (m : Nat) => [V.i (↑(i + m) : Int)]) (row' := (fun k => [.i (gi (spanL i j) k)])) kR kR (fun _ _ => rfl) ?_ ?_) ?_
  ·
   rw [spanL_len]; omega
  ·
   intro m hm
   rw [spanL_at oM]
  refine aw_exit ?_
  refine xt_x ?_; refine xt_x ?_
  refine xb_same ?_
  refine xt_n ?_; clear hK K; refine hK _ ?_; clear hK K; refine sX hTT 3 2 [] tI ?_
  refine aw_ret ?_
  refine rP (V.sl 1 (List.length (spanL i j)) fun (k : Nat) => [V.i (gi (spanL i j) k)])
set_option maxRecDepth 100000 in
theorem checkFormat4_ac (f : Fm) (h : fmB f = true) : AC Tryz.prog 30 [.agg f.c] (.i 0) [] := by
 have hf := fmB_ok h
 have hn := hf.nm
 have := hf.ou; have := hf.inn; have := hf.per; have := hf.lead; have := hf.gap; have := hf.tail; have := hf.cost
 refine acI hTT hMX Tryz.func30 Tryz.ntmps30 fun C hC hF => ?_
 refine sX hTT 2 2 [] tI (sK fun K hK => wR 3 (aX hTT 2 [] tI ?_))
 refine eC (isName4_ac f.1 hn) ?_
 refine aX hTT 4 [(2, .c (gA (false == false) True)), (3, .c (gB (false == false) True))] ⟨⟨⟨tI, tI⟩, (fun _ => tI)⟩, ⟨⟨(by (exact fun h => h)), tI⟩, (fun _ => tI)⟩, tI⟩ ?_
 refine eG 1 (g := false == false) (fun h => outside_no f.ou 1 4194304 (by simp [betB]; omega)) ?_
 refine aX hTT 7 [(0, .c (True ∧ (false = false → (false == false) = true))), (2, .c (gA (false == false) True)), (3, .c (gB (false == false) True)), (4, .c (gA (false == false) True)), (5, .c (gB (false == false) True)), (6, .c (gD (false == false) ((-9223372036854775808 : Int) ≤ Fm.ou f - 1 ∧ Fm.ou f - 1 ≤ (9223372036854775807 : Int))))] ⟨⟨tI, (by (intro h; rw [h]; rfl))⟩, ⟨⟨tI, tI⟩, (fun _ => tI)⟩, ⟨⟨(by (exact fun h => h)), tI⟩, (fun _ => tI)⟩, ⟨⟨tI, tI⟩, (fun _ => tI)⟩, ⟨⟨(by (exact fun h => h)), tI⟩, (fun _ => tI)⟩, ⟨⟨(by (exact fun h => h)), ⟨tI, tI⟩⟩, (by (intro hg; simp at hg; omega))⟩, tI⟩ ?_
 refine eG 2 (g := false == false) (fun h => outside_no f.inn 0 (f.ou - 1) (by simp [betB]; omega)) ?_
 refine aX hTT 4 [(0, .c (True ∧ (false = false → (false == false) = true))), (2, .c (gA (false == false) True)), (3, .c (gB (false == false) True))] ⟨⟨tI, (by (intro h; rw [h]; rfl))⟩, ⟨⟨tI, tI⟩, (fun _ => tI)⟩, ⟨⟨(by (exact fun h => h)), tI⟩, (fun _ => tI)⟩, tI⟩ ?_
 refine eG 1 (g := false == false) (fun h => outside_no f.per 1 65536 (by simp [betB]; omega)) ?_
 refine aX hTT 4 [(0, .c (True ∧ (false = false → (false == false) = true))), (2, .c (gA (false == false) True)), (3, .c (gB (false == false) True))] ⟨⟨tI, (by (intro h; rw [h]; rfl))⟩, ⟨⟨tI, tI⟩, (fun _ => tI)⟩, ⟨⟨(by (exact fun h => h)), tI⟩, (fun _ => tI)⟩, tI⟩ ?_
 refine eG 1 (g := false == false) (fun h => outside_no f.cost 0 1048576 (by simp [betB]; omega)) ?_
 refine aX hTT 2 [(0, .c (True ∧ (false = false → (false == false) = true)))] ⟨⟨tI, (by (intro h; rw [h]; rfl))⟩, tI⟩ ?_; refine nK hK ?_; clear hK K; refine sK fun K hK => sX hTT 4 8 [] tI ?_
 refine aw_block ?_
 refine aw_rounds 4 ?_
 refine awr_succ (m := 3) fun K hK => ?_
 refine sX hTT 5 1 [] tI (sK fun K hK => w_true (t := true) kR rfl ?_)
 refine aw_skip ?_
 refine xt_n (hK _ ?_); clear hK K; refine sK fun K hK => ?_
 refine aw_block ?_
 refine sX hTT 6 2 [(0, .c ((0 : Int) ≤ (0 : Int) ∧ (0 : Int) < (↑(3 : Nat) : Int)))] ⟨oM, tI⟩ (wR 7 (aX hTT 3 [(2, .c (gA (false == false) True))] ⟨⟨⟨tI, tI⟩, (fun _ => tI)⟩, tI⟩ ?_))
 refine eG 1 (g := false == false) (fun h => outside_no f.lead 0 4194304 (by simp [betB]; omega)) ?_
 refine aX hTT 2 [(0, .c (True ∧ (false = false → (false == false) = true)))] ⟨⟨tI, (by (intro h; rw [h]; rfl))⟩, tI⟩ ?_; refine aops_nil (xb_n (xt_n (hK _ ?_))); clear hK K; refine wR 8 (aX hTT 2 [(0, .i ((0 : Int) + (1 : Int)))] ⟨oM, tI⟩ (nK hK ?_)); clear hK K
 refine awr_succ (m := 2) fun K hK => ?_
 refine sX hTT 9 1 [] tI (sK fun K hK => w_true (t := true) kR rfl ?_)
 refine aw_skip ?_
 refine xt_n (hK _ ?_); clear hK K; refine sK fun K hK => ?_
 refine aw_block ?_
 refine sX hTT 10 2 [(0, .c ((0 : Int) ≤ (1 : Int) ∧ (1 : Int) < (↑(3 : Nat) : Int)))] ⟨oM, tI⟩ (wR 11 (aX hTT 3 [(2, .c (gA (false == false) True))] ⟨⟨⟨tI, tI⟩, (fun _ => tI)⟩, tI⟩ ?_))
 refine eG 1 (g := false == false) (fun h => outside_no f.gap 0 4194304 (by simp [betB]; omega)) ?_
 refine aX hTT 2 [(0, .c (True ∧ (false = false → (false == false) = true)))] ⟨⟨tI, (by (intro h; rw [h]; rfl))⟩, tI⟩ ?_; refine aops_nil (xb_n (xt_n (hK _ ?_))); clear hK K; refine wR 12 (aX hTT 2 [(0, .i ((1 : Int) + (1 : Int)))] ⟨oM, tI⟩ (nK hK ?_)); clear hK K
 refine awr_succ (m := 1) fun K hK => ?_
 refine sX hTT 13 1 [] tI (sK fun K hK => w_true (t := true) kR rfl ?_)
 refine aw_skip ?_
 refine xt_n (hK _ ?_); clear hK K; refine sK fun K hK => ?_
 refine aw_block ?_
 refine sX hTT 14 2 [(0, .c ((0 : Int) ≤ (2 : Int) ∧ (2 : Int) < (↑(3 : Nat) : Int)))] ⟨oM, tI⟩ (wR 15 (aX hTT 3 [(2, .c (gA (false == false) True))] ⟨⟨⟨tI, tI⟩, (fun _ => tI)⟩, tI⟩ ?_))
 refine eG 1 (g := false == false) (fun h => outside_no f.tail 0 4194304 (by simp [betB]; omega)) ?_
 refine aX hTT 2 [(0, .c (True ∧ (false = false → (false == false) = true)))] ⟨⟨tI, (by (intro h; rw [h]; rfl))⟩, tI⟩ ?_; refine aops_nil (xb_n (xt_n (hK _ ?_))); clear hK K; refine wR 16 (aX hTT 2 [(0, .i ((2 : Int) + (1 : Int)))] ⟨oM, tI⟩ (nK hK ?_)); clear hK K
 refine awr_succ (m := 0) fun K hK => ?_
 refine sX hTT 17 1 [] tI (sK fun K hK => w_false (t := false) kR rfl ?_)
 refine aw_exit ?_
 refine xt_x ?_; refine xt_x ?_
 refine xb_same ?_
 refine xt_n ?_; clear hK K; clear hK K; refine hK _ ?_; clear hK K; refine sK fun K hK => sX hTT 18 1 [] tI (w_false (t := false) kR rfl ?_)
 refine aw_skip ?_
 refine xt_n (hK _ ?_); clear hK K; refine sX hTT 19 1 [] tI ?_
 refine aw_ret ?_
 refine rP (V.i 0)
set_option maxRecDepth 100000 in
theorem checkTracks4_ac (l : List Tr) (hl : l.length ≤ 24) (h : ∀ k, k < l.length → trB (gtr l k) = true) : AC Tryz.prog 31 [V.trs l] (.i 0) [] := by
 refine acI hTT hMX Tryz.func31 Tryz.ntmps31 fun C hC hF => ?_
 refine sX hTT 2 1 [] tI (sK fun K hK => sX hTT 3 3 [] tI ?_)
 refine w_cond (t := decide ((24 : Int) < (↑(List.length l) : Int))) kR (fun c0 => ?_) (fun c0 => ?_)
 ·
  simp at c0; omega
 refine aw_skip ?_
 refine xt_n (hK _ ?_); clear hK K; refine sK fun K hK => sX hTT 4 3 [] tI ?_
 refine aw_block ?_
 refine w_loop (ι := Nat) (fun k => [(8, V.trs l), (9, .i l.length), (10, .i k)]) (fun _ => []) (fun k => k ≤ l.length) (fun k => l.length - k) 0 (Nat.zero_le _) ?_ ?_
 ·
  refine le_ren [] (.cons kR (.cons kR (.cons kR .nil))) .nil kR kR
 intro k hk
 refine sX hTT 2 1 [] tI (sK fun K hK => ?_)
 refine w_cond (t := decide ((↑k : Int) < (↑(List.length l) : Int))) kR (fun c2 => ?_) (fun c2 => ?_)
 ·
  have hk1 : k < l.length := by simpa using c2
  obtain ⟨q1, q2, q3⟩ := trB_ok (h k hk1)
  refine aw_skip ?_
  refine xt_n (hK _ ?_); clear hK K; refine sK fun K hK => ?_
  refine aw_block ?_
  refine sX hTT 3 4 [(0, .c ((0 : Int) ≤ (↑k : Int) ∧ (↑k : Int) < (↑(List.length l) : Int))), (2, .r (pn 4 (V.ref 200004 0) (200004 : Nat) (Ob.box 29 [V.i 0, V.i 0, V.i 0]))), (3, .r (pw ((0 : Nat) + (3 : Nat) ≤ (3 : Nat)) (200004 : Nat) (Ob.box 29 [V.i (Prod.fst (gtr l k)), V.i (Prod.fst (Prod.snd (gtr l k))), V.i (Prod.snd (Prod.snd (gtr l k)))])))] ⟨oM, oM, tI⟩ (sK fun K hK => wR 4 (aX hTT 2 [(1, .c ((0 : Nat) ≤ (3 : Nat)))] ⟨oM, tI⟩ ?_))
  refine eC (outside_no (gtr l k).1 1 16777216 (by simp [betB]; omega)) ?_
  refine aX hTT 3 [(1, .c (gA (false == false) True)), (2, .c (gB (false == false) ((1 : Nat) ≤ (3 : Nat))))] ⟨⟨⟨tI, tI⟩, (fun _ => tI)⟩, ⟨⟨(by (exact fun h => h)), tI⟩, (by (intro _; simp; done))⟩, tI⟩ ?_
  refine eG 1 (g := false == false) (fun h => outside_no (gtr l k).2.1 1 4096 (by simp [betB]; omega)) ?_
  refine aX hTT 4 [(0, .c (True ∧ (false = false → (false == false) = true))), (2, .c (gA (false == false) True)), (3, .c (gB (false == false) ((2 : Nat) ≤ (3 : Nat))))] ⟨⟨tI, (by (intro h; rw [h]; rfl))⟩, ⟨⟨tI, tI⟩, (fun _ => tI)⟩, ⟨⟨(by (exact fun h => h)), tI⟩, (by (intro _; simp; done))⟩, tI⟩ ?_
  refine eG 1 (g := false == false) (fun h => outside_no (gtr l k).2.2 0 4194304 (by simp [betB]; omega)) ?_
  refine aX hTT 1 [(0, .c (True ∧ (false = false → (false == false) = true)))] ⟨⟨tI, (by (intro h; rw [h]; rfl))⟩, tI⟩ ?_; refine nK hK ?_; clear hK K; refine w_false (t := false) kR rfl ?_
  refine aw_skip ?_
  refine xb_n (xt_n (hK _ ?_)); clear hK K; refine wR 5 (aX hTT 2 [(0, .i ((↑k : Int) + 1))] ⟨oM, tI⟩ (aops_nil (xt_n ?_)))
  refine ⟨k + 1, by omega, ?_, by omega⟩
  refine le_ren [] (.cons kR (.cons kR (.cons kR .nil))) .nil kR kR
 ·
  refine aw_exit ?_
  refine xt_x ?_; refine xt_x ?_
  refine xb_same ?_
  refine xt_n ?_; clear hK K; refine hK _ ?_; clear hK K; refine sX hTT 3 1 [] tI ?_
  refine aw_ret ?_
  refine rP (V.i 0)
set_option maxRecDepth 100000 in
theorem open4_ac (f : Fm) (hf : fmB f = true) (l : List Tr) (hl : l.length ≤ 24) (h : ∀ k, k < l.length → trB (gtr l k) = true) : AC Tryz.prog 17 [.agg f.c, V.trs l] (.tup [.ptr (plC4 f l), .i 0]) [] := by
 refine acI hTT hMX Tryz.func17 Tryz.ntmps17 fun C hC hF => ?_
 refine sX hTT 2 3 [] tI (sK fun K hK => sK fun K hK => wR 3 (aX hTT 1 [] tI ?_))
 refine eC (checkFormat4_ac f hf) ?_
 refine aX hTT 1 [] tI (nK hK ?_); clear hK K; refine sX hTT 4 2 [] tI (w_false (t := false) kR rfl ?_)
 refine aw_skip ?_
 refine xt_n (hK _ ?_); clear hK K; refine sK fun K hK => sK fun K hK => wR 5 (aX hTT 1 [] tI ?_)
 refine eC (checkTracks4_ac l hl h) ?_
 refine aX hTT 1 [] tI (nK hK ?_); clear hK K; refine sX hTT 6 2 [] tI (w_false (t := false) kR rfl ?_)
 refine aw_skip ?_
 refine xt_n (hK _ ?_); clear hK K; refine sX hTT 7 6 [] tI ?_
 refine aw_ret ?_
 skip
 refine rP (V.tup [V.ptr [V.c (Value.string (ByteArray.mk (List.toArray (Prod.fst f)))), V.i (Fm.ou f), V.i (Fm.inn f), V.i (Fm.per f), V.i (Fm.lead f), V.i (Fm.gap f), V.i (Fm.tail f), V.i (Fm.cost f), V.sl 3 (List.length l) fun (k : Nat) => Tr.c (gtr l k)], V.i 0])
end Go.Proofs.YtffggfnomhhckaaGreatDoor

namespace Go.Proofs.YtffggfnomhhckaaGreatDoor
open Go.Ab Go.RowKit Go.Dw Go.Shelf
theorem join_kB {P : Program} {N : Nat} {C : Cx P N} {c rest : Code} {Q : Exit → S → Prop} {s : S} {K : S → Prop} (hK : ∀ s', AW C rest Q s' → K s') (J : S) (hJ : AW C rest Q J)
  (hc : AW C c (XThen (fun s' => ∃ y : Unit, y = () ∧ Le s' J) fun _ _ => False) s) : AW C c (XThen K Q) s :=
 aw_mono hc fun e s' h => by
  cases e <;> first | (obtain ⟨_, _, h⟩ := h; exact hK s' (aw_le h hJ)) | exact h.elim
structure OrOk (f : Fm) (l : List Tr) (o : List Int) : Prop where
 ff : fmB f = true
 ll : l.length ≤ 24
 nn : o.length ≤ 24
 tt : ∀ k, k < l.length → trB (gtr l k) = true
 oo : ∀ k, k < o.length → 0 ≤ gi o k ∧ gi o k < l.length
theorem OrOk.tr {f : Fm} {l : List Tr} {o : List Int} (h : OrOk f l o) {k : Nat} (hk : k < o.length) : trB (trO l o k) = true := h.tt _ (by have := h.oo k hk; omega)
def lyN (f : Fm) (t : Nat → Tr) (n : Nat) : Nat := twN (fun k => decide ((t k).2.2 ≤ bTo f t (k + 1))) n
theorem ps_ly {f : Fm} {t : Nat → Tr} {n : Nat} : psB f t n = true ↔ lyN f t n = n ∧ f.inn ≤ bTo f t n - f.tail := by
 rw [psB_iff]
 constructor
 ·
  rintro ⟨h1, h2⟩
  exact ⟨twN_is (Nat.le_refl _) (fun k hk => decide_eq_true (h1 k hk)) fun h => by omega, h2⟩
 ·
  rintro ⟨h1, h2⟩
  exact ⟨fun k hk => by simpa using twN_all (fun k => decide ((t k).2.2 ≤ bTo f t (k + 1))) n k (by unfold lyN at h1; rw [h1]; exact hk), h2⟩
def lyR (f : Fm) (t : Nat → Tr) (n : Nat) : Int × Int := if lyN f t n < n then ((lyN f t n : Nat), 20) else if f.inn ≤ bTo f t n - f.tail then (n, 0) else (n, 14)
def lyV (f : Fm) (l : List Tr) (o : List Int) : V := .tup [if psB f (trO l o) o.length then V.bnds f l o else .nil, .i (lyR f (trO l o) o.length).1, .i (lyR f (trO l o) o.length).2]
theorem lyV_ok {f : Fm} {l : List Tr} {o : List Int} (h : psB f (trO l o) o.length = true) : lyV f l o = .tup [V.bnds f l o, .i o.length, .i 0] := by
 obtain ⟨h1, h2⟩ := ps_ly.1 h
 have e : lyR f (trO l o) o.length = ((o.length : Int), 0) := by rw [lyR, if_neg oM, if_pos h2]
 rw [lyV, if_pos h, e]
theorem lyV_end {f : Fm} {l : List Tr} {o : List Int} (h1 : lyN f (trO l o) o.length = o.length) (h2 : ¬ f.inn ≤ bTo f (trO l o) o.length - f.tail) : lyV f l o = .tup [.nil, .i o.length, .i 14] := by
 have e : ¬ psB f (trO l o) o.length = true := fun h => h2 (ps_ly.1 h).2
 rw [lyV, if_neg e, lyR, if_neg oM, if_neg h2]
theorem lyV_rule {f : Fm} {l : List Tr} {o : List Int} {k : Nat} (h1 : lyN f (trO l o) o.length = k) (h2 : k < o.length) : lyV f l o = .tup [.nil, .i k, .i 20] := by
 have e : ¬ psB f (trO l o) o.length = true := fun h => by have := (ps_ly.1 h).1; omega
 rw [lyV, if_neg e, lyR, if_pos oM, h1]
theorem ly_bad {f : Fm} {t : Nat → Tr} {n k : Nat} (hk : k < n) (h : ∀ j, j < k → (t j).2.2 ≤ bTo f t (j + 1)) (h2 : bTo f t (k + 1) < (t k).2.2) : lyN f t n = k :=
 twN_is oM (fun j hj => decide_eq_true (h j hj)) fun _ => decide_eq_false oM
abbrev yyBS30 (o : List Int) := (23, V.sl 1 (List.length o) fun (k : Nat) => [V.i (gi o k)])
abbrev yyBS31 (o : List Int) := (1, V.sl 1 (List.length o) fun (k : Nat) => [V.i (gi o k)])
set_option maxRecDepth 100000 in
theorem lay_ac (f : Fm) (l : List Tr) (o : List Int) (h : OrOk f l o) : AC Tryz.prog 19 [.ptr (plC4 f l), V.ints o] (lyV f l o) [] := by
 have hf := fmB_ok h.ff
 have hn24 := h.nn
 have hl24 := h.ll
 have B : ∀ k, k ≤ o.length → -4194304 - 73000000000 * (k : Int) ≤ bTo f (trO l o) k ∧ bTo f (trO l o) k ≤ 4194304 := fun k hk => bTo_bd hf k oM fun j hj => h.tr oM
 have := hf.ou; have := hf.inn; have := hf.per; have := hf.lead; have := hf.gap; have := hf.tail
 refine acI hTT hMX Tryz.func19 Tryz.ntmps19 fun C hC hF => ?_
 refine sX hTT 2 3 [] tI (sX hTT 3 1 [] tI (sK fun K hK => wD 4 (aX hTT 12 [(10, .i (Fm.ou f - Fm.lead f))] ⟨oM, tI⟩ (aops_nil ⟨kR, (xt_n (hK _ ?_))⟩)))); clear hK K; refine sK fun K hK => sX hTT 5 3 [] tI ?_
 refine aw_block ?_
 refine w_le (le_open 7 47 3 (bndC f l o) kR rfl) ?_
 refine w_loop (ι := Nat) (fun k => [(0, .ptr (plC4 f l)), (1, V.ints o), (7, .own 1), (8, .i (bTo f (trO l o) k)), (23, V.ints o), (24, .i o.length), (25, .i k)]) (fun k => [(1, .row 47 3 k (bndC f l o))]) (fun k => k ≤ o.length ∧ ∀ j, j < k → (trO l o j).2.2 ≤ bTo f (trO l o) (j + 1)) (fun k => o.length - k) 0 ⟨Nat.zero_le _, fun j hj => by omega⟩ ?_ ?_
 ·
  refine le_ren (sl := [(1, Ob.row 47 3 0 (bndC f l o))]) [(1, 500007)] (.cons kR (.cons kR (.cons kR (.cons kR (.cons kR (.cons kR (.cons kR .nil))))))) (.cons ⟨Ob.row 47 3 0 (bndC f l o), kR, .row kR (fun _ _ => rfl)⟩ .nil) kR kR
 rintro k ⟨hk, hj⟩
 have Bk := B k hk
 refine sX hTT 2 1 [] tI (sK fun K hK => ?_)
 refine w_cond (t := decide ((↑k : Int) < (↑(List.length o) : Int))) kR (fun c1 => ?_) (fun c1 => ?_)
 ·
  have hk1 : k < o.length := by simpa using c1
  have hr := h.oo k hk1
  have ht := h.tr hk1
  obtain ⟨w1, w2, w3, w4⟩ := widI_bd hf ht
  have Bk1 := B (k + 1) oM
  have eF : bFr f (trO l o) k = bTo f (trO l o) k - (if k = 0 then 0 else f.gap) := rfl
  have eT : bTo f (trO l o) (k + 1) = bFr f (trO l o) k - widI f (gtr l (gi o k).toNat) := bTo_succ f (trO l o) k
  refine aw_skip ?_
  refine xt_n (hK _ ?_); clear hK K; refine sK fun K hK => ?_
  refine aw_block ?_
  refine sX hTT 3 5 [(1, .c ((0 : Int) ≤ (↑k : Int) ∧ (↑k : Int) < (↑(List.length o) : Int)))] ⟨oM, tI⟩ (sK fun K hK => sX hTT 4 2 [] tI ?_)
  refine join_kB (by assumption) ⟨mkT [(0, .ptr (plC4 f l)), (1, V.ints o), (7, .own 1), (8, .i (bFr f (trO l o) k)), (9, .i k), (10, .i (gi o k)), (23, V.ints o), (24, .i o.length), (25, .i k)], mkS [(1, .row 47 3 k (bndC f l o))], 1⟩ ?_ ?_
  ·
   refine sK fun K hK => ?_
   refine wR 2 (aX hTT 11 [(9, .c ((0 : Int) ≤ gi o k ∧ gi o k < (↑(List.length l) : Int)))] ⟨oM, tI⟩ ?_)
   refine eC (width4_ac f l (gtr l (gi o k).toNat) hf ht) ?_
   refine aX hTT 4 [(0, .i (bFr f (trO l o) k - widI f (gtr l (Int.toNat (gi o k))))), (2, .r (pn 11 (V.ref 100011 0) (100011 : Nat) (Ob.box 47 [V.i 0, V.i 0, V.i 0]))), (3, .r (pw ((0 : Nat) + (3 : Nat) ≤ (3 : Nat)) (100011 : Nat) (Ob.box 47 [V.i (gi o k), V.i (bFr f (trO l o) k), V.i (bFr f (trO l o) k - widI f (gtr l (Int.toNat (gi o k))))])))] ⟨oM, oM, tI⟩ (nK hK ?_); clear hK K; refine sK fun K hK => sX hTT 3 3 [(1, .c ((2 : Nat) ≤ (3 : Nat)))] ⟨oM, tI⟩ (sX hTT 4 10 [(6, .c ((0 : Int) ≤ gi o k ∧ gi o k < (↑(List.length l) : Int)))] ⟨oM, tI⟩ ?_)
   refine w_cond (t := decide (bFr f (trO l o) k - widI f (gtr l (Int.toNat (gi o k))) < Prod.snd (Prod.snd (gtr l (Int.toNat (gi o k)))))) kR (fun c2 => ?_) (fun c2 => ?_)
   ·
    have e := ly_bad (f := f) (t := trO l o) hk1 hj (by rw [eT]; simpa [trO] using c2)
    refine sX hTT 5 4 [] tI ?_
    refine aw_ret ?_
    refine xt_r ?_
    refine xb_r ?_
    refine xt_r (xt_r ?_)
    refine xb_r ?_
    refine xt_r ?_
    rw [lyV_rule e hk1]
    refine rP (V.tup [V.nil, V.i (↑k : Int), V.i 20])
   ·
    refine aw_skip ?_
    refine xt_n (hK _ ?_); clear hK K; refine wR 5 (aX hTT 5 [(1, .c ((0 : Nat) ≤ (3 : Nat))), (3, .r (PR.mk (some (69 : Nat)) (some (k + 1 ≤ (1099511627776 : Nat))) (V.own 400069) [((1 : Nat), none), ((400069 : Nat), some (Ob.row 47 3 (k + 1) (appRow k (bndC f l o) fun (i : Nat) => List.take (3 : Nat) (List.drop (i * 3) [V.i (gi o k), V.i (bFr f (trO l o) k), V.i (bFr f (trO l o) k - widI f (gtr l (Int.toNat (gi o k))))]))))] false))] ⟨oM, oM, tI⟩ (aops_nil (xb_n (xt_n ?_)))); clear hK K; refine hK _ ?_; clear hK K; refine wR 6 (aX hTT 2 [(0, .i ((↑k : Int) + 1))] ⟨oM, tI⟩ (aops_nil (xt_n ?_)))
    refine ⟨k + 1, ⟨by omega, fun j hj2 => ?_⟩, ?_, by omega⟩
    ·
     by_cases e5 : j = k
     ·
      rw [e5, eT]; simpa [trO] using c2
     ·
      exact hj j oM
    ·
     refine le_ren (tl := [(0, V.ptr [V.c (Value.string (ByteArray.mk (List.toArray (Prod.fst f)))), V.i (Fm.ou f), V.i (Fm.inn f), V.i (Fm.per f), V.i (Fm.lead f), V.i (Fm.gap f), V.i (Fm.tail f), V.i (Fm.cost f), V.sl 3 (List.length l) fun (k : Nat) => Tr.c (gtr l k)]), (yyBS31 o), (7, V.own 1), (8, V.i (bTo f (trO l o) (k + 1))), (yyBS30 o), (24, V.i (↑(List.length o) : Int)), (25, V.i (↑(k + 1) : Int))]) (sl := [(1, Ob.row 47 3 (k + 1) (bndC f l o))]) [(1, 400069)] (.cons kR (.cons kR (.cons kR (.cons kR (.cons kR (.cons kR (.cons kR .nil))))))) (.cons ⟨Ob.row 47 3 (k + 1) (appRow k (bndC f l o) fun (i : Nat) => List.take (3 : Nat) (List.drop (i * 3) [V.i (gi o k), V.i (bFr f (trO l o) k), V.i (bFr f (trO l o) k - widI f (gtr l (Int.toNat (gi o k))))])), kR, .row kR ?_⟩ .nil) kR kR
     exact appRow_ok (fun i hi => rfl) rfl
  ·
   refine w_cond (t := decide ((0 : Int) < (↑k : Int))) kR (fun c3 => ?_) (fun c3 => ?_)
   ·
    refine wR 5 ?_
    refine aops_n hTT (M := []) (n := 8) [pv 32 (V.i (bTo f (trO l o) k)), pv 33 (V.ptr [V.c (Value.string (ByteArray.mk (List.toArray (Prod.fst f)))), V.i (Fm.ou f), V.i (Fm.inn f), V.i (Fm.per f), V.i (Fm.lead f), V.i (Fm.gap f), V.i (Fm.tail f), V.i (Fm.cost f), V.sl 3 (List.length l) fun (k : Nat) => Tr.c (gtr l k)]), pv 34 (V.ptr [V.c (Value.string (ByteArray.mk (List.toArray (Prod.fst f)))), V.i (Fm.ou f), V.i (Fm.inn f), V.i (Fm.per f), V.i (Fm.lead f), V.i (Fm.gap f), V.i (Fm.tail f), V.i (Fm.cost f), V.sl 3 (List.length l) fun (k : Nat) => Tr.c (gtr l k)]), pv 35 (V.ptr [V.c (Value.string (ByteArray.mk (List.toArray (Prod.fst f)))), V.i (Fm.ou f), V.i (Fm.inn f), V.i (Fm.per f), V.i (Fm.lead f), V.i (Fm.gap f), V.i (Fm.tail f), V.i (Fm.cost f), V.sl 3 (List.length l) fun (k : Nat) => Tr.c (gtr l k)]), pv 36 (V.ptr [V.i (Fm.gap f), V.i (Fm.tail f), V.i (Fm.cost f), V.sl 3 (List.length l) fun (k : Nat) => Tr.c (gtr l k)]), pv 37 (V.i (Fm.gap f)), pc 38 ((-9223372036854775808 : Int) ≤ bTo f (trO l o) k - Fm.gap f ∧ bTo f (trO l o) k - Fm.gap f ≤ 9223372036854775807) (V.i (bTo f (trO l o) k - Fm.gap f)), pv 8 (V.i (bTo f (trO l o) k - Fm.gap f))] kR kR ⟨oM, tI⟩ ?_
    refine aops_nil (xt_n ?_)
    refine ⟨(), rfl, ?_⟩
    refine le_ren (tl := [(0, V.ptr [V.c (Value.string (ByteArray.mk (List.toArray (Prod.fst f)))), V.i (Fm.ou f), V.i (Fm.inn f), V.i (Fm.per f), V.i (Fm.lead f), V.i (Fm.gap f), V.i (Fm.tail f), V.i (Fm.cost f), V.sl 3 (List.length l) fun (k : Nat) => Tr.c (gtr l k)]), (yyBS31 o), (7, V.own 1), (8, V.i (bFr f (trO l o) k)), (9, V.i (↑k : Int)), (10, V.i (gi o k)), (yyBS30 o), (24, V.i (↑(List.length o) : Int)), (25, V.i (↑k : Int))]) (sl := [(1, Ob.row 47 3 k (bndC f l o))]) [(1, 1)] (.cons kR (.cons kR (.cons kR (.cons ?_ (.cons kR (.cons kR (.cons kR (.cons kR (.cons kR .nil))))))))) (.cons ⟨Ob.row 47 3 k (bndC f l o), kR, .row kR (fun _ _ => rfl)⟩ .nil) kR kR
    show V.i (bTo f (trO l o) k - f.gap) = V.i (bFr f (trO l o) k)
    rw [eF, if_neg (by simp at c3; omega)]
   ·
    refine aw_skip ?_
    refine xt_n ?_
    refine ⟨(), rfl, ?_⟩
    refine le_ren (tl := [(0, V.ptr [V.c (Value.string (ByteArray.mk (List.toArray (Prod.fst f)))), V.i (Fm.ou f), V.i (Fm.inn f), V.i (Fm.per f), V.i (Fm.lead f), V.i (Fm.gap f), V.i (Fm.tail f), V.i (Fm.cost f), V.sl 3 (List.length l) fun (k : Nat) => Tr.c (gtr l k)]), (yyBS31 o), (7, V.own 1), (8, V.i (bFr f (trO l o) k)), (9, V.i (↑k : Int)), (10, V.i (gi o k)), (yyBS30 o), (24, V.i (↑(List.length o) : Int)), (25, V.i (↑k : Int))]) (sl := [(1, Ob.row 47 3 k (bndC f l o))]) [(1, 1)] (.cons kR (.cons kR (.cons kR (.cons ?_ (.cons kR (.cons kR (.cons kR (.cons kR (.cons kR .nil))))))))) (.cons ⟨Ob.row 47 3 k (bndC f l o), kR, .row kR (fun _ _ => rfl)⟩ .nil) kR kR
    show V.i (bTo f (trO l o) k) = V.i (bFr f (trO l o) k)
    rw [eF, if_pos (by simp at c3; omega), Int.sub_zero]
 ·
  have hk1 : k = o.length := by simp at c1; omega
  subst hk1
  have e1 : lyN f (trO l o) o.length = o.length := twN_is (Nat.le_refl _) (fun j hj2 => decide_eq_true (hj j hj2)) fun h => by omega
  refine aw_exit ?_
  refine xt_x ?_; refine xt_x ?_
  refine xb_same ?_
  refine xt_n ?_; clear hK K; refine hK _ ?_; clear hK K; refine sK fun K hK => sK fun K hK => wD 3 (aX hTT 13 [(6, .i (bTo f (trO l o) (List.length o) - Fm.tail f))] ⟨oM, tI⟩ (aops_nil ⟨kR, (xt_n (hK _ ?_))⟩)); clear hK K
  refine w_cond (t := decide (bTo f (trO l o) (List.length o) - Fm.tail f < Fm.inn f)) kR (fun c2 => ?_) (fun c2 => ?_)
  ·
   refine sK fun K hK => ?_
   refine wR 4 (aX hTT 5 [] tI (nK hK ?_)); clear hK K
   refine aw_ret ?_
   refine xt_r ?_
   rw [lyV_end e1 (by simp at c2; omega)]
   refine rP (V.tup [V.nil, V.i (↑(List.length o) : Int), V.i 14])
  ·
   refine w_le (le_shut 7 1 (e := (47 : Nat)) (sz := (3 : Nat)) (n := List.length o) (n' := o.length) (row := bndC f l o) (row' := (bndC f l o)) kR kR (fun _ _ => rfl) ?_ ?_) ?_
   ·
    rfl
   ·
    intro i hi; rfl
   refine aw_skip ?_
   refine xt_n (hK _ ?_); clear hK K; refine sX hTT 4 6 [] tI ?_
   refine aw_ret ?_
   rw [lyV_ok (ps_ly.2 ⟨e1, by simp at c2; omega⟩)]
   refine rP (V.tup [V.sl 3 (List.length o) (bndC f l o), V.i (↑(List.length o) : Int), V.i 0])
end Go.Proofs.YtffggfnomhhckaaGreatDoor

namespace Go.Proofs.YtffggfnomhhckaaGreatDoor
open Go.Ab Go.RowKit Go.Dw Go.Shelf
def Bl.c (b : Bl) : List V := [.i b.per, .i b.rim, .i b.core, .i b.land, .i b.slow, .i b.fast]
abbrev Bl.v (b : Bl) : V := .agg b.c
def blE (b : Bl) : Int := if betB b.per 1 65536 && betB b.rim 0 4194304 && betB b.core 0 b.rim && betB b.land 0 65536 && betB b.fast 0 65536 && betB b.slow 0 b.fast then 0 else 2
theorem blE_ok {b : Bl} : blE b = 0 ↔ b.ok := by
 unfold blE Bl.ok
 constructor
 ·
  intro h
  split at h
  ·
   rename_i h1
   simp [betB] at h1
   omega
  ·
   cases h
 ·
  intro h
  rw [if_pos]
  simp [betB]
  omega
theorem blE_2 {b : Bl} (h : ¬ b.ok) : blE b = 2 := by
 have h1 : blE b ≠ 0 := fun e => h (blE_ok.1 e)
 unfold blE at h1 ⊢
 split
 ·
  rename_i h2; rw [if_pos h2] at h1; exact absurd rfl h1
 ·
  rfl
set_option maxRecDepth 100000 in
theorem lBetween_ac (x lo hi : Int) : AC Tryz.prog 58 [.i x, .i lo, .i hi] (.b (betB x lo hi)) [] := by
 refine acI hTT hMX Tryz.func58 Tryz.ntmps58 fun C hC hF => ?_
 refine sK fun K hK => wR 2 ?_
 refine aops_n hTT (M := []) (n := 1) [pv 6 (V.b false)] kR kR tI ?_
 refine nK hK ?_; clear hK K; refine sK fun K hK => wR 3 ?_
 refine aops_n hTT (M := []) (n := 9) [pv 7 (V.i x), pv 8 (V.i lo), pv 9 (V.b (decide (lo ≤ x))), pv 10 (V.b (decide (lo ≤ x))), pc 11 ((True ∧ True) ∧ ((decide (lo ≤ x) == true) = true → True)) (V.gd (decide (lo ≤ x) == true) (V.i x)), pc 12 ((True ∧ True) ∧ ((decide (lo ≤ x) == true) = true → True)) (V.gd (decide (lo ≤ x) == true) (V.i hi)), pc 13 ((((decide (lo ≤ x) == true) = true → (decide (lo ≤ x) == true) = true) ∧ ((decide (lo ≤ x) == true) = true → (decide (lo ≤ x) == true) = true) ∧ True) ∧ ((decide (lo ≤ x) == true) = true → True)) (V.gd (decide (lo ≤ x) == true) (V.b (decide (x ≤ hi)))), pc 14 ((decide (lo ≤ x) = true → (decide (lo ≤ x) == true) = true) ∧ True) (V.b (decide (lo ≤ x) && decide (x ≤ hi))), pv 6 (V.b (decide (lo ≤ x) && decide (x ≤ hi)))] kR kR ⟨⟨⟨tI, tI⟩, (fun _ => tI)⟩, ⟨⟨tI, tI⟩, (fun _ => tI)⟩, ⟨⟨(by (exact fun h => h)), ⟨(by (exact fun h => h)), tI⟩⟩, (fun _ => tI)⟩, ⟨(by (intro h; rw [h]; rfl)), tI⟩, tI⟩ ?_
 refine nK hK ?_; clear hK K
 refine aw_ret ?_
 refine rP (V.b (decide (lo ≤ x) && decide (x ≤ hi)))
set_option maxRecDepth 100000 in
theorem lCheck_ac (b : Bl) : AC Tryz.prog 35 [b.v] (.i (blE b)) [] := by
 refine ac_intro hTT hMX (fn := Tryz.f35) (N := _) ⟨Tryz.func35, rfl, Tryz.ntmps35, kR⟩ (by simp) fun C hC hF => ?_
 refine sK fun K hK => ?_
 refine w_region (n' := 2) kR kR ?_
 refine aops_n hTT (M := []) (n := 2) [pv (1 : Nat) (V.ptr [V.i (Bl.per b), V.i (Bl.rim b), V.i (Bl.core b), V.i (Bl.land b), V.i (Bl.slow b), V.i (Bl.fast b)]), pv (2 : Nat) (V.i (0 : Int))] kR kR tI ?_
 refine aops_nil ?_
 refine xt_n ?_
 refine hK _ ?_
 clear hK K
 refine sK fun K hK => ?_
 refine sK fun K hK => ?_
 refine w_region (n' := 3) kR kR ?_
 refine aops_n hTT (M := []) (n := 2) [pv (3 : Nat) (V.ptr [V.i (Bl.per b), V.i (Bl.rim b), V.i (Bl.core b), V.i (Bl.land b), V.i (Bl.slow b), V.i (Bl.fast b)]), pv (4 : Nat) (V.i (Bl.per b))] kR kR tI ?_
 refine e_call (first := []) (caps := []) (lBetween_ac b.per 1 65536) kR kR kR kR kR ?_
 refine aops_n hTT (M := []) (n := 4) [pv (6 : Nat) (V.b !betB (Bl.per b) (1 : Int) (65536 : Int)), pv (7 : Nat) (V.b !betB (Bl.per b) (1 : Int) (65536 : Int)), pc (8 : Nat) ((True ∧ True) ∧ (((!betB (Bl.per b) (1 : Int) (65536 : Int)) == false) = true → True)) (V.gd ((!betB (Bl.per b) (1 : Int) (65536 : Int)) == false) (V.ptr [V.i (Bl.rim b), V.i (Bl.core b), V.i (Bl.land b), V.i (Bl.slow b), V.i (Bl.fast b)])), pc (9 : Nat) (((((!betB (Bl.per b) (1 : Int) (65536 : Int)) == false) = true → ((!betB (Bl.per b) (1 : Int) (65536 : Int)) == false) = true) ∧ True) ∧ (((!betB (Bl.per b) (1 : Int) (65536 : Int)) == false) = true → True)) (V.gd ((!betB (Bl.per b) (1 : Int) (65536 : Int)) == false) (V.i (Bl.rim b)))] kR kR ⟨⟨⟨tI, tI⟩, (fun _ => tI)⟩, ⟨⟨(by (exact fun h => h)), tI⟩, (fun _ => tI)⟩, tI⟩ ?_
 refine e_callG 1 (g := (!betB (Bl.per b) (1 : Int) (65536 : Int)) == false) (first := []) (caps := []) kR (fun h => lBetween_ac b.rim 0 4194304) kR kR kR kR kR kR ?_
 refine aops_n hTT (M := []) (n := 7) [pc (11 : Nat) (((((!betB (Bl.per b) (1 : Int) (65536 : Int)) == false) = true → ((!betB (Bl.per b) (1 : Int) (65536 : Int)) == false) = true) ∧ True) ∧ (((!betB (Bl.per b) (1 : Int) (65536 : Int)) == false) = true → True)) (V.gd ((!betB (Bl.per b) (1 : Int) (65536 : Int)) == false) (V.b !betB (Bl.rim b) (0 : Int) (4194304 : Int))), pc (12 : Nat) (True ∧ ((!betB (Bl.per b) (1 : Int) (65536 : Int)) = false → ((!betB (Bl.per b) (1 : Int) (65536 : Int)) == false) = true)) (V.b (!betB (Bl.per b) (1 : Int) (65536 : Int) || !betB (Bl.rim b) (0 : Int) (4194304 : Int))), pv (13 : Nat) (V.b (!betB (Bl.per b) (1 : Int) (65536 : Int) || !betB (Bl.rim b) (0 : Int) (4194304 : Int))), pc (14 : Nat) ((True ∧ True) ∧ (((!betB (Bl.per b) (1 : Int) (65536 : Int) || !betB (Bl.rim b) (0 : Int) (4194304 : Int)) == false) = true → True)) (V.gd ((!betB (Bl.per b) (1 : Int) (65536 : Int) || !betB (Bl.rim b) (0 : Int) (4194304 : Int)) == false) (V.ptr [V.i (Bl.core b), V.i (Bl.land b), V.i (Bl.slow b), V.i (Bl.fast b)])), pc (15 : Nat) (((((!betB (Bl.per b) (1 : Int) (65536 : Int) || !betB (Bl.rim b) (0 : Int) (4194304 : Int)) == false) = true → ((!betB (Bl.per b) (1 : Int) (65536 : Int) || !betB (Bl.rim b) (0 : Int) (4194304 : Int)) == false) = true) ∧ True) ∧ (((!betB (Bl.per b) (1 : Int) (65536 : Int) || !betB (Bl.rim b) (0 : Int) (4194304 : Int)) == false) = true → True)) (V.gd ((!betB (Bl.per b) (1 : Int) (65536 : Int) || !betB (Bl.rim b) (0 : Int) (4194304 : Int)) == false) (V.i (Bl.core b))), pc (16 : Nat) ((True ∧ True) ∧ (((!betB (Bl.per b) (1 : Int) (65536 : Int) || !betB (Bl.rim b) (0 : Int) (4194304 : Int)) == false) = true → True)) (V.gd ((!betB (Bl.per b) (1 : Int) (65536 : Int) || !betB (Bl.rim b) (0 : Int) (4194304 : Int)) == false) (V.ptr [V.i (Bl.rim b), V.i (Bl.core b), V.i (Bl.land b), V.i (Bl.slow b), V.i (Bl.fast b)])), pc (17 : Nat) (((((!betB (Bl.per b) (1 : Int) (65536 : Int) || !betB (Bl.rim b) (0 : Int) (4194304 : Int)) == false) = true → ((!betB (Bl.per b) (1 : Int) (65536 : Int) || !betB (Bl.rim b) (0 : Int) (4194304 : Int)) == false) = true) ∧ True) ∧ (((!betB (Bl.per b) (1 : Int) (65536 : Int) || !betB (Bl.rim b) (0 : Int) (4194304 : Int)) == false) = true → True)) (V.gd ((!betB (Bl.per b) (1 : Int) (65536 : Int) || !betB (Bl.rim b) (0 : Int) (4194304 : Int)) == false) (V.i (Bl.rim b)))] kR kR ⟨⟨⟨(by (exact fun h => h)), tI⟩, (fun _ => tI)⟩, ⟨tI, (by (intro h; rw [h]; rfl))⟩, ⟨⟨tI, tI⟩, (fun _ => tI)⟩, ⟨⟨(by (exact fun h => h)), tI⟩, (fun _ => tI)⟩, ⟨⟨tI, tI⟩, (fun _ => tI)⟩, ⟨⟨(by (exact fun h => h)), tI⟩, (fun _ => tI)⟩, tI⟩ ?_
 refine e_callG 2 (g := (!betB (Bl.per b) (1 : Int) (65536 : Int) || !betB (Bl.rim b) (0 : Int) (4194304 : Int)) == false) (first := []) (caps := []) kR (fun h => lBetween_ac b.core 0 b.rim) kR kR kR kR kR kR ?_
 refine aops_n hTT (M := []) (n := 5) [pc (19 : Nat) (((((!betB (Bl.per b) (1 : Int) (65536 : Int) || !betB (Bl.rim b) (0 : Int) (4194304 : Int)) == false) = true → ((!betB (Bl.per b) (1 : Int) (65536 : Int) || !betB (Bl.rim b) (0 : Int) (4194304 : Int)) == false) = true) ∧ True) ∧ (((!betB (Bl.per b) (1 : Int) (65536 : Int) || !betB (Bl.rim b) (0 : Int) (4194304 : Int)) == false) = true → True)) (V.gd ((!betB (Bl.per b) (1 : Int) (65536 : Int) || !betB (Bl.rim b) (0 : Int) (4194304 : Int)) == false) (V.b !betB (Bl.core b) (0 : Int) (Bl.rim b))), pc (20 : Nat) (True ∧ ((!betB (Bl.per b) (1 : Int) (65536 : Int) || !betB (Bl.rim b) (0 : Int) (4194304 : Int)) = false → ((!betB (Bl.per b) (1 : Int) (65536 : Int) || !betB (Bl.rim b) (0 : Int) (4194304 : Int)) == false) = true)) (V.b (!betB (Bl.per b) (1 : Int) (65536 : Int) || !betB (Bl.rim b) (0 : Int) (4194304 : Int) || !betB (Bl.core b) (0 : Int) (Bl.rim b))), pv (21 : Nat) (V.b (!betB (Bl.per b) (1 : Int) (65536 : Int) || !betB (Bl.rim b) (0 : Int) (4194304 : Int) || !betB (Bl.core b) (0 : Int) (Bl.rim b))), pc (22 : Nat) ((True ∧ True) ∧ (((!betB (Bl.per b) (1 : Int) (65536 : Int) || !betB (Bl.rim b) (0 : Int) (4194304 : Int) || !betB (Bl.core b) (0 : Int) (Bl.rim b)) == false) = true → True)) (V.gd ((!betB (Bl.per b) (1 : Int) (65536 : Int) || !betB (Bl.rim b) (0 : Int) (4194304 : Int) || !betB (Bl.core b) (0 : Int) (Bl.rim b)) == false) (V.ptr [V.i (Bl.land b), V.i (Bl.slow b), V.i (Bl.fast b)])), pc (23 : Nat) (((((!betB (Bl.per b) (1 : Int) (65536 : Int) || !betB (Bl.rim b) (0 : Int) (4194304 : Int) || !betB (Bl.core b) (0 : Int) (Bl.rim b)) == false) = true → ((!betB (Bl.per b) (1 : Int) (65536 : Int) || !betB (Bl.rim b) (0 : Int) (4194304 : Int) || !betB (Bl.core b) (0 : Int) (Bl.rim b)) == false) = true) ∧ True) ∧ (((!betB (Bl.per b) (1 : Int) (65536 : Int) || !betB (Bl.rim b) (0 : Int) (4194304 : Int) || !betB (Bl.core b) (0 : Int) (Bl.rim b)) == false) = true → True)) (V.gd ((!betB (Bl.per b) (1 : Int) (65536 : Int) || !betB (Bl.rim b) (0 : Int) (4194304 : Int) || !betB (Bl.core b) (0 : Int) (Bl.rim b)) == false) (V.i (Bl.land b)))] kR kR ⟨⟨⟨(by (exact fun h => h)), tI⟩, (fun _ => tI)⟩, ⟨tI, (by (intro h; rw [h]; rfl))⟩, ⟨⟨tI, tI⟩, (fun _ => tI)⟩, ⟨⟨(by (exact fun h => h)), tI⟩, (fun _ => tI)⟩, tI⟩ ?_
 refine e_callG 1 (g := (!betB (Bl.per b) (1 : Int) (65536 : Int) || !betB (Bl.rim b) (0 : Int) (4194304 : Int) || !betB (Bl.core b) (0 : Int) (Bl.rim b)) == false) (first := []) (caps := []) kR (fun h => lBetween_ac b.land 0 65536) kR kR kR kR kR kR ?_
 refine aops_n hTT (M := []) (n := 5) [pc (25 : Nat) (((((!betB (Bl.per b) (1 : Int) (65536 : Int) || !betB (Bl.rim b) (0 : Int) (4194304 : Int) || !betB (Bl.core b) (0 : Int) (Bl.rim b)) == false) = true → ((!betB (Bl.per b) (1 : Int) (65536 : Int) || !betB (Bl.rim b) (0 : Int) (4194304 : Int) || !betB (Bl.core b) (0 : Int) (Bl.rim b)) == false) = true) ∧ True) ∧ (((!betB (Bl.per b) (1 : Int) (65536 : Int) || !betB (Bl.rim b) (0 : Int) (4194304 : Int) || !betB (Bl.core b) (0 : Int) (Bl.rim b)) == false) = true → True)) (V.gd ((!betB (Bl.per b) (1 : Int) (65536 : Int) || !betB (Bl.rim b) (0 : Int) (4194304 : Int) || !betB (Bl.core b) (0 : Int) (Bl.rim b)) == false) (V.b !betB (Bl.land b) (0 : Int) (65536 : Int))), pc (26 : Nat) (True ∧ ((!betB (Bl.per b) (1 : Int) (65536 : Int) || !betB (Bl.rim b) (0 : Int) (4194304 : Int) || !betB (Bl.core b) (0 : Int) (Bl.rim b)) = false → ((!betB (Bl.per b) (1 : Int) (65536 : Int) || !betB (Bl.rim b) (0 : Int) (4194304 : Int) || !betB (Bl.core b) (0 : Int) (Bl.rim b)) == false) = true)) (V.b (!betB (Bl.per b) (1 : Int) (65536 : Int) || !betB (Bl.rim b) (0 : Int) (4194304 : Int) || !betB (Bl.core b) (0 : Int) (Bl.rim b) || !betB (Bl.land b) (0 : Int) (65536 : Int))), pv (27 : Nat) (V.b (!betB (Bl.per b) (1 : Int) (65536 : Int) || !betB (Bl.rim b) (0 : Int) (4194304 : Int) || !betB (Bl.core b) (0 : Int) (Bl.rim b) || !betB (Bl.land b) (0 : Int) (65536 : Int))), pc (28 : Nat) ((True ∧ True) ∧ (((!betB (Bl.per b) (1 : Int) (65536 : Int) || !betB (Bl.rim b) (0 : Int) (4194304 : Int) || !betB (Bl.core b) (0 : Int) (Bl.rim b) || !betB (Bl.land b) (0 : Int) (65536 : Int)) == false) = true → True)) (V.gd ((!betB (Bl.per b) (1 : Int) (65536 : Int) || !betB (Bl.rim b) (0 : Int) (4194304 : Int) || !betB (Bl.core b) (0 : Int) (Bl.rim b) || !betB (Bl.land b) (0 : Int) (65536 : Int)) == false) (V.ptr [V.i (Bl.fast b)])), pc (29 : Nat) (((((!betB (Bl.per b) (1 : Int) (65536 : Int) || !betB (Bl.rim b) (0 : Int) (4194304 : Int) || !betB (Bl.core b) (0 : Int) (Bl.rim b) || !betB (Bl.land b) (0 : Int) (65536 : Int)) == false) = true → ((!betB (Bl.per b) (1 : Int) (65536 : Int) || !betB (Bl.rim b) (0 : Int) (4194304 : Int) || !betB (Bl.core b) (0 : Int) (Bl.rim b) || !betB (Bl.land b) (0 : Int) (65536 : Int)) == false) = true) ∧ True) ∧ (((!betB (Bl.per b) (1 : Int) (65536 : Int) || !betB (Bl.rim b) (0 : Int) (4194304 : Int) || !betB (Bl.core b) (0 : Int) (Bl.rim b) || !betB (Bl.land b) (0 : Int) (65536 : Int)) == false) = true → True)) (V.gd ((!betB (Bl.per b) (1 : Int) (65536 : Int) || !betB (Bl.rim b) (0 : Int) (4194304 : Int) || !betB (Bl.core b) (0 : Int) (Bl.rim b) || !betB (Bl.land b) (0 : Int) (65536 : Int)) == false) (V.i (Bl.fast b)))] kR kR ⟨⟨⟨(by (exact fun h => h)), tI⟩, (fun _ => tI)⟩, ⟨tI, (by (intro h; rw [h]; rfl))⟩, ⟨⟨tI, tI⟩, (fun _ => tI)⟩, ⟨⟨(by (exact fun h => h)), tI⟩, (fun _ => tI)⟩, tI⟩ ?_
 refine e_callG 1 (g := (!betB (Bl.per b) (1 : Int) (65536 : Int) || !betB (Bl.rim b) (0 : Int) (4194304 : Int) || !betB (Bl.core b) (0 : Int) (Bl.rim b) || !betB (Bl.land b) (0 : Int) (65536 : Int)) == false) (first := []) (caps := []) kR (fun h => lBetween_ac b.fast 0 65536) kR kR kR kR kR kR ?_
 refine aops_n hTT (M := []) (n := 7) [pc (31 : Nat) (((((!betB (Bl.per b) (1 : Int) (65536 : Int) || !betB (Bl.rim b) (0 : Int) (4194304 : Int) || !betB (Bl.core b) (0 : Int) (Bl.rim b) || !betB (Bl.land b) (0 : Int) (65536 : Int)) == false) = true → ((!betB (Bl.per b) (1 : Int) (65536 : Int) || !betB (Bl.rim b) (0 : Int) (4194304 : Int) || !betB (Bl.core b) (0 : Int) (Bl.rim b) || !betB (Bl.land b) (0 : Int) (65536 : Int)) == false) = true) ∧ True) ∧ (((!betB (Bl.per b) (1 : Int) (65536 : Int) || !betB (Bl.rim b) (0 : Int) (4194304 : Int) || !betB (Bl.core b) (0 : Int) (Bl.rim b) || !betB (Bl.land b) (0 : Int) (65536 : Int)) == false) = true → True)) (V.gd ((!betB (Bl.per b) (1 : Int) (65536 : Int) || !betB (Bl.rim b) (0 : Int) (4194304 : Int) || !betB (Bl.core b) (0 : Int) (Bl.rim b) || !betB (Bl.land b) (0 : Int) (65536 : Int)) == false) (V.b !betB (Bl.fast b) (0 : Int) (65536 : Int))), pc (32 : Nat) (True ∧ ((!betB (Bl.per b) (1 : Int) (65536 : Int) || !betB (Bl.rim b) (0 : Int) (4194304 : Int) || !betB (Bl.core b) (0 : Int) (Bl.rim b) || !betB (Bl.land b) (0 : Int) (65536 : Int)) = false → ((!betB (Bl.per b) (1 : Int) (65536 : Int) || !betB (Bl.rim b) (0 : Int) (4194304 : Int) || !betB (Bl.core b) (0 : Int) (Bl.rim b) || !betB (Bl.land b) (0 : Int) (65536 : Int)) == false) = true)) (V.b (!betB (Bl.per b) (1 : Int) (65536 : Int) || !betB (Bl.rim b) (0 : Int) (4194304 : Int) || !betB (Bl.core b) (0 : Int) (Bl.rim b) || !betB (Bl.land b) (0 : Int) (65536 : Int) || !betB (Bl.fast b) (0 : Int) (65536 : Int))), pv (33 : Nat) (V.b (!betB (Bl.per b) (1 : Int) (65536 : Int) || !betB (Bl.rim b) (0 : Int) (4194304 : Int) || !betB (Bl.core b) (0 : Int) (Bl.rim b) || !betB (Bl.land b) (0 : Int) (65536 : Int) || !betB (Bl.fast b) (0 : Int) (65536 : Int))), pc (34 : Nat) ((True ∧ True) ∧ (((!betB (Bl.per b) (1 : Int) (65536 : Int) || !betB (Bl.rim b) (0 : Int) (4194304 : Int) || !betB (Bl.core b) (0 : Int) (Bl.rim b) || !betB (Bl.land b) (0 : Int) (65536 : Int) || !betB (Bl.fast b) (0 : Int) (65536 : Int)) == false) = true → True)) (V.gd ((!betB (Bl.per b) (1 : Int) (65536 : Int) || !betB (Bl.rim b) (0 : Int) (4194304 : Int) || !betB (Bl.core b) (0 : Int) (Bl.rim b) || !betB (Bl.land b) (0 : Int) (65536 : Int) || !betB (Bl.fast b) (0 : Int) (65536 : Int)) == false) (V.ptr [V.i (Bl.slow b), V.i (Bl.fast b)])), pc (35 : Nat) (((((!betB (Bl.per b) (1 : Int) (65536 : Int) || !betB (Bl.rim b) (0 : Int) (4194304 : Int) || !betB (Bl.core b) (0 : Int) (Bl.rim b) || !betB (Bl.land b) (0 : Int) (65536 : Int) || !betB (Bl.fast b) (0 : Int) (65536 : Int)) == false) = true → ((!betB (Bl.per b) (1 : Int) (65536 : Int) || !betB (Bl.rim b) (0 : Int) (4194304 : Int) || !betB (Bl.core b) (0 : Int) (Bl.rim b) || !betB (Bl.land b) (0 : Int) (65536 : Int) || !betB (Bl.fast b) (0 : Int) (65536 : Int)) == false) = true) ∧ True) ∧ (((!betB (Bl.per b) (1 : Int) (65536 : Int) || !betB (Bl.rim b) (0 : Int) (4194304 : Int) || !betB (Bl.core b) (0 : Int) (Bl.rim b) || !betB (Bl.land b) (0 : Int) (65536 : Int) || !betB (Bl.fast b) (0 : Int) (65536 : Int)) == false) = true → True)) (V.gd ((!betB (Bl.per b) (1 : Int) (65536 : Int) || !betB (Bl.rim b) (0 : Int) (4194304 : Int) || !betB (Bl.core b) (0 : Int) (Bl.rim b) || !betB (Bl.land b) (0 : Int) (65536 : Int) || !betB (Bl.fast b) (0 : Int) (65536 : Int)) == false) (V.i (Bl.slow b))), pc (36 : Nat) ((True ∧ True) ∧ (((!betB (Bl.per b) (1 : Int) (65536 : Int) || !betB (Bl.rim b) (0 : Int) (4194304 : Int) || !betB (Bl.core b) (0 : Int) (Bl.rim b) || !betB (Bl.land b) (0 : Int) (65536 : Int) || !betB (Bl.fast b) (0 : Int) (65536 : Int)) == false) = true → True)) (V.gd ((!betB (Bl.per b) (1 : Int) (65536 : Int) || !betB (Bl.rim b) (0 : Int) (4194304 : Int) || !betB (Bl.core b) (0 : Int) (Bl.rim b) || !betB (Bl.land b) (0 : Int) (65536 : Int) || !betB (Bl.fast b) (0 : Int) (65536 : Int)) == false) (V.ptr [V.i (Bl.fast b)])), pc (37 : Nat) (((((!betB (Bl.per b) (1 : Int) (65536 : Int) || !betB (Bl.rim b) (0 : Int) (4194304 : Int) || !betB (Bl.core b) (0 : Int) (Bl.rim b) || !betB (Bl.land b) (0 : Int) (65536 : Int) || !betB (Bl.fast b) (0 : Int) (65536 : Int)) == false) = true → ((!betB (Bl.per b) (1 : Int) (65536 : Int) || !betB (Bl.rim b) (0 : Int) (4194304 : Int) || !betB (Bl.core b) (0 : Int) (Bl.rim b) || !betB (Bl.land b) (0 : Int) (65536 : Int) || !betB (Bl.fast b) (0 : Int) (65536 : Int)) == false) = true) ∧ True) ∧ (((!betB (Bl.per b) (1 : Int) (65536 : Int) || !betB (Bl.rim b) (0 : Int) (4194304 : Int) || !betB (Bl.core b) (0 : Int) (Bl.rim b) || !betB (Bl.land b) (0 : Int) (65536 : Int) || !betB (Bl.fast b) (0 : Int) (65536 : Int)) == false) = true → True)) (V.gd ((!betB (Bl.per b) (1 : Int) (65536 : Int) || !betB (Bl.rim b) (0 : Int) (4194304 : Int) || !betB (Bl.core b) (0 : Int) (Bl.rim b) || !betB (Bl.land b) (0 : Int) (65536 : Int) || !betB (Bl.fast b) (0 : Int) (65536 : Int)) == false) (V.i (Bl.fast b)))] kR kR ⟨⟨⟨(by (exact fun h => h)), tI⟩, (fun _ => tI)⟩, ⟨tI, (by (intro h; rw [h]; rfl))⟩, ⟨⟨tI, tI⟩, (fun _ => tI)⟩, ⟨⟨(by (exact fun h => h)), tI⟩, (fun _ => tI)⟩, ⟨⟨tI, tI⟩, (fun _ => tI)⟩, ⟨⟨(by (exact fun h => h)), tI⟩, (fun _ => tI)⟩, tI⟩ ?_
 refine e_callG 2 (g := (!betB (Bl.per b) (1 : Int) (65536 : Int) || !betB (Bl.rim b) (0 : Int) (4194304 : Int) || !betB (Bl.core b) (0 : Int) (Bl.rim b) || !betB (Bl.land b) (0 : Int) (65536 : Int) || !betB (Bl.fast b) (0 : Int) (65536 : Int)) == false) (first := []) (caps := []) kR (fun h => lBetween_ac b.slow 0 b.fast) kR kR kR kR kR kR ?_
 refine aops_n hTT (M := []) (n := 2) [pc (39 : Nat) (((((!betB (Bl.per b) (1 : Int) (65536 : Int) || !betB (Bl.rim b) (0 : Int) (4194304 : Int) || !betB (Bl.core b) (0 : Int) (Bl.rim b) || !betB (Bl.land b) (0 : Int) (65536 : Int) || !betB (Bl.fast b) (0 : Int) (65536 : Int)) == false) = true → ((!betB (Bl.per b) (1 : Int) (65536 : Int) || !betB (Bl.rim b) (0 : Int) (4194304 : Int) || !betB (Bl.core b) (0 : Int) (Bl.rim b) || !betB (Bl.land b) (0 : Int) (65536 : Int) || !betB (Bl.fast b) (0 : Int) (65536 : Int)) == false) = true) ∧ True) ∧ (((!betB (Bl.per b) (1 : Int) (65536 : Int) || !betB (Bl.rim b) (0 : Int) (4194304 : Int) || !betB (Bl.core b) (0 : Int) (Bl.rim b) || !betB (Bl.land b) (0 : Int) (65536 : Int) || !betB (Bl.fast b) (0 : Int) (65536 : Int)) == false) = true → True)) (V.gd ((!betB (Bl.per b) (1 : Int) (65536 : Int) || !betB (Bl.rim b) (0 : Int) (4194304 : Int) || !betB (Bl.core b) (0 : Int) (Bl.rim b) || !betB (Bl.land b) (0 : Int) (65536 : Int) || !betB (Bl.fast b) (0 : Int) (65536 : Int)) == false) (V.b !betB (Bl.slow b) (0 : Int) (Bl.fast b))), pc (40 : Nat) (True ∧ ((!betB (Bl.per b) (1 : Int) (65536 : Int) || !betB (Bl.rim b) (0 : Int) (4194304 : Int) || !betB (Bl.core b) (0 : Int) (Bl.rim b) || !betB (Bl.land b) (0 : Int) (65536 : Int) || !betB (Bl.fast b) (0 : Int) (65536 : Int)) = false → ((!betB (Bl.per b) (1 : Int) (65536 : Int) || !betB (Bl.rim b) (0 : Int) (4194304 : Int) || !betB (Bl.core b) (0 : Int) (Bl.rim b) || !betB (Bl.land b) (0 : Int) (65536 : Int) || !betB (Bl.fast b) (0 : Int) (65536 : Int)) == false) = true)) (V.b (!betB (Bl.per b) (1 : Int) (65536 : Int) || !betB (Bl.rim b) (0 : Int) (4194304 : Int) || !betB (Bl.core b) (0 : Int) (Bl.rim b) || !betB (Bl.land b) (0 : Int) (65536 : Int) || !betB (Bl.fast b) (0 : Int) (65536 : Int) || !betB (Bl.slow b) (0 : Int) (Bl.fast b)))] kR kR ⟨⟨⟨(by (exact fun h => h)), tI⟩, (fun _ => tI)⟩, ⟨tI, (by (intro h; rw [h]; rfl))⟩, tI⟩ ?_
 refine aops_nil ?_
 refine xt_n ?_
 refine hK _ ?_
 clear hK K
 refine w_cond (t := !betB (Bl.per b) (1 : Int) (65536 : Int) || !betB (Bl.rim b) (0 : Int) (4194304 : Int) || !betB (Bl.core b) (0 : Int) (Bl.rim b) || !betB (Bl.land b) (0 : Int) (65536 : Int) || !betB (Bl.fast b) (0 : Int) (65536 : Int) || !betB (Bl.slow b) (0 : Int) (Bl.fast b)) kR (fun c1 => ?_) (fun c1 => ?_)
 ·
  refine sK fun K hK => ?_
  refine w_region (n' := 4) kR kR ?_
  refine aops_n hTT (M := []) (n := 1) [pv (2 : Nat) (V.i (2 : Int))] kR kR tI ?_
  refine aops_nil ?_
  refine xt_n ?_
  refine hK _ ?_
  clear hK K
  refine aw_ret ?_
  refine xt_r ?_
  have e : blE b = 2 := by
   rw [blE, if_neg]
   intro h
   simp only [Bool.and_eq_true] at h
   simp [h.1.1.1.1.1, h.1.1.1.1.2, h.1.1.1.2, h.1.1.2, h.1.2, h.2] at c1
  rw [e]
  refine ret_pure (v' := V.i (2 : Int)) (.inr rfl) kR kR kR
 ·
  refine aw_skip ?_
  refine xt_n ?_
  refine hK _ ?_
  clear hK K
  refine sK fun K hK => ?_
  refine w_region (n' := 4) kR kR ?_
  refine aops_n hTT (M := []) (n := 1) [pv (2 : Nat) (V.i (0 : Int))] kR kR tI ?_
  refine aops_nil ?_
  refine xt_n ?_
  refine hK _ ?_
  clear hK K
  refine aw_ret ?_
  have e : blE b = 0 := by
   rw [blE, if_pos]
   simpa [and_assoc] using c1
  rw [e]
  refine ret_pure (v' := V.i (0 : Int)) (.inr rfl) kR kR kR
def sdC (b : Bl) (l : List Pt) : List V := b.c ++ [V.pts l, .i b.per]
structure SOk (b : Bl) (l : List Pt) : Prop where
 b0 : blE b = 0
 l0 : gChk l = 0
theorem SOk.bl {b : Bl} {l : List Pt} (h : SOk b l) : b.ok := blE_ok.1 h.b0
theorem SOk.pt {b : Bl} {l : List Pt} (h : SOk b l) (k : Nat) (hk : k < l.length) : (-4194304 ≤ (gp l k).1 ∧ (gp l k).1 ≤ 4194304) ∧ -4194304 ≤ (gp l k).2 ∧ (gp l k).2 ≤ 4194304 := gE_iff.1 ((gChk_ok.1 h.l0).2 k hk)
theorem SOk.len {b : Bl} {l : List Pt} (h : SOk b l) : l.length ≤ 4096 := (gChk_ok.1 h.l0).1
abbrev yyTL14 (l : List Pt) : V := V.sl 2 (List.length l) fun (k : Nat) => [V.i (Prod.fst (gp l k)), V.i (Prod.snd (gp l k))]
abbrev yyTL11 (b : Bl) (l : List Pt) : List V := [V.i (Bl.per b), V.i (Bl.rim b), V.i (Bl.core b), V.i (Bl.land b), V.i (Bl.slow b), V.i (Bl.fast b), (yyTL14 l), V.i (Bl.per b)]
abbrev yyTL10 (b : Bl) (l : List Pt) : V := V.ptr (yyTL11 b l)
abbrev yyTL12 (b : Bl) : V := V.ptr [V.i (Bl.per b), V.i (Bl.rim b), V.i (Bl.core b), V.i (Bl.land b), V.i (Bl.slow b), V.i (Bl.fast b)]
abbrev yyTL13 (b : Bl) : V := V.agg [V.i (Bl.per b), V.i (Bl.rim b), V.i (Bl.core b), V.i (Bl.land b), V.i (Bl.slow b), V.i (Bl.fast b)]
set_option maxRecDepth 100000 in
theorem newSide_ok (b : Bl) (l : List Pt) (h : SOk b l) : AC Tryz.prog 21 [b.v, V.pts l] (.tup [.ptr (sdC b l), .i 0]) [] := by
 have hl := h.len
 refine acI hTT hMX Tryz.func21 Tryz.ntmps21 fun C hC hF => ?_
 refine sK fun K hK => wR 2 ?_
 refine aops_n hTT (M := []) (n := 3) [pv 2 ((yyTL12 b)), pv 4 (V.c (Value.pointer none)), pv 5 (V.i 0)] kR kR tI ?_
 refine nK hK ?_; clear hK K; refine sK fun K hK => sK fun K hK => wR 3 ?_
 refine aops_n hTT (M := []) (n := 1) [pv 8 ((yyTL13 b))] kR kR tI ?_
 refine eC (lCheck_ac b) ?_
 rw [h.b0]
 refine aops_n hTT (M := []) (n := 1) [pv 6 (V.i 0)] kR kR tI ?_
 refine nK hK ?_; clear hK K; refine sK fun K hK => wR 4 ?_
 refine aops_n hTT (M := []) (n := 2) [pv 10 (V.i 0), pv 11 (V.b false)] kR kR tI ?_
 refine nK hK ?_; clear hK K; refine w_false (t := false) kR rfl ?_
 refine aw_skip ?_
 refine xt_n (hK _ ?_); clear hK K; refine sK fun K hK => sK fun K hK => wR 5 ?_
 refine aops_n hTT (M := []) (n := 1) [pv 13 ((yyTL14 l))] kR kR tI ?_
 refine eC (gCheckPoints_ac l oM) ?_
 rw [h.l0]
 refine aops_n hTT (M := []) (n := 1) [pv 7 (V.i 0)] kR kR tI ?_
 refine nK hK ?_; clear hK K; refine sK fun K hK => wR 6 ?_
 refine aops_n hTT (M := []) (n := 2) [pv 15 (V.i 0), pv 16 (V.b false)] kR kR tI ?_
 refine nK hK ?_; clear hK K; refine w_false (t := false) kR rfl ?_
 refine aw_skip ?_
 refine xt_n (hK _ ?_); clear hK K; refine sK fun K hK => wR 7 ?_
 refine aops_n hTT (M := []) (n := 8) [pv 18 ((yyTL13 b)), pv 19 ((yyTL14 l)), pv 20 ((yyTL12 b)), pv 21 (V.i (Bl.per b)), pv 22 (V.agg (yyTL11 b l)), pv 23 ((yyTL10 b l)), pv 4 ((yyTL10 b l)), pv 5 (V.i 0)] kR kR tI ?_
 refine nK hK ?_; clear hK K
 refine aw_ret ?_
 refine rP (V.tup [(yyTL10 b l), V.i 0])
def edC (e : BE) : List V := [.i e.rule, .i e.at', .i e.f, .i e.t, .i e.w]
def rimC (b : Bl) (l : List Pt) (i : Nat) : List V := [.i 1, .i i, .i (-1), .i i, .i (rimI b l i)]
abbrev yyTL15 (b : Bl) (l : List Pt) : V := V.ptr [(yyTL14 l), V.i (Bl.per b)]
abbrev yyTL16 (b : Bl) (l : List Pt) (i : Nat) : List V := [V.i 1, V.i (↑i : Int), V.i (-1), V.i (↑i : Int), V.i (Bl.rim b - Prod.snd (gp l i))]
set_option maxRecDepth 100000 in
theorem edge1_ac (b : Bl) (l : List Pt) (h : SOk b l) (i : Nat) (hi : i < l.length) : AC Tryz.prog 37 [.ptr (sdC b l), .i 1, .i i] (.tup [.agg (rimC b l i), .b true]) [] := by
 obtain ⟨⟨q1, q2⟩, ⟨q3, q4⟩, ⟨q5, q6⟩, ⟨q7, q8⟩, ⟨q9, q10⟩, q11, q12⟩ := h.bl
 obtain ⟨⟨p1, p2⟩, p3, p4⟩ := h.pt i hi
 have hl := h.len
 refine acI hTT hMX Tryz.func37 Tryz.ntmps37 fun C hC hF => ?_
 refine sK fun K hK => wR 2 ?_
 refine aops_n hTT (M := []) (n := 2) [pn 6 (V.ref 100006 0) (100006 : Nat) (Ob.box 120 [V.i 0, V.i 0, V.i 0, V.i 0, V.i 0]), pv 7 (V.b false)] kR kR tI ?_
 refine nK hK ?_; clear hK K; refine sK fun K hK => wR 3 ?_
 refine aops_n hTT (M := []) (n := 8) [pv 10 (V.i 1), pv 11 (V.i (↑i : Int)), pv 12 (V.agg [V.i 1, V.i (↑i : Int)]), pv 13 (V.i (↑i : Int)), pv 14 (V.i (↑i : Int)), pv 15 (V.agg [V.i 1, V.i (↑i : Int), V.i (↑i : Int), V.i (↑i : Int), V.i 0]), pn 8 (V.ref 200008 0) (200008 : Nat) (Ob.box 120 [V.i 0, V.i 0, V.i 0, V.i 0, V.i 0]), pw ((0 : Nat) + (5 : Nat) ≤ (5 : Nat)) (200008 : Nat) (Ob.box 120 [V.i 1, V.i (↑i : Int), V.i (↑i : Int), V.i (↑i : Int), V.i 0])] kR kR ⟨oM, tI⟩ ?_
 refine nK hK ?_; clear hK K; refine sK fun K hK => sK fun K hK => wR 4 ?_
 refine aops_n hTT (M := []) (n := 11) [pv 16 (V.i (↑i : Int)), pv 17 (V.b (decide ((↑i : Int) < 0))), pv 18 (V.b (decide ((↑i : Int) < 0))), pc 19 ((True ∧ True) ∧ ((decide ((↑i : Int) < 0) == false) = true → True)) (V.gd (decide ((↑i : Int) < 0) == false) (V.i (↑i : Int))), pc 20 ((True ∧ True) ∧ ((decide ((↑i : Int) < 0) == false) = true → True)) (V.gd (decide ((↑i : Int) < 0) == false) ((yyTL10 b l))), pc 21 ((((decide ((↑i : Int) < 0) == false) = true → (decide ((↑i : Int) < 0) == false) = true) ∧ True) ∧ ((decide ((↑i : Int) < 0) == false) = true → True)) (V.gd (decide ((↑i : Int) < 0) == false) ((yyTL10 b l))), pc 22 ((((decide ((↑i : Int) < 0) == false) = true → (decide ((↑i : Int) < 0) == false) = true) ∧ True) ∧ ((decide ((↑i : Int) < 0) == false) = true → True)) (V.gd (decide ((↑i : Int) < 0) == false) ((yyTL15 b l))), pc 23 ((((decide ((↑i : Int) < 0) == false) = true → (decide ((↑i : Int) < 0) == false) = true) ∧ True) ∧ ((decide ((↑i : Int) < 0) == false) = true → True)) (V.gd (decide ((↑i : Int) < 0) == false) ((yyTL14 l))), pc 24 ((((decide ((↑i : Int) < 0) == false) = true → (decide ((↑i : Int) < 0) == false) = true) ∧ True) ∧ ((decide ((↑i : Int) < 0) == false) = true → True)) (V.gd (decide ((↑i : Int) < 0) == false) (V.i (↑(List.length l) : Int))), pc 25 ((((decide ((↑i : Int) < 0) == false) = true → (decide ((↑i : Int) < 0) == false) = true) ∧ ((decide ((↑i : Int) < 0) == false) = true → (decide ((↑i : Int) < 0) == false) = true) ∧ True) ∧ ((decide ((↑i : Int) < 0) == false) = true → True)) (V.gd (decide ((↑i : Int) < 0) == false) (V.b (decide ((↑(List.length l) : Int) ≤ (↑i : Int))))), pc 26 (True ∧ (decide ((↑i : Int) < 0) = false → (decide ((↑i : Int) < 0) == false) = true)) (V.b (decide ((↑i : Int) < 0) || decide ((↑(List.length l) : Int) ≤ (↑i : Int))))] kR kR ⟨⟨⟨tI, tI⟩, (fun _ => tI)⟩, ⟨⟨tI, tI⟩, (fun _ => tI)⟩, ⟨⟨(by (exact fun h => h)), tI⟩, (fun _ => tI)⟩, ⟨⟨(by (exact fun h => h)), tI⟩, (fun _ => tI)⟩, ⟨⟨(by (exact fun h => h)), tI⟩, (fun _ => tI)⟩, ⟨⟨(by (exact fun h => h)), tI⟩, (fun _ => tI)⟩, ⟨⟨(by (exact fun h => h)), ⟨(by (exact fun h => h)), tI⟩⟩, (fun _ => tI)⟩, ⟨tI, (by (intro h; rw [h]; rfl))⟩, tI⟩ ?_
 refine nK hK ?_; clear hK K
 refine w_cond (t := decide ((↑i : Int) < 0) || decide ((↑(List.length l) : Int) ≤ (↑i : Int))) kR (fun c1 => ?_) (fun c1 => ?_)
 ·
  simp at c1
  omega
 clear c1
 refine aw_skip ?_
 refine xt_n (hK _ ?_); clear hK K; refine sK fun K hK => wR 5 ?_
 refine aops_n hTT (M := []) (n := 9) [pv 28 ((yyTL10 b l)), pv 29 ((yyTL10 b l)), pv 30 ((yyTL15 b l)), pv 31 ((yyTL14 l)), pv 32 (V.i (↑i : Int)), pc 33 ((0 : Int) ≤ (↑i : Int) ∧ (↑i : Int) < (↑(List.length l) : Int)) (V.ptr [V.i (Prod.fst (gp l i)), V.i (Prod.snd (gp l i))]), pv 34 (V.agg [V.i (Prod.fst (gp l i)), V.i (Prod.snd (gp l i))]), pn 9 (V.ref 400009 0) (400009 : Nat) (Ob.box 57 [V.i 0, V.i 0]), pw ((0 : Nat) + (2 : Nat) ≤ (2 : Nat)) (400009 : Nat) (Ob.box 57 [V.i (Prod.fst (gp l i)), V.i (Prod.snd (gp l i))])] kR kR ⟨oM, oM, tI⟩ ?_
 refine nK hK ?_; clear hK K; refine sK fun K hK => sK fun K hK => wR 6 ?_
 refine aops_n hTT (M := []) (n := 1) [pv 35 (V.i 1)] kR kR tI ?_
 refine nK hK ?_; clear hK K
 refine aw_block ?_
 refine sK fun K hK => wR 7 ?_
 refine aops_n hTT (M := []) (n := 2) [pv 38 (V.b true), pv 37 (V.b true)] kR kR tI ?_
 refine nK hK ?_; clear hK K; refine w_true (t := true) kR rfl (wD 8 ?_)
 refine aops_n hTT (M := []) (n := 12) [pv 39 ((yyTL10 b l)), pv 40 ((yyTL10 b l)), pv 41 ((yyTL10 b l)), pv 42 (V.ptr [V.i (Bl.rim b), V.i (Bl.core b), V.i (Bl.land b), V.i (Bl.slow b), V.i (Bl.fast b), (yyTL14 l), V.i (Bl.per b)]), pv 43 (V.i (Bl.rim b)), pv 44 (V.ref 400009 1), pc 45 ((1 : Nat) ≤ (2 : Nat)) (V.i (Prod.snd (gp l i))), pc 46 ((-9223372036854775808 : Int) ≤ Bl.rim b - Prod.snd (gp l i) ∧ Bl.rim b - Prod.snd (gp l i) ≤ 9223372036854775807) (V.i (Bl.rim b - Prod.snd (gp l i))), pv 47 (V.ref 200008 2), pw ((2 : Nat) + (1 : Nat) ≤ (5 : Nat)) (200008 : Nat) (Ob.box 120 [V.i 1, V.i (↑i : Int), V.i (-1), V.i (↑i : Int), V.i 0]), pv 48 (V.ref 200008 4), pw ((4 : Nat) + (1 : Nat) ≤ (5 : Nat)) (200008 : Nat) (Ob.box 120 (yyTL16 b l i))] kR kR ⟨oM, oM, oM, oM, tI⟩ ?_
 refine aops_nil ⟨kR, (xb_n (xt_n (hK _ ?_)))⟩; clear hK K; refine sK fun K hK => wR 9 ?_
 refine aops_n hTT (M := []) (n := 3) [pc 129 ((0 : Nat) ≤ (5 : Nat)) (V.agg (yyTL16 b l i)), pw ((0 : Nat) + (5 : Nat) ≤ (5 : Nat)) (100006 : Nat) (Ob.box 120 (yyTL16 b l i)), pv 7 (V.b true)] kR kR ⟨oM, oM, tI⟩ ?_
 refine nK hK ?_; clear hK K
 refine aw_ret ?_
 refine rP (V.tup [V.agg (yyTL16 b l i), V.b true])
abbrev yyTL17 (b : Bl) (l : List Pt) (i : Nat) : List V := [V.i 2, V.i (↑i : Int), V.i (↑i : Int), V.i (-1), V.i (Prod.fst (gp l i) - Bl.core b)]
set_option maxRecDepth 100000 in
theorem edge2_ac (b : Bl) (l : List Pt) (h : SOk b l) (i : Nat) (hi : i < l.length) : AC Tryz.prog 37 [.ptr (sdC b l), .i 2, .i i] (.tup [.agg [.i 2, .i i, .i i, .i (-1), .i ((gp l i).1 - b.core)], .b true]) [] := by
 obtain ⟨⟨q1, q2⟩, ⟨q3, q4⟩, ⟨q5, q6⟩, ⟨q7, q8⟩, ⟨q9, q10⟩, q11, q12⟩ := h.bl
 obtain ⟨⟨p1, p2⟩, p3, p4⟩ := h.pt i hi
 have hl := h.len
 refine acI hTT hMX Tryz.func37 Tryz.ntmps37 fun C hC hF => ?_
 refine sK fun K hK => wR 2 ?_
 refine aops_n hTT (M := []) (n := 2) [pn 6 (V.ref 100006 0) (100006 : Nat) (Ob.box 120 [V.i 0, V.i 0, V.i 0, V.i 0, V.i 0]), pv 7 (V.b false)] kR kR tI ?_
 refine nK hK ?_; clear hK K; refine sK fun K hK => wR 3 ?_
 refine aops_n hTT (M := []) (n := 8) [pv 10 (V.i 2), pv 11 (V.i (↑i : Int)), pv 12 (V.agg [V.i 2, V.i (↑i : Int)]), pv 13 (V.i (↑i : Int)), pv 14 (V.i (↑i : Int)), pv 15 (V.agg [V.i 2, V.i (↑i : Int), V.i (↑i : Int), V.i (↑i : Int), V.i 0]), pn 8 (V.ref 200008 0) (200008 : Nat) (Ob.box 120 [V.i 0, V.i 0, V.i 0, V.i 0, V.i 0]), pw ((0 : Nat) + (5 : Nat) ≤ (5 : Nat)) (200008 : Nat) (Ob.box 120 [V.i 2, V.i (↑i : Int), V.i (↑i : Int), V.i (↑i : Int), V.i 0])] kR kR ⟨oM, tI⟩ ?_
 refine nK hK ?_; clear hK K; refine sK fun K hK => sK fun K hK => wR 4 ?_
 refine aops_n hTT (M := []) (n := 11) [pv 16 (V.i (↑i : Int)), pv 17 (V.b (decide ((↑i : Int) < 0))), pv 18 (V.b (decide ((↑i : Int) < 0))), pc 19 ((True ∧ True) ∧ ((decide ((↑i : Int) < 0) == false) = true → True)) (V.gd (decide ((↑i : Int) < 0) == false) (V.i (↑i : Int))), pc 20 ((True ∧ True) ∧ ((decide ((↑i : Int) < 0) == false) = true → True)) (V.gd (decide ((↑i : Int) < 0) == false) ((yyTL10 b l))), pc 21 ((((decide ((↑i : Int) < 0) == false) = true → (decide ((↑i : Int) < 0) == false) = true) ∧ True) ∧ ((decide ((↑i : Int) < 0) == false) = true → True)) (V.gd (decide ((↑i : Int) < 0) == false) ((yyTL10 b l))), pc 22 ((((decide ((↑i : Int) < 0) == false) = true → (decide ((↑i : Int) < 0) == false) = true) ∧ True) ∧ ((decide ((↑i : Int) < 0) == false) = true → True)) (V.gd (decide ((↑i : Int) < 0) == false) ((yyTL15 b l))), pc 23 ((((decide ((↑i : Int) < 0) == false) = true → (decide ((↑i : Int) < 0) == false) = true) ∧ True) ∧ ((decide ((↑i : Int) < 0) == false) = true → True)) (V.gd (decide ((↑i : Int) < 0) == false) ((yyTL14 l))), pc 24 ((((decide ((↑i : Int) < 0) == false) = true → (decide ((↑i : Int) < 0) == false) = true) ∧ True) ∧ ((decide ((↑i : Int) < 0) == false) = true → True)) (V.gd (decide ((↑i : Int) < 0) == false) (V.i (↑(List.length l) : Int))), pc 25 ((((decide ((↑i : Int) < 0) == false) = true → (decide ((↑i : Int) < 0) == false) = true) ∧ ((decide ((↑i : Int) < 0) == false) = true → (decide ((↑i : Int) < 0) == false) = true) ∧ True) ∧ ((decide ((↑i : Int) < 0) == false) = true → True)) (V.gd (decide ((↑i : Int) < 0) == false) (V.b (decide ((↑(List.length l) : Int) ≤ (↑i : Int))))), pc 26 (True ∧ (decide ((↑i : Int) < 0) = false → (decide ((↑i : Int) < 0) == false) = true)) (V.b (decide ((↑i : Int) < 0) || decide ((↑(List.length l) : Int) ≤ (↑i : Int))))] kR kR ⟨⟨⟨tI, tI⟩, (fun _ => tI)⟩, ⟨⟨tI, tI⟩, (fun _ => tI)⟩, ⟨⟨(by (exact fun h => h)), tI⟩, (fun _ => tI)⟩, ⟨⟨(by (exact fun h => h)), tI⟩, (fun _ => tI)⟩, ⟨⟨(by (exact fun h => h)), tI⟩, (fun _ => tI)⟩, ⟨⟨(by (exact fun h => h)), tI⟩, (fun _ => tI)⟩, ⟨⟨(by (exact fun h => h)), ⟨(by (exact fun h => h)), tI⟩⟩, (fun _ => tI)⟩, ⟨tI, (by (intro h; rw [h]; rfl))⟩, tI⟩ ?_
 refine nK hK ?_; clear hK K
 refine w_cond (t := decide ((↑i : Int) < 0) || decide ((↑(List.length l) : Int) ≤ (↑i : Int))) kR (fun c1 => ?_) (fun c1 => ?_)
 ·
  simp at c1
  omega
 clear c1
 refine aw_skip ?_
 refine xt_n (hK _ ?_); clear hK K; refine sK fun K hK => wR 5 ?_
 refine aops_n hTT (M := []) (n := 9) [pv 28 ((yyTL10 b l)), pv 29 ((yyTL10 b l)), pv 30 ((yyTL15 b l)), pv 31 ((yyTL14 l)), pv 32 (V.i (↑i : Int)), pc 33 ((0 : Int) ≤ (↑i : Int) ∧ (↑i : Int) < (↑(List.length l) : Int)) (V.ptr [V.i (Prod.fst (gp l i)), V.i (Prod.snd (gp l i))]), pv 34 (V.agg [V.i (Prod.fst (gp l i)), V.i (Prod.snd (gp l i))]), pn 9 (V.ref 400009 0) (400009 : Nat) (Ob.box 57 [V.i 0, V.i 0]), pw ((0 : Nat) + (2 : Nat) ≤ (2 : Nat)) (400009 : Nat) (Ob.box 57 [V.i (Prod.fst (gp l i)), V.i (Prod.snd (gp l i))])] kR kR ⟨oM, oM, tI⟩ ?_
 refine nK hK ?_; clear hK K; refine sK fun K hK => sK fun K hK => wR 6 ?_
 refine aops_n hTT (M := []) (n := 1) [pv 35 (V.i 2)] kR kR tI ?_
 refine nK hK ?_; clear hK K
 refine aw_block ?_
 refine sK fun K hK => wR 7 ?_
 refine aops_n hTT (M := []) (n := 2) [pv 38 (V.b false), pv 37 (V.b false)] kR kR tI ?_
 refine nK hK ?_; clear hK K; refine w_false (t := false) kR rfl (sK fun K hK => wR 8 ?_)
 refine aops_n hTT (M := []) (n := 2) [pv 50 (V.b true), pv 49 (V.b true)] kR kR tI ?_
 refine nK hK ?_; clear hK K; refine w_true (t := true) kR rfl (wD 9 ?_)
 refine aops_n hTT (M := []) (n := 12) [pv 51 (V.ref 400009 0), pc 52 ((0 : Nat) ≤ (2 : Nat)) (V.i (Prod.fst (gp l i))), pv 53 ((yyTL10 b l)), pv 54 ((yyTL10 b l)), pv 55 ((yyTL10 b l)), pv 56 (V.ptr [V.i (Bl.core b), V.i (Bl.land b), V.i (Bl.slow b), V.i (Bl.fast b), (yyTL14 l), V.i (Bl.per b)]), pv 57 (V.i (Bl.core b)), pc 58 ((-9223372036854775808 : Int) ≤ Prod.fst (gp l i) - Bl.core b ∧ Prod.fst (gp l i) - Bl.core b ≤ 9223372036854775807) (V.i (Prod.fst (gp l i) - Bl.core b)), pv 59 (V.ref 200008 3), pw ((3 : Nat) + (1 : Nat) ≤ (5 : Nat)) (200008 : Nat) (Ob.box 120 [V.i 2, V.i (↑i : Int), V.i (↑i : Int), V.i (-1), V.i 0]), pv 60 (V.ref 200008 4), pw ((4 : Nat) + (1 : Nat) ≤ (5 : Nat)) (200008 : Nat) (Ob.box 120 (yyTL17 b l i))] kR kR ⟨oM, oM, oM, oM, tI⟩ ?_
 refine aops_nil ⟨kR, (xb_n (xt_n (hK _ ?_)))⟩; clear hK K; refine sK fun K hK => wR 10 ?_
 refine aops_n hTT (M := []) (n := 3) [pc 129 ((0 : Nat) ≤ (5 : Nat)) (V.agg (yyTL17 b l i)), pw ((0 : Nat) + (5 : Nat) ≤ (5 : Nat)) (100006 : Nat) (Ob.box 120 (yyTL17 b l i)), pv 7 (V.b true)] kR kR ⟨oM, oM, tI⟩ ?_
 refine nK hK ?_; clear hK K
 refine aw_ret ?_
 refine rP (V.tup [V.agg (yyTL17 b l i), V.b true])
abbrev yyTL18 (b : Bl) (i : Nat) : List V := [V.i 3, V.i (↑i : Int), V.i ((↑i : Int) - 1), V.i (↑i : Int), V.i (-Bl.slow b)]
set_option maxRecDepth 100000 in
theorem edge3_ac (b : Bl) (l : List Pt) (h : SOk b l) (i : Nat) (hi : i < l.length) (h0 : 0 < i) : AC Tryz.prog 37 [.ptr (sdC b l), .i 3, .i i] (.tup [.agg (edC (slowE b i)), .b true]) [] := by
 obtain ⟨⟨q1, q2⟩, ⟨q3, q4⟩, ⟨q5, q6⟩, ⟨q7, q8⟩, ⟨q9, q10⟩, q11, q12⟩ := h.bl
 obtain ⟨⟨p1, p2⟩, p3, p4⟩ := h.pt i hi
 have hl := h.len
 have e1 : ((i - 1 : Nat) : Int) = (i : Int) - 1 := by omega
 refine acI hTT hMX Tryz.func37 Tryz.ntmps37 fun C hC hF => ?_
 refine sK fun K hK => wR 2 ?_
 refine aops_n hTT (M := []) (n := 2) [pn 6 (V.ref 100006 0) (100006 : Nat) (Ob.box 120 [V.i 0, V.i 0, V.i 0, V.i 0, V.i 0]), pv 7 (V.b false)] kR kR tI ?_
 refine nK hK ?_; clear hK K; refine sK fun K hK => wR 3 ?_
 refine aops_n hTT (M := []) (n := 8) [pv 10 (V.i 3), pv 11 (V.i (↑i : Int)), pv 12 (V.agg [V.i 3, V.i (↑i : Int)]), pv 13 (V.i (↑i : Int)), pv 14 (V.i (↑i : Int)), pv 15 (V.agg [V.i 3, V.i (↑i : Int), V.i (↑i : Int), V.i (↑i : Int), V.i 0]), pn 8 (V.ref 200008 0) (200008 : Nat) (Ob.box 120 [V.i 0, V.i 0, V.i 0, V.i 0, V.i 0]), pw ((0 : Nat) + (5 : Nat) ≤ (5 : Nat)) (200008 : Nat) (Ob.box 120 [V.i 3, V.i (↑i : Int), V.i (↑i : Int), V.i (↑i : Int), V.i 0])] kR kR ⟨oM, tI⟩ ?_
 refine nK hK ?_; clear hK K; refine sK fun K hK => sK fun K hK => wR 4 ?_
 refine aops_n hTT (M := []) (n := 11) [pv 16 (V.i (↑i : Int)), pv 17 (V.b (decide ((↑i : Int) < 0))), pv 18 (V.b (decide ((↑i : Int) < 0))), pc 19 ((True ∧ True) ∧ ((decide ((↑i : Int) < 0) == false) = true → True)) (V.gd (decide ((↑i : Int) < 0) == false) (V.i (↑i : Int))), pc 20 ((True ∧ True) ∧ ((decide ((↑i : Int) < 0) == false) = true → True)) (V.gd (decide ((↑i : Int) < 0) == false) ((yyTL10 b l))), pc 21 ((((decide ((↑i : Int) < 0) == false) = true → (decide ((↑i : Int) < 0) == false) = true) ∧ True) ∧ ((decide ((↑i : Int) < 0) == false) = true → True)) (V.gd (decide ((↑i : Int) < 0) == false) ((yyTL10 b l))), pc 22 ((((decide ((↑i : Int) < 0) == false) = true → (decide ((↑i : Int) < 0) == false) = true) ∧ True) ∧ ((decide ((↑i : Int) < 0) == false) = true → True)) (V.gd (decide ((↑i : Int) < 0) == false) ((yyTL15 b l))), pc 23 ((((decide ((↑i : Int) < 0) == false) = true → (decide ((↑i : Int) < 0) == false) = true) ∧ True) ∧ ((decide ((↑i : Int) < 0) == false) = true → True)) (V.gd (decide ((↑i : Int) < 0) == false) ((yyTL14 l))), pc 24 ((((decide ((↑i : Int) < 0) == false) = true → (decide ((↑i : Int) < 0) == false) = true) ∧ True) ∧ ((decide ((↑i : Int) < 0) == false) = true → True)) (V.gd (decide ((↑i : Int) < 0) == false) (V.i (↑(List.length l) : Int))), pc 25 ((((decide ((↑i : Int) < 0) == false) = true → (decide ((↑i : Int) < 0) == false) = true) ∧ ((decide ((↑i : Int) < 0) == false) = true → (decide ((↑i : Int) < 0) == false) = true) ∧ True) ∧ ((decide ((↑i : Int) < 0) == false) = true → True)) (V.gd (decide ((↑i : Int) < 0) == false) (V.b (decide ((↑(List.length l) : Int) ≤ (↑i : Int))))), pc 26 (True ∧ (decide ((↑i : Int) < 0) = false → (decide ((↑i : Int) < 0) == false) = true)) (V.b (decide ((↑i : Int) < 0) || decide ((↑(List.length l) : Int) ≤ (↑i : Int))))] kR kR ⟨⟨⟨tI, tI⟩, (fun _ => tI)⟩, ⟨⟨tI, tI⟩, (fun _ => tI)⟩, ⟨⟨(by (exact fun h => h)), tI⟩, (fun _ => tI)⟩, ⟨⟨(by (exact fun h => h)), tI⟩, (fun _ => tI)⟩, ⟨⟨(by (exact fun h => h)), tI⟩, (fun _ => tI)⟩, ⟨⟨(by (exact fun h => h)), tI⟩, (fun _ => tI)⟩, ⟨⟨(by (exact fun h => h)), ⟨(by (exact fun h => h)), tI⟩⟩, (fun _ => tI)⟩, ⟨tI, (by (intro h; rw [h]; rfl))⟩, tI⟩ ?_
 refine nK hK ?_; clear hK K
 refine w_cond (t := decide ((↑i : Int) < 0) || decide ((↑(List.length l) : Int) ≤ (↑i : Int))) kR (fun c1 => ?_) (fun c1 => ?_)
 ·
  simp at c1
  omega
 clear c1
 refine aw_skip ?_
 refine xt_n (hK _ ?_); clear hK K; refine sK fun K hK => wR 5 ?_
 refine aops_n hTT (M := []) (n := 9) [pv 28 ((yyTL10 b l)), pv 29 ((yyTL10 b l)), pv 30 ((yyTL15 b l)), pv 31 ((yyTL14 l)), pv 32 (V.i (↑i : Int)), pc 33 ((0 : Int) ≤ (↑i : Int) ∧ (↑i : Int) < (↑(List.length l) : Int)) (V.ptr [V.i (Prod.fst (gp l i)), V.i (Prod.snd (gp l i))]), pv 34 (V.agg [V.i (Prod.fst (gp l i)), V.i (Prod.snd (gp l i))]), pn 9 (V.ref 400009 0) (400009 : Nat) (Ob.box 57 [V.i 0, V.i 0]), pw ((0 : Nat) + (2 : Nat) ≤ (2 : Nat)) (400009 : Nat) (Ob.box 57 [V.i (Prod.fst (gp l i)), V.i (Prod.snd (gp l i))])] kR kR ⟨oM, oM, tI⟩ ?_
 refine nK hK ?_; clear hK K; refine sK fun K hK => sK fun K hK => wR 6 ?_
 refine aops_n hTT (M := []) (n := 1) [pv 35 (V.i 3)] kR kR tI ?_
 refine nK hK ?_; clear hK K
 refine aw_block ?_
 refine sK fun K hK => wR 7 ?_
 refine aops_n hTT (M := []) (n := 2) [pv 38 (V.b false), pv 37 (V.b false)] kR kR tI ?_
 refine nK hK ?_; clear hK K; refine w_false (t := false) kR rfl (sK fun K hK => wR 8 ?_)
 refine aops_n hTT (M := []) (n := 2) [pv 50 (V.b false), pv 49 (V.b false)] kR kR tI ?_
 refine nK hK ?_; clear hK K; refine w_false (t := false) kR rfl (sK fun K hK => wR 9 ?_)
 refine aops_n hTT (M := []) (n := 2) [pv 62 (V.b true), pv 61 (V.b true)] kR kR tI ?_
 refine nK hK ?_; clear hK K; refine w_true (t := true) kR rfl (sK fun K hK => wD 10 ?_)
 refine aops_n hTT (M := []) (n := 12) [pv 63 (V.i (↑i : Int)), pc 64 ((-9223372036854775808 : Int) ≤ (↑i : Int) - 1 ∧ (↑i : Int) - 1 ≤ (9223372036854775807 : Int)) (V.i ((↑i : Int) - 1)), pv 65 ((yyTL10 b l)), pv 66 ((yyTL10 b l)), pv 67 ((yyTL10 b l)), pv 68 (V.ptr [V.i (Bl.slow b), V.i (Bl.fast b), (yyTL14 l), V.i (Bl.per b)]), pv 69 (V.i (Bl.slow b)), pc 70 ((-9223372036854775808 : Int) ≤ -Bl.slow b ∧ -Bl.slow b ≤ 9223372036854775807) (V.i (-Bl.slow b)), pv 71 (V.ref 200008 2), pw ((2 : Nat) + (1 : Nat) ≤ (5 : Nat)) (200008 : Nat) (Ob.box 120 [V.i 3, V.i (↑i : Int), V.i ((↑i : Int) - 1), V.i (↑i : Int), V.i 0]), pv 72 (V.ref 200008 4), pw ((4 : Nat) + (1 : Nat) ≤ (5 : Nat)) (200008 : Nat) (Ob.box 120 (yyTL18 b i))] kR kR ⟨oM, oM, oM, oM, tI⟩ ?_
 refine aops_nil ⟨kR, (xt_n (hK _ ?_))⟩; clear hK K; refine sK fun K hK => wR 11 ?_
 refine aops_n hTT (M := []) (n := 5) [pc 73 ((0 : Nat) ≤ (5 : Nat)) (V.agg (yyTL18 b i)), pv 74 (V.i (↑i : Int)), pv 75 (V.b (decide ((0 : Int) < (↑i : Int)))), pw ((0 : Nat) + (5 : Nat) ≤ (5 : Nat)) (100006 : Nat) (Ob.box 120 (yyTL18 b i)), pv 7 (V.b (decide ((0 : Int) < (↑i : Int))))] kR kR ⟨oM, oM, tI⟩ ?_
 refine nK hK ?_; clear hK K
 refine aw_ret ?_
 refine xb_r ?_
 refine xt_r ?_
 rw [edC, slowE, e1]
 refine ret_pure (v' := V.tup [V.agg (yyTL18 b i), V.b (decide ((0 : Int) < (↑i : Int)))]) (.inr rfl) kR ?_ kR
 simpa using h0
set_option maxRecDepth 100000 in
theorem edge3z_ac (b : Bl) (l : List Pt) (h : SOk b l) (i : Nat) (hi : i < l.length) (h0 : i = 0) : AC Tryz.prog 37 [.ptr (sdC b l), .i 3, .i i] (.tup [.agg [.i 3, .i i, .i ((i : Int) - 1), .i i, .i (-b.slow)], .b false]) [] := by
 obtain ⟨⟨q1, q2⟩, ⟨q3, q4⟩, ⟨q5, q6⟩, ⟨q7, q8⟩, ⟨q9, q10⟩, q11, q12⟩ := h.bl
 obtain ⟨⟨p1, p2⟩, p3, p4⟩ := h.pt i hi
 have hl := h.len
 refine acI hTT hMX Tryz.func37 Tryz.ntmps37 fun C hC hF => ?_
 refine sK fun K hK => wR 2 ?_
 refine aops_n hTT (M := []) (n := 2) [pn 6 (V.ref 100006 0) (100006 : Nat) (Ob.box 120 [V.i 0, V.i 0, V.i 0, V.i 0, V.i 0]), pv 7 (V.b false)] kR kR tI ?_
 refine nK hK ?_; clear hK K; refine sK fun K hK => wR 3 ?_
 refine aops_n hTT (M := []) (n := 8) [pv 10 (V.i 3), pv 11 (V.i (↑i : Int)), pv 12 (V.agg [V.i 3, V.i (↑i : Int)]), pv 13 (V.i (↑i : Int)), pv 14 (V.i (↑i : Int)), pv 15 (V.agg [V.i 3, V.i (↑i : Int), V.i (↑i : Int), V.i (↑i : Int), V.i 0]), pn 8 (V.ref 200008 0) (200008 : Nat) (Ob.box 120 [V.i 0, V.i 0, V.i 0, V.i 0, V.i 0]), pw ((0 : Nat) + (5 : Nat) ≤ (5 : Nat)) (200008 : Nat) (Ob.box 120 [V.i 3, V.i (↑i : Int), V.i (↑i : Int), V.i (↑i : Int), V.i 0])] kR kR ⟨oM, tI⟩ ?_
 refine nK hK ?_; clear hK K; refine sK fun K hK => sK fun K hK => wR 4 ?_
 refine aops_n hTT (M := []) (n := 11) [pv 16 (V.i (↑i : Int)), pv 17 (V.b (decide ((↑i : Int) < 0))), pv 18 (V.b (decide ((↑i : Int) < 0))), pc 19 ((True ∧ True) ∧ ((decide ((↑i : Int) < 0) == false) = true → True)) (V.gd (decide ((↑i : Int) < 0) == false) (V.i (↑i : Int))), pc 20 ((True ∧ True) ∧ ((decide ((↑i : Int) < 0) == false) = true → True)) (V.gd (decide ((↑i : Int) < 0) == false) ((yyTL10 b l))), pc 21 ((((decide ((↑i : Int) < 0) == false) = true → (decide ((↑i : Int) < 0) == false) = true) ∧ True) ∧ ((decide ((↑i : Int) < 0) == false) = true → True)) (V.gd (decide ((↑i : Int) < 0) == false) ((yyTL10 b l))), pc 22 ((((decide ((↑i : Int) < 0) == false) = true → (decide ((↑i : Int) < 0) == false) = true) ∧ True) ∧ ((decide ((↑i : Int) < 0) == false) = true → True)) (V.gd (decide ((↑i : Int) < 0) == false) ((yyTL15 b l))), pc 23 ((((decide ((↑i : Int) < 0) == false) = true → (decide ((↑i : Int) < 0) == false) = true) ∧ True) ∧ ((decide ((↑i : Int) < 0) == false) = true → True)) (V.gd (decide ((↑i : Int) < 0) == false) ((yyTL14 l))), pc 24 ((((decide ((↑i : Int) < 0) == false) = true → (decide ((↑i : Int) < 0) == false) = true) ∧ True) ∧ ((decide ((↑i : Int) < 0) == false) = true → True)) (V.gd (decide ((↑i : Int) < 0) == false) (V.i (↑(List.length l) : Int))), pc 25 ((((decide ((↑i : Int) < 0) == false) = true → (decide ((↑i : Int) < 0) == false) = true) ∧ ((decide ((↑i : Int) < 0) == false) = true → (decide ((↑i : Int) < 0) == false) = true) ∧ True) ∧ ((decide ((↑i : Int) < 0) == false) = true → True)) (V.gd (decide ((↑i : Int) < 0) == false) (V.b (decide ((↑(List.length l) : Int) ≤ (↑i : Int))))), pc 26 (True ∧ (decide ((↑i : Int) < 0) = false → (decide ((↑i : Int) < 0) == false) = true)) (V.b (decide ((↑i : Int) < 0) || decide ((↑(List.length l) : Int) ≤ (↑i : Int))))] kR kR ⟨⟨⟨tI, tI⟩, (fun _ => tI)⟩, ⟨⟨tI, tI⟩, (fun _ => tI)⟩, ⟨⟨(by (exact fun h => h)), tI⟩, (fun _ => tI)⟩, ⟨⟨(by (exact fun h => h)), tI⟩, (fun _ => tI)⟩, ⟨⟨(by (exact fun h => h)), tI⟩, (fun _ => tI)⟩, ⟨⟨(by (exact fun h => h)), tI⟩, (fun _ => tI)⟩, ⟨⟨(by (exact fun h => h)), ⟨(by (exact fun h => h)), tI⟩⟩, (fun _ => tI)⟩, ⟨tI, (by (intro h; rw [h]; rfl))⟩, tI⟩ ?_
 refine nK hK ?_; clear hK K
 refine w_cond (t := decide ((↑i : Int) < 0) || decide ((↑(List.length l) : Int) ≤ (↑i : Int))) kR (fun c1 => ?_) (fun c1 => ?_)
 ·
  simp at c1
  omega
 clear c1
 refine aw_skip ?_
 refine xt_n (hK _ ?_); clear hK K; refine sK fun K hK => wR 5 ?_
 refine aops_n hTT (M := []) (n := 9) [pv 28 ((yyTL10 b l)), pv 29 ((yyTL10 b l)), pv 30 ((yyTL15 b l)), pv 31 ((yyTL14 l)), pv 32 (V.i (↑i : Int)), pc 33 ((0 : Int) ≤ (↑i : Int) ∧ (↑i : Int) < (↑(List.length l) : Int)) (V.ptr [V.i (Prod.fst (gp l i)), V.i (Prod.snd (gp l i))]), pv 34 (V.agg [V.i (Prod.fst (gp l i)), V.i (Prod.snd (gp l i))]), pn 9 (V.ref 400009 0) (400009 : Nat) (Ob.box 57 [V.i 0, V.i 0]), pw ((0 : Nat) + (2 : Nat) ≤ (2 : Nat)) (400009 : Nat) (Ob.box 57 [V.i (Prod.fst (gp l i)), V.i (Prod.snd (gp l i))])] kR kR ⟨oM, oM, tI⟩ ?_
 refine nK hK ?_; clear hK K; refine sK fun K hK => sK fun K hK => wR 6 ?_
 refine aops_n hTT (M := []) (n := 1) [pv 35 (V.i 3)] kR kR tI ?_
 refine nK hK ?_; clear hK K
 refine aw_block ?_
 refine sK fun K hK => wR 7 ?_
 refine aops_n hTT (M := []) (n := 2) [pv 38 (V.b false), pv 37 (V.b false)] kR kR tI ?_
 refine nK hK ?_; clear hK K; refine w_false (t := false) kR rfl (sK fun K hK => wR 8 ?_)
 refine aops_n hTT (M := []) (n := 2) [pv 50 (V.b false), pv 49 (V.b false)] kR kR tI ?_
 refine nK hK ?_; clear hK K; refine w_false (t := false) kR rfl (sK fun K hK => wR 9 ?_)
 refine aops_n hTT (M := []) (n := 2) [pv 62 (V.b true), pv 61 (V.b true)] kR kR tI ?_
 refine nK hK ?_; clear hK K; refine w_true (t := true) kR rfl (sK fun K hK => wD 10 ?_)
 refine aops_n hTT (M := []) (n := 12) [pv 63 (V.i (↑i : Int)), pc 64 ((-9223372036854775808 : Int) ≤ (↑i : Int) - 1 ∧ (↑i : Int) - 1 ≤ (9223372036854775807 : Int)) (V.i ((↑i : Int) - 1)), pv 65 ((yyTL10 b l)), pv 66 ((yyTL10 b l)), pv 67 ((yyTL10 b l)), pv 68 (V.ptr [V.i (Bl.slow b), V.i (Bl.fast b), (yyTL14 l), V.i (Bl.per b)]), pv 69 (V.i (Bl.slow b)), pc 70 ((-9223372036854775808 : Int) ≤ -Bl.slow b ∧ -Bl.slow b ≤ 9223372036854775807) (V.i (-Bl.slow b)), pv 71 (V.ref 200008 2), pw ((2 : Nat) + (1 : Nat) ≤ (5 : Nat)) (200008 : Nat) (Ob.box 120 [V.i 3, V.i (↑i : Int), V.i ((↑i : Int) - 1), V.i (↑i : Int), V.i 0]), pv 72 (V.ref 200008 4), pw ((4 : Nat) + (1 : Nat) ≤ (5 : Nat)) (200008 : Nat) (Ob.box 120 (yyTL18 b i))] kR kR ⟨oM, oM, oM, oM, tI⟩ ?_
 refine aops_nil ⟨kR, (xt_n (hK _ ?_))⟩; clear hK K; refine sK fun K hK => wR 11 ?_
 refine aops_n hTT (M := []) (n := 5) [pc 73 ((0 : Nat) ≤ (5 : Nat)) (V.agg (yyTL18 b i)), pv 74 (V.i (↑i : Int)), pv 75 (V.b (decide ((0 : Int) < (↑i : Int)))), pw ((0 : Nat) + (5 : Nat) ≤ (5 : Nat)) (100006 : Nat) (Ob.box 120 (yyTL18 b i)), pv 7 (V.b (decide ((0 : Int) < (↑i : Int))))] kR kR ⟨oM, oM, tI⟩ ?_
 refine nK hK ?_; clear hK K
 refine aw_ret ?_
 refine xb_r ?_
 refine xt_r ?_
 refine ret_pure (v' := V.tup [V.agg (yyTL18 b i), V.b (decide ((0 : Int) < (↑i : Int)))]) (.inr rfl) kR ?_ kR
 simp [h0]
abbrev yyTL19 (b : Bl) (i : Nat) : List V := [V.i 4, V.i (↑i : Int), V.i (↑i : Int), V.i ((↑i : Int) - 1), V.i (Bl.fast b)]
set_option maxRecDepth 100000 in
theorem edge4_ac (b : Bl) (l : List Pt) (h : SOk b l) (i : Nat) (hi : i < l.length) (h0 : 0 < i) : AC Tryz.prog 37 [.ptr (sdC b l), .i 4, .i i] (.tup [.agg (edC (fastE b i)), .b true]) [] := by
 obtain ⟨⟨q1, q2⟩, ⟨q3, q4⟩, ⟨q5, q6⟩, ⟨q7, q8⟩, ⟨q9, q10⟩, q11, q12⟩ := h.bl
 obtain ⟨⟨p1, p2⟩, p3, p4⟩ := h.pt i hi
 have hl := h.len
 have e1 : ((i - 1 : Nat) : Int) = (i : Int) - 1 := by omega
 refine acI hTT hMX Tryz.func37 Tryz.ntmps37 fun C hC hF => ?_
 refine sK fun K hK => wR 2 ?_
 refine aops_n hTT (M := []) (n := 2) [pn 6 (V.ref 100006 0) (100006 : Nat) (Ob.box 120 [V.i 0, V.i 0, V.i 0, V.i 0, V.i 0]), pv 7 (V.b false)] kR kR tI ?_
 refine nK hK ?_; clear hK K; refine sK fun K hK => wR 3 ?_
 refine aops_n hTT (M := []) (n := 8) [pv 10 (V.i 4), pv 11 (V.i (↑i : Int)), pv 12 (V.agg [V.i 4, V.i (↑i : Int)]), pv 13 (V.i (↑i : Int)), pv 14 (V.i (↑i : Int)), pv 15 (V.agg [V.i 4, V.i (↑i : Int), V.i (↑i : Int), V.i (↑i : Int), V.i 0]), pn 8 (V.ref 200008 0) (200008 : Nat) (Ob.box 120 [V.i 0, V.i 0, V.i 0, V.i 0, V.i 0]), pw ((0 : Nat) + (5 : Nat) ≤ (5 : Nat)) (200008 : Nat) (Ob.box 120 [V.i 4, V.i (↑i : Int), V.i (↑i : Int), V.i (↑i : Int), V.i 0])] kR kR ⟨oM, tI⟩ ?_
 refine nK hK ?_; clear hK K; refine sK fun K hK => sK fun K hK => wR 4 ?_
 refine aops_n hTT (M := []) (n := 11) [pv 16 (V.i (↑i : Int)), pv 17 (V.b (decide ((↑i : Int) < 0))), pv 18 (V.b (decide ((↑i : Int) < 0))), pc 19 ((True ∧ True) ∧ ((decide ((↑i : Int) < 0) == false) = true → True)) (V.gd (decide ((↑i : Int) < 0) == false) (V.i (↑i : Int))), pc 20 ((True ∧ True) ∧ ((decide ((↑i : Int) < 0) == false) = true → True)) (V.gd (decide ((↑i : Int) < 0) == false) ((yyTL10 b l))), pc 21 ((((decide ((↑i : Int) < 0) == false) = true → (decide ((↑i : Int) < 0) == false) = true) ∧ True) ∧ ((decide ((↑i : Int) < 0) == false) = true → True)) (V.gd (decide ((↑i : Int) < 0) == false) ((yyTL10 b l))), pc 22 ((((decide ((↑i : Int) < 0) == false) = true → (decide ((↑i : Int) < 0) == false) = true) ∧ True) ∧ ((decide ((↑i : Int) < 0) == false) = true → True)) (V.gd (decide ((↑i : Int) < 0) == false) ((yyTL15 b l))), pc 23 ((((decide ((↑i : Int) < 0) == false) = true → (decide ((↑i : Int) < 0) == false) = true) ∧ True) ∧ ((decide ((↑i : Int) < 0) == false) = true → True)) (V.gd (decide ((↑i : Int) < 0) == false) ((yyTL14 l))), pc 24 ((((decide ((↑i : Int) < 0) == false) = true → (decide ((↑i : Int) < 0) == false) = true) ∧ True) ∧ ((decide ((↑i : Int) < 0) == false) = true → True)) (V.gd (decide ((↑i : Int) < 0) == false) (V.i (↑(List.length l) : Int))), pc 25 ((((decide ((↑i : Int) < 0) == false) = true → (decide ((↑i : Int) < 0) == false) = true) ∧ ((decide ((↑i : Int) < 0) == false) = true → (decide ((↑i : Int) < 0) == false) = true) ∧ True) ∧ ((decide ((↑i : Int) < 0) == false) = true → True)) (V.gd (decide ((↑i : Int) < 0) == false) (V.b (decide ((↑(List.length l) : Int) ≤ (↑i : Int))))), pc 26 (True ∧ (decide ((↑i : Int) < 0) = false → (decide ((↑i : Int) < 0) == false) = true)) (V.b (decide ((↑i : Int) < 0) || decide ((↑(List.length l) : Int) ≤ (↑i : Int))))] kR kR ⟨⟨⟨tI, tI⟩, (fun _ => tI)⟩, ⟨⟨tI, tI⟩, (fun _ => tI)⟩, ⟨⟨(by (exact fun h => h)), tI⟩, (fun _ => tI)⟩, ⟨⟨(by (exact fun h => h)), tI⟩, (fun _ => tI)⟩, ⟨⟨(by (exact fun h => h)), tI⟩, (fun _ => tI)⟩, ⟨⟨(by (exact fun h => h)), tI⟩, (fun _ => tI)⟩, ⟨⟨(by (exact fun h => h)), ⟨(by (exact fun h => h)), tI⟩⟩, (fun _ => tI)⟩, ⟨tI, (by (intro h; rw [h]; rfl))⟩, tI⟩ ?_
 refine nK hK ?_; clear hK K
 refine w_cond (t := decide ((↑i : Int) < 0) || decide ((↑(List.length l) : Int) ≤ (↑i : Int))) kR (fun c1 => ?_) (fun c1 => ?_)
 ·
  simp at c1
  omega
 clear c1
 refine aw_skip ?_
 refine xt_n (hK _ ?_); clear hK K; refine sK fun K hK => wR 5 ?_
 refine aops_n hTT (M := []) (n := 9) [pv 28 ((yyTL10 b l)), pv 29 ((yyTL10 b l)), pv 30 ((yyTL15 b l)), pv 31 ((yyTL14 l)), pv 32 (V.i (↑i : Int)), pc 33 ((0 : Int) ≤ (↑i : Int) ∧ (↑i : Int) < (↑(List.length l) : Int)) (V.ptr [V.i (Prod.fst (gp l i)), V.i (Prod.snd (gp l i))]), pv 34 (V.agg [V.i (Prod.fst (gp l i)), V.i (Prod.snd (gp l i))]), pn 9 (V.ref 400009 0) (400009 : Nat) (Ob.box 57 [V.i 0, V.i 0]), pw ((0 : Nat) + (2 : Nat) ≤ (2 : Nat)) (400009 : Nat) (Ob.box 57 [V.i (Prod.fst (gp l i)), V.i (Prod.snd (gp l i))])] kR kR ⟨oM, oM, tI⟩ ?_
 refine nK hK ?_; clear hK K; refine sK fun K hK => sK fun K hK => wR 6 ?_
 refine aops_n hTT (M := []) (n := 1) [pv 35 (V.i 4)] kR kR tI ?_
 refine nK hK ?_; clear hK K
 refine aw_block ?_
 refine sK fun K hK => wR 7 ?_
 refine aops_n hTT (M := []) (n := 2) [pv 38 (V.b false), pv 37 (V.b false)] kR kR tI ?_
 refine nK hK ?_; clear hK K; refine w_false (t := false) kR rfl (sK fun K hK => wR 8 ?_)
 refine aops_n hTT (M := []) (n := 2) [pv 50 (V.b false), pv 49 (V.b false)] kR kR tI ?_
 refine nK hK ?_; clear hK K; refine w_false (t := false) kR rfl (sK fun K hK => wR 9 ?_)
 refine aops_n hTT (M := []) (n := 2) [pv 62 (V.b false), pv 61 (V.b false)] kR kR tI ?_
 refine nK hK ?_; clear hK K; refine w_false (t := false) kR rfl (sK fun K hK => wR 10 ?_)
 refine aops_n hTT (M := []) (n := 2) [pv 77 (V.b true), pv 76 (V.b true)] kR kR tI ?_
 refine nK hK ?_; clear hK K; refine w_true (t := true) kR rfl (sK fun K hK => wD 11 ?_)
 refine aops_n hTT (M := []) (n := 11) [pv 78 (V.i (↑i : Int)), pc 79 ((-9223372036854775808 : Int) ≤ (↑i : Int) - 1 ∧ (↑i : Int) - 1 ≤ (9223372036854775807 : Int)) (V.i ((↑i : Int) - 1)), pv 80 ((yyTL10 b l)), pv 81 ((yyTL10 b l)), pv 82 ((yyTL10 b l)), pv 83 (V.ptr [V.i (Bl.fast b), (yyTL14 l), V.i (Bl.per b)]), pv 84 (V.i (Bl.fast b)), pv 85 (V.ref 200008 3), pw ((3 : Nat) + (1 : Nat) ≤ (5 : Nat)) (200008 : Nat) (Ob.box 120 [V.i 4, V.i (↑i : Int), V.i (↑i : Int), V.i ((↑i : Int) - 1), V.i 0]), pv 86 (V.ref 200008 4), pw ((4 : Nat) + (1 : Nat) ≤ (5 : Nat)) (200008 : Nat) (Ob.box 120 (yyTL19 b i))] kR kR ⟨oM, oM, oM, tI⟩ ?_
 refine aops_nil ⟨kR, (xt_n (hK _ ?_))⟩; clear hK K; refine sK fun K hK => wR 12 ?_
 refine aops_n hTT (M := []) (n := 5) [pc 87 ((0 : Nat) ≤ (5 : Nat)) (V.agg (yyTL19 b i)), pv 88 (V.i (↑i : Int)), pv 89 (V.b (decide ((0 : Int) < (↑i : Int)))), pw ((0 : Nat) + (5 : Nat) ≤ (5 : Nat)) (100006 : Nat) (Ob.box 120 (yyTL19 b i)), pv 7 (V.b (decide ((0 : Int) < (↑i : Int))))] kR kR ⟨oM, oM, tI⟩ ?_
 refine nK hK ?_; clear hK K
 refine aw_ret ?_
 refine xb_r ?_
 refine xt_r ?_
 rw [edC, fastE, e1]
 refine ret_pure (v' := V.tup [V.agg (yyTL19 b i), V.b (decide ((0 : Int) < (↑i : Int)))]) (.inr rfl) kR ?_ kR
 simpa using h0
abbrev yyTL111 (b : Bl) (l : List Pt) (i : Nat) : List V := [V.i 5, V.i (↑i : Int), V.i ((↑i : Int) - Bl.per b), V.i (↑i : Int), V.i (Prod.fst (gp l (Int.toNat ((↑i : Int) - Bl.per b))) - Prod.snd (gp l i) - Bl.land b)]
abbrev yyTL110 (b : Bl) (l : List Pt) (i : Nat) : Ob := Ob.box 120 (yyTL111 b l i)
abbrev yyTL112 (b : Bl) (l : List Pt) (i : Nat) : V := V.ptr [V.i (Prod.fst (gp l (Int.toNat ((↑i : Int) - Bl.per b)))), V.i (Prod.snd (gp l (Int.toNat ((↑i : Int) - Bl.per b))))]
set_option maxRecDepth 100000 in
theorem edge5_ac (b : Bl) (l : List Pt) (h : SOk b l) (i : Nat) (hi : i < l.length) (h0 : b.per.toNat ≤ i) : AC Tryz.prog 37 [.ptr (sdC b l), .i 5, .i i] (.tup [.agg (edC (landE b l i)), .b true]) [] := by
 obtain ⟨⟨q1, q2⟩, ⟨q3, q4⟩, ⟨q5, q6⟩, ⟨q7, q8⟩, ⟨q9, q10⟩, q11, q12⟩ := h.bl
 obtain ⟨⟨p1, p2⟩, p3, p4⟩ := h.pt i hi
 have hl := h.len
 have hj : i - b.per.toNat < l.length := by omega
 obtain ⟨⟨r1, r2⟩, r3, r4⟩ := h.pt ((i : Int) - b.per).toNat oM
 have e1 : ((i - b.per.toNat : Nat) : Int) = (i : Int) - b.per := by omega
 have e2 : ((i : Int) - b.per).toNat = i - b.per.toNat := by omega
 refine acI hTT hMX Tryz.func37 Tryz.ntmps37 fun C hC hF => ?_
 refine sK fun K hK => wR 2 ?_
 refine aops_n hTT (M := []) (n := 2) [pn 6 (V.ref 100006 0) (100006 : Nat) (Ob.box 120 [V.i 0, V.i 0, V.i 0, V.i 0, V.i 0]), pv 7 (V.b false)] kR kR tI ?_
 refine nK hK ?_; clear hK K; refine sK fun K hK => wR 3 ?_
 refine aops_n hTT (M := []) (n := 8) [pv 10 (V.i 5), pv 11 (V.i (↑i : Int)), pv 12 (V.agg [V.i 5, V.i (↑i : Int)]), pv 13 (V.i (↑i : Int)), pv 14 (V.i (↑i : Int)), pv 15 (V.agg [V.i 5, V.i (↑i : Int), V.i (↑i : Int), V.i (↑i : Int), V.i 0]), pn 8 (V.ref 200008 0) (200008 : Nat) (Ob.box 120 [V.i 0, V.i 0, V.i 0, V.i 0, V.i 0]), pw ((0 : Nat) + (5 : Nat) ≤ (5 : Nat)) (200008 : Nat) (Ob.box 120 [V.i 5, V.i (↑i : Int), V.i (↑i : Int), V.i (↑i : Int), V.i 0])] kR kR ⟨oM, tI⟩ ?_
 refine nK hK ?_; clear hK K; refine sK fun K hK => sK fun K hK => wR 4 ?_
 refine aops_n hTT (M := []) (n := 11) [pv 16 (V.i (↑i : Int)), pv 17 (V.b (decide ((↑i : Int) < 0))), pv 18 (V.b (decide ((↑i : Int) < 0))), pc 19 ((True ∧ True) ∧ ((decide ((↑i : Int) < 0) == false) = true → True)) (V.gd (decide ((↑i : Int) < 0) == false) (V.i (↑i : Int))), pc 20 ((True ∧ True) ∧ ((decide ((↑i : Int) < 0) == false) = true → True)) (V.gd (decide ((↑i : Int) < 0) == false) ((yyTL10 b l))), pc 21 ((((decide ((↑i : Int) < 0) == false) = true → (decide ((↑i : Int) < 0) == false) = true) ∧ True) ∧ ((decide ((↑i : Int) < 0) == false) = true → True)) (V.gd (decide ((↑i : Int) < 0) == false) ((yyTL10 b l))), pc 22 ((((decide ((↑i : Int) < 0) == false) = true → (decide ((↑i : Int) < 0) == false) = true) ∧ True) ∧ ((decide ((↑i : Int) < 0) == false) = true → True)) (V.gd (decide ((↑i : Int) < 0) == false) ((yyTL15 b l))), pc 23 ((((decide ((↑i : Int) < 0) == false) = true → (decide ((↑i : Int) < 0) == false) = true) ∧ True) ∧ ((decide ((↑i : Int) < 0) == false) = true → True)) (V.gd (decide ((↑i : Int) < 0) == false) ((yyTL14 l))), pc 24 ((((decide ((↑i : Int) < 0) == false) = true → (decide ((↑i : Int) < 0) == false) = true) ∧ True) ∧ ((decide ((↑i : Int) < 0) == false) = true → True)) (V.gd (decide ((↑i : Int) < 0) == false) (V.i (↑(List.length l) : Int))), pc 25 ((((decide ((↑i : Int) < 0) == false) = true → (decide ((↑i : Int) < 0) == false) = true) ∧ ((decide ((↑i : Int) < 0) == false) = true → (decide ((↑i : Int) < 0) == false) = true) ∧ True) ∧ ((decide ((↑i : Int) < 0) == false) = true → True)) (V.gd (decide ((↑i : Int) < 0) == false) (V.b (decide ((↑(List.length l) : Int) ≤ (↑i : Int))))), pc 26 (True ∧ (decide ((↑i : Int) < 0) = false → (decide ((↑i : Int) < 0) == false) = true)) (V.b (decide ((↑i : Int) < 0) || decide ((↑(List.length l) : Int) ≤ (↑i : Int))))] kR kR ⟨⟨⟨tI, tI⟩, (fun _ => tI)⟩, ⟨⟨tI, tI⟩, (fun _ => tI)⟩, ⟨⟨(by (exact fun h => h)), tI⟩, (fun _ => tI)⟩, ⟨⟨(by (exact fun h => h)), tI⟩, (fun _ => tI)⟩, ⟨⟨(by (exact fun h => h)), tI⟩, (fun _ => tI)⟩, ⟨⟨(by (exact fun h => h)), tI⟩, (fun _ => tI)⟩, ⟨⟨(by (exact fun h => h)), ⟨(by (exact fun h => h)), tI⟩⟩, (fun _ => tI)⟩, ⟨tI, (by (intro h; rw [h]; rfl))⟩, tI⟩ ?_
 refine nK hK ?_; clear hK K
 refine w_cond (t := decide ((↑i : Int) < 0) || decide ((↑(List.length l) : Int) ≤ (↑i : Int))) kR (fun c1 => ?_) (fun c1 => ?_)
 ·
  simp at c1
  omega
 clear c1
 refine aw_skip ?_
 refine xt_n (hK _ ?_); clear hK K; refine sK fun K hK => wR 5 ?_
 refine aops_n hTT (M := []) (n := 9) [pv 28 ((yyTL10 b l)), pv 29 ((yyTL10 b l)), pv 30 ((yyTL15 b l)), pv 31 ((yyTL14 l)), pv 32 (V.i (↑i : Int)), pc 33 ((0 : Int) ≤ (↑i : Int) ∧ (↑i : Int) < (↑(List.length l) : Int)) (V.ptr [V.i (Prod.fst (gp l i)), V.i (Prod.snd (gp l i))]), pv 34 (V.agg [V.i (Prod.fst (gp l i)), V.i (Prod.snd (gp l i))]), pn 9 (V.ref 400009 0) (400009 : Nat) (Ob.box 57 [V.i 0, V.i 0]), pw ((0 : Nat) + (2 : Nat) ≤ (2 : Nat)) (400009 : Nat) (Ob.box 57 [V.i (Prod.fst (gp l i)), V.i (Prod.snd (gp l i))])] kR kR ⟨oM, oM, tI⟩ ?_
 refine nK hK ?_; clear hK K; refine sK fun K hK => sK fun K hK => wR 6 ?_
 refine aops_n hTT (M := []) (n := 1) [pv 35 (V.i 5)] kR kR tI ?_
 refine nK hK ?_; clear hK K
 refine aw_block ?_
 refine sK fun K hK => wR 7 ?_
 refine aops_n hTT (M := []) (n := 2) [pv 38 (V.b false), pv 37 (V.b false)] kR kR tI ?_
 refine nK hK ?_; clear hK K; refine w_false (t := false) kR rfl (sK fun K hK => wR 8 ?_)
 refine aops_n hTT (M := []) (n := 2) [pv 50 (V.b false), pv 49 (V.b false)] kR kR tI ?_
 refine nK hK ?_; clear hK K; refine w_false (t := false) kR rfl (sK fun K hK => wR 9 ?_)
 refine aops_n hTT (M := []) (n := 2) [pv 62 (V.b false), pv 61 (V.b false)] kR kR tI ?_
 refine nK hK ?_; clear hK K; refine w_false (t := false) kR rfl (sK fun K hK => wR 10 ?_)
 refine aops_n hTT (M := []) (n := 2) [pv 77 (V.b false), pv 76 (V.b false)] kR kR tI ?_
 refine nK hK ?_; clear hK K; refine w_false (t := false) kR rfl (sK fun K hK => wR 11 ?_)
 refine aops_n hTT (M := []) (n := 2) [pv 91 (V.b true), pv 90 (V.b true)] kR kR tI ?_
 refine nK hK ?_; clear hK K; refine w_true (t := true) kR rfl (sK fun K hK => sK fun K hK => wR 12 ?_)
 refine aops_n hTT (M := []) (n := 6) [pv 92 (V.i (↑i : Int)), pv 93 ((yyTL10 b l)), pv 94 ((yyTL10 b l)), pv 95 (V.ptr [V.i (Bl.per b)]), pv 96 (V.i (Bl.per b)), pv 97 (V.b (decide ((↑i : Int) < Bl.per b)))] kR kR tI ?_
 refine nK hK ?_; clear hK K
 refine w_cond (t := decide ((↑i : Int) < Bl.per b)) kR (fun c2 => ?_) (fun c2 => ?_)
 ·
  simp at c2
  omega
 clear c2
 refine aw_skip ?_
 refine xt_n (hK _ ?_); clear hK K; refine wD 13 ?_
 refine aops_n hTT (M := []) (n := 32) [pv 99 (V.i (↑i : Int)), pv 100 ((yyTL10 b l)), pv 101 ((yyTL10 b l)), pv 102 (V.ptr [V.i (Bl.per b)]), pv 103 (V.i (Bl.per b)), pc 104 ((-9223372036854775808 : Int) ≤ (↑i : Int) - Bl.per b ∧ (↑i : Int) - Bl.per b ≤ 9223372036854775807) (V.i ((↑i : Int) - Bl.per b)), pv 105 ((yyTL10 b l)), pv 106 ((yyTL10 b l)), pv 107 ((yyTL15 b l)), pv 108 ((yyTL14 l)), pv 109 (V.i (↑i : Int)), pv 110 ((yyTL10 b l)), pv 111 ((yyTL10 b l)), pv 112 (V.ptr [V.i (Bl.per b)]), pv 113 (V.i (Bl.per b)), pc 114 ((-9223372036854775808 : Int) ≤ (↑i : Int) - Bl.per b ∧ (↑i : Int) - Bl.per b ≤ 9223372036854775807) (V.i ((↑i : Int) - Bl.per b)), pc 115 ((0 : Int) ≤ (↑i : Int) - Bl.per b ∧ (↑i : Int) - Bl.per b < (↑(List.length l) : Int)) ((yyTL112 b l i)), pv 116 ((yyTL112 b l i)), pv 117 (V.i (Prod.fst (gp l (Int.toNat ((↑i : Int) - Bl.per b))))), pv 118 (V.ref 400009 1), pc 119 ((1 : Nat) ≤ (2 : Nat)) (V.i (Prod.snd (gp l i))), pc 120 ((-9223372036854775808 : Int) ≤ Prod.fst (gp l (Int.toNat ((↑i : Int) - Bl.per b))) - Prod.snd (gp l i) ∧ Prod.fst (gp l (Int.toNat ((↑i : Int) - Bl.per b))) - Prod.snd (gp l i) ≤ 9223372036854775807) (V.i (Prod.fst (gp l (Int.toNat ((↑i : Int) - Bl.per b))) - Prod.snd (gp l i))), pv 121 ((yyTL10 b l)), pv 122 ((yyTL10 b l)), pv 123 ((yyTL10 b l)), pv 124 (V.ptr [V.i (Bl.land b), V.i (Bl.slow b), V.i (Bl.fast b), (yyTL14 l), V.i (Bl.per b)]), pv 125 (V.i (Bl.land b)), pc 126 ((-9223372036854775808 : Int) ≤ Prod.fst (gp l (Int.toNat ((↑i : Int) - Bl.per b))) - Prod.snd (gp l i) - Bl.land b ∧ Prod.fst (gp l (Int.toNat ((↑i : Int) - Bl.per b))) - Prod.snd (gp l i) - Bl.land b ≤ 9223372036854775807) (V.i (Prod.fst (gp l (Int.toNat ((↑i : Int) - Bl.per b))) - Prod.snd (gp l i) - Bl.land b)), pv 127 (V.ref 200008 2), pw ((2 : Nat) + (1 : Nat) ≤ (5 : Nat)) (200008 : Nat) (Ob.box 120 [V.i 5, V.i (↑i : Int), V.i ((↑i : Int) - Bl.per b), V.i (↑i : Int), V.i 0]), pv 128 (V.ref 200008 4), pw ((4 : Nat) + (1 : Nat) ≤ (5 : Nat)) (200008 : Nat) ((yyTL110 b l i))] kR kR ⟨oM, oM, oM, oM, oM, oM, oM, oM, tI⟩ ?_
 refine aops_nil ⟨kR, (xb_n (xt_n (hK _ ?_)))⟩; clear hK K; refine sK fun K hK => wR 14 ?_
 refine aops_n hTT (M := []) (n := 3) [pc 129 ((0 : Nat) ≤ (5 : Nat)) (V.agg (yyTL111 b l i)), pw ((0 : Nat) + (5 : Nat) ≤ (5 : Nat)) (100006 : Nat) ((yyTL110 b l i)), pv 7 (V.b true)] kR kR ⟨oM, oM, tI⟩ ?_
 refine nK hK ?_; clear hK K
 refine aw_ret ?_
 rw [edC, landE, e1, ← e2]
 refine rP (V.tup [V.agg (yyTL111 b l i), V.b true])
abbrev yyTL114 (i : Nat) : List V := [V.i 5, V.i (↑i : Int), V.i (↑i : Int), V.i (↑i : Int), V.i 0]
abbrev yyTL113 (i : Nat) : V := V.agg (yyTL114 i)
set_option maxRecDepth 100000 in
theorem edge5z_ac (b : Bl) (l : List Pt) (h : SOk b l) (i : Nat) (hi : i < l.length) (h0 : i < b.per.toNat) : AC Tryz.prog 37 [.ptr (sdC b l), .i 5, .i i] (.tup [.agg [.i 5, .i i, .i i, .i i, .i 0], .b false]) [] := by
 obtain ⟨⟨q1, q2⟩, ⟨q3, q4⟩, ⟨q5, q6⟩, ⟨q7, q8⟩, ⟨q9, q10⟩, q11, q12⟩ := h.bl
 obtain ⟨⟨p1, p2⟩, p3, p4⟩ := h.pt i hi
 have hl := h.len
 refine acI hTT hMX Tryz.func37 Tryz.ntmps37 fun C hC hF => ?_
 refine sK fun K hK => wR 2 ?_
 refine aops_n hTT (M := []) (n := 2) [pn 6 (V.ref 100006 0) (100006 : Nat) (Ob.box 120 [V.i 0, V.i 0, V.i 0, V.i 0, V.i 0]), pv 7 (V.b false)] kR kR tI ?_
 refine nK hK ?_; clear hK K; refine sK fun K hK => wR 3 ?_
 refine aops_n hTT (M := []) (n := 8) [pv 10 (V.i 5), pv 11 (V.i (↑i : Int)), pv 12 (V.agg [V.i 5, V.i (↑i : Int)]), pv 13 (V.i (↑i : Int)), pv 14 (V.i (↑i : Int)), pv 15 ((yyTL113 i)), pn 8 (V.ref 200008 0) (200008 : Nat) (Ob.box 120 [V.i 0, V.i 0, V.i 0, V.i 0, V.i 0]), pw ((0 : Nat) + (5 : Nat) ≤ (5 : Nat)) (200008 : Nat) (Ob.box 120 (yyTL114 i))] kR kR ⟨oM, tI⟩ ?_
 refine nK hK ?_; clear hK K; refine sK fun K hK => sK fun K hK => wR 4 ?_
 refine aops_n hTT (M := []) (n := 11) [pv 16 (V.i (↑i : Int)), pv 17 (V.b (decide ((↑i : Int) < 0))), pv 18 (V.b (decide ((↑i : Int) < 0))), pc 19 ((True ∧ True) ∧ ((decide ((↑i : Int) < 0) == false) = true → True)) (V.gd (decide ((↑i : Int) < 0) == false) (V.i (↑i : Int))), pc 20 ((True ∧ True) ∧ ((decide ((↑i : Int) < 0) == false) = true → True)) (V.gd (decide ((↑i : Int) < 0) == false) ((yyTL10 b l))), pc 21 ((((decide ((↑i : Int) < 0) == false) = true → (decide ((↑i : Int) < 0) == false) = true) ∧ True) ∧ ((decide ((↑i : Int) < 0) == false) = true → True)) (V.gd (decide ((↑i : Int) < 0) == false) ((yyTL10 b l))), pc 22 ((((decide ((↑i : Int) < 0) == false) = true → (decide ((↑i : Int) < 0) == false) = true) ∧ True) ∧ ((decide ((↑i : Int) < 0) == false) = true → True)) (V.gd (decide ((↑i : Int) < 0) == false) ((yyTL15 b l))), pc 23 ((((decide ((↑i : Int) < 0) == false) = true → (decide ((↑i : Int) < 0) == false) = true) ∧ True) ∧ ((decide ((↑i : Int) < 0) == false) = true → True)) (V.gd (decide ((↑i : Int) < 0) == false) ((yyTL14 l))), pc 24 ((((decide ((↑i : Int) < 0) == false) = true → (decide ((↑i : Int) < 0) == false) = true) ∧ True) ∧ ((decide ((↑i : Int) < 0) == false) = true → True)) (V.gd (decide ((↑i : Int) < 0) == false) (V.i (↑(List.length l) : Int))), pc 25 ((((decide ((↑i : Int) < 0) == false) = true → (decide ((↑i : Int) < 0) == false) = true) ∧ ((decide ((↑i : Int) < 0) == false) = true → (decide ((↑i : Int) < 0) == false) = true) ∧ True) ∧ ((decide ((↑i : Int) < 0) == false) = true → True)) (V.gd (decide ((↑i : Int) < 0) == false) (V.b (decide ((↑(List.length l) : Int) ≤ (↑i : Int))))), pc 26 (True ∧ (decide ((↑i : Int) < 0) = false → (decide ((↑i : Int) < 0) == false) = true)) (V.b (decide ((↑i : Int) < 0) || decide ((↑(List.length l) : Int) ≤ (↑i : Int))))] kR kR ⟨⟨⟨tI, tI⟩, (fun _ => tI)⟩, ⟨⟨tI, tI⟩, (fun _ => tI)⟩, ⟨⟨(by (exact fun h => h)), tI⟩, (fun _ => tI)⟩, ⟨⟨(by (exact fun h => h)), tI⟩, (fun _ => tI)⟩, ⟨⟨(by (exact fun h => h)), tI⟩, (fun _ => tI)⟩, ⟨⟨(by (exact fun h => h)), tI⟩, (fun _ => tI)⟩, ⟨⟨(by (exact fun h => h)), ⟨(by (exact fun h => h)), tI⟩⟩, (fun _ => tI)⟩, ⟨tI, (by (intro h; rw [h]; rfl))⟩, tI⟩ ?_
 refine nK hK ?_; clear hK K
 refine w_cond (t := decide ((↑i : Int) < 0) || decide ((↑(List.length l) : Int) ≤ (↑i : Int))) kR (fun c1 => ?_) (fun c1 => ?_)
 ·
  simp at c1
  omega
 clear c1
 refine aw_skip ?_
 refine xt_n (hK _ ?_); clear hK K; refine sK fun K hK => wR 5 ?_
 refine aops_n hTT (M := []) (n := 9) [pv 28 ((yyTL10 b l)), pv 29 ((yyTL10 b l)), pv 30 ((yyTL15 b l)), pv 31 ((yyTL14 l)), pv 32 (V.i (↑i : Int)), pc 33 ((0 : Int) ≤ (↑i : Int) ∧ (↑i : Int) < (↑(List.length l) : Int)) (V.ptr [V.i (Prod.fst (gp l i)), V.i (Prod.snd (gp l i))]), pv 34 (V.agg [V.i (Prod.fst (gp l i)), V.i (Prod.snd (gp l i))]), pn 9 (V.ref 400009 0) (400009 : Nat) (Ob.box 57 [V.i 0, V.i 0]), pw ((0 : Nat) + (2 : Nat) ≤ (2 : Nat)) (400009 : Nat) (Ob.box 57 [V.i (Prod.fst (gp l i)), V.i (Prod.snd (gp l i))])] kR kR ⟨oM, oM, tI⟩ ?_
 refine nK hK ?_; clear hK K; refine sK fun K hK => sK fun K hK => wR 6 ?_
 refine aops_n hTT (M := []) (n := 1) [pv 35 (V.i 5)] kR kR tI ?_
 refine nK hK ?_; clear hK K
 refine aw_block ?_
 refine sK fun K hK => wR 7 ?_
 refine aops_n hTT (M := []) (n := 2) [pv 38 (V.b false), pv 37 (V.b false)] kR kR tI ?_
 refine nK hK ?_; clear hK K; refine w_false (t := false) kR rfl (sK fun K hK => wR 8 ?_)
 refine aops_n hTT (M := []) (n := 2) [pv 50 (V.b false), pv 49 (V.b false)] kR kR tI ?_
 refine nK hK ?_; clear hK K; refine w_false (t := false) kR rfl (sK fun K hK => wR 9 ?_)
 refine aops_n hTT (M := []) (n := 2) [pv 62 (V.b false), pv 61 (V.b false)] kR kR tI ?_
 refine nK hK ?_; clear hK K; refine w_false (t := false) kR rfl (sK fun K hK => wR 10 ?_)
 refine aops_n hTT (M := []) (n := 2) [pv 77 (V.b false), pv 76 (V.b false)] kR kR tI ?_
 refine nK hK ?_; clear hK K; refine w_false (t := false) kR rfl (sK fun K hK => wR 11 ?_)
 refine aops_n hTT (M := []) (n := 2) [pv 91 (V.b true), pv 90 (V.b true)] kR kR tI ?_
 refine nK hK ?_; clear hK K; refine w_true (t := true) kR rfl (sK fun K hK => sK fun K hK => wR 12 ?_)
 refine aops_n hTT (M := []) (n := 6) [pv 92 (V.i (↑i : Int)), pv 93 ((yyTL10 b l)), pv 94 ((yyTL10 b l)), pv 95 (V.ptr [V.i (Bl.per b)]), pv 96 (V.i (Bl.per b)), pv 97 (V.b (decide ((↑i : Int) < Bl.per b)))] kR kR tI ?_
 refine nK hK ?_; clear hK K
 refine w_cond (t := decide ((↑i : Int) < Bl.per b)) kR (fun c2 => ?_) (fun c2 => ?_)
 ·
  refine sK fun K hK => ?_
  refine wR 13 ?_
  refine aops_n hTT (M := []) (n := 3) [pc 98 ((0 : Nat) ≤ (5 : Nat)) ((yyTL113 i)), pw ((0 : Nat) + (5 : Nat) ≤ (5 : Nat)) (100006 : Nat) (Ob.box 120 (yyTL114 i)), pv 7 (V.b false)] kR kR ⟨oM, oM, tI⟩ ?_
  refine nK hK ?_; clear hK K
  refine aw_ret ?_
  refine xt_r ?_
  refine xb_r ?_
  refine xt_r ?_
  refine rP (V.tup [(yyTL113 i), V.b false])
 ·
  simp at c2
  omega
end Go.Proofs.YtffggfnomhhckaaGreatDoor

namespace Go.Proofs.YtffggfnomhhckaaGreatDoor
open Go.Ab Go.RowKit Go.Dw Go.Shelf
def silL (h : Int) (n : Nat) : List Pt := List.replicate n (-h, h)
theorem silL_len (h : Int) (n : Nat) : (silL h n).length = n := by simp [silL]
theorem silL_gp {h : Int} {n k : Nat} (hk : k < n) : gp (silL h n) k = (-h, h) := by
 simp [gp, silL, List.getD_eq_getElem?_getD, hk]
theorem silL_chk {h : Int} {n : Nat} (h0 : 0 ≤ h) (h1 : h ≤ 1000) (hn : n ≤ 4096) : gChk (silL h n) = 0 := by
 refine gChk_ok.2 ⟨by rw [silL_len]; exact hn, fun k hk => ?_⟩
 rw [silL_len] at hk
 rw [silL_gp hk]
 exact gE_iff.2 (by simp only; omega)
def silR (rim h p : Int) (per : Nat) (v : Nat) : Int := rim - h - p * ((v / per : Nat) : Int)
theorem silR_lo {rim h p : Int} {per v n : Nat} (hp : 0 ≤ p) (hv : v < n) : silR rim h p per (n - 1) ≤ silR rim h p per v := by
 have : v / per ≤ (n - 1) / per := Nat.div_le_div_right oM
 have := Int.mul_le_mul_of_nonneg_left (show ((v / per : Nat) : Int) ≤ (((n - 1) / per : Nat) : Int) by omega) hp
 unfold silR
 omega
theorem silR_sol {b : Bl} {h d : Int} {n : Nat} (hper : 1 ≤ b.per) (hd : b.land = d) (hs : b.slow = 0) (hf : b.fast = 65536) (h1 : 0 ≤ h ∧ h ≤ 1000) (d1 : 0 ≤ d ∧ d ≤ 1000) :
  LSol b (silL h n) (silR b.rim h (2 * h + d) b.per.toNat) := by
 intro v hv
 rw [silL_len] at hv
 rw [silL_gp hv, hd, hs, hf]
 have hpp : 0 < b.per.toNat := by omega
 have hp : (0 : Int) ≤ 2 * h + d := by omega
 refine ⟨?_, fun hv0 => ?_, fun hvp => ?_⟩
 ·
  have := Int.mul_nonneg hp (Int.natCast_nonneg (v / b.per.toNat))
  unfold silR
  simp only
  omega
 ·
  have e1 : (v - 1) / b.per.toNat ≤ v / b.per.toNat := Nat.div_le_div_right oM
  have e2 : v / b.per.toNat ≤ (v - 1) / b.per.toNat + 1 := by
   rw [← Nat.add_div_right _ hpp]
   exact Nat.div_le_div_right oM
  unfold silR
  rcases Nat.lt_or_ge ((v - 1) / b.per.toNat) (v / b.per.toNat) with hlt | hge
  ·
   have e : v / b.per.toNat = (v - 1) / b.per.toNat + 1 := by omega
   rw [e, Int.natCast_add, Int.mul_add]
   simp only [Int.natCast_one, Int.mul_one]
   omega
  ·
   have e : v / b.per.toNat = (v - 1) / b.per.toNat := by omega
   rw [e]
   omega
 ·
  have e : v / b.per.toNat = (v - b.per.toNat) / b.per.toNat + 1 := by
   rw [← Nat.add_div_right _ hpp, Nat.sub_add_cancel hvp]
  rw [silL_gp (show v - b.per.toNat < n by omega)]
  unfold silR
  rw [e, Int.natCast_add, Int.mul_add]
  simp only [Int.natCast_one, Int.mul_one]
  omega
theorem silR_max {b : Bl} {h d : Int} {n : Nat} (hper : 1 ≤ b.per) (hd : b.land = d) {g : Nat → Int} (hg : LSol b (silL h n) g) :
  ∀ v, v < n → g v ≤ silR b.rim h (2 * h + d) b.per.toNat v := by
 intro v
 induction v using Nat.strongRecOn with
 | _ v ih =>
  intro hv
  have H := hg v (by rw [silL_len]; exact hv)
  rw [silL_gp hv, hd] at H
  have hpp : 0 < b.per.toNat := by omega
  by_cases hvp : b.per.toNat ≤ v
  ·
   have h3 := H.2.2 hvp
   rw [silL_gp (show v - b.per.toNat < n by omega)] at h3
   have h4 := ih (v - b.per.toNat) oM oM
   have e : v / b.per.toNat = (v - b.per.toNat) / b.per.toNat + 1 := by
    rw [← Nat.add_div_right _ hpp, Nat.sub_add_cancel hvp]
   unfold silR at h4 ⊢
   rw [e, Int.natCast_add, Int.mul_add]
   simp only [Int.natCast_one, Int.mul_one] at h3 ⊢
   omega
  ·
   have e : v / b.per.toNat = 0 := Nat.div_eq_of_lt oM
   have := H.1
   unfold silR
   rw [e]
   simp only [Int.natCast_zero, Int.mul_zero] at this ⊢
   omega
theorem sil_out {b : Bl} {h d : Int} {n : Nat} (hper : 1 ≤ b.per) (hd : b.land = d) (hs : b.slow = 0) (hf : b.fast = 65536) (h1 : 0 ≤ h ∧ h ≤ 1000) (d1 : 0 ≤ d ∧ d ≤ 1000) (hn : 0 < n)
  (hc : b.core + h ≤ silR b.rim h (2 * h + d) b.per.toNat (n - 1)) : ∃ o, LOut b (silL h n) o ∧ gi o 0 + h = b.rim := by
 have S := silR_sol (n := n) hper hd hs hf h1 d1
 obtain ⟨o, ho⟩ := lout_of (b := b) (l := silL h n) (g := silR b.rim h (2 * h + d) b.per.toNat) hper ⟨S, fun v hv => by
  rw [silL_len] at hv
  rw [silL_gp hv]
  have := silR_lo (rim := b.rim) (h := h) (p := 2 * h + d) (per := b.per.toNat) oM hv
  simp only
  omega⟩
 refine ⟨o, ho, ?_⟩
 have a := ho.2.2 _ S 0 (by rw [silL_len]; exact hn)
 have c := (ho.2.1.1 0 (by rw [silL_len]; exact hn)).1
 rw [silL_gp hn] at c
 unfold silR at a
 rw [Nat.zero_div] at a
 simp only [Int.natCast_zero, Int.mul_zero] at a c
 omega
theorem sil_no {b : Bl} {h d : Int} {n : Nat} (hper : 1 ≤ b.per) (hd : b.land = d) (hn : 0 < n) (hc : silR b.rim h (2 * h + d) b.per.toNat (n - 1) < b.core + h) : ¬ ∃ o, LOut b (silL h n) o := by
 rintro ⟨o, ho⟩
 have a := silR_max hper hd ho.2.1.1 (n - 1) oM
 have c := ho.2.1.2 (n - 1) (by rw [silL_len]; omega)
 rw [silL_gp oM] at c
 simp only at c
 omega
theorem wid_turns {per n : Nat} (hp : 1 ≤ per) (hn : 1 ≤ n) : ((n : Int) + (per : Int) - 1).tdiv (per : Int) = (((n - 1) / per + 1 : Nat) : Int) := by
 have e : (n : Int) + (per : Int) - 1 = ((n - 1 + per : Nat) : Int) := by omega
 rw [e, Int.tdiv_eq_ediv_of_nonneg oM]
 have : ((n - 1 + per : Nat) : Int) / (per : Int) = (((n - 1 + per) / per : Nat) : Int) := by simp
 rw [this, Nat.add_div_right _ oM]
end Go.Proofs.YtffggfnomhhckaaGreatDoor

namespace Go.Proofs.YtffggfnomhhckaaGreatDoor
open Go.Ab Go.RowKit Go.Dw Go.Shelf
set_option maxRecDepth 100000 in
theorem possible_ac (f : Fm) (l : List Tr) (o : List Int) (h : OrOk f l o) : AC Tryz.prog 56 [.ptr (plC4 f l), V.ints o] (.b (psB f (trO l o) o.length)) [] := by
 have L := lay_ac f l o h
 by_cases hp : psB f (trO l o) o.length = true
 ·
  rw [lyV_ok hp] at L
  rw [hp]
  refine acI hTT hMX Tryz.func56 Tryz.ntmps56 fun C hC hF => ?_
  refine sX hTT 2 1 [] tI (sK fun K hK => wR 3 (aX hTT 2 [] tI ?_))
  refine eC (L) ?_
  refine aX hTT 7 [] tI (nK hK ?_); clear hK K; refine sX hTT 4 3 [] tI ?_
  refine aw_ret ?_
  refine rP (V.b true)
 ·
  have hp2 : psB f (trO l o) o.length = false := by simpa using hp
  have e : lyN f (trO l o) o.length < o.length ∨ (lyN f (trO l o) o.length = o.length ∧ ¬ f.inn ≤ bTo f (trO l o) o.length - f.tail) := by
   have h1 : lyN f (trO l o) o.length ≤ o.length := twN_le _ _
   by_cases h2 : lyN f (trO l o) o.length = o.length
   ·
    exact .inr ⟨h2, fun h3 => hp (ps_ly.2 ⟨h2, h3⟩)⟩
   ·
    exact .inl oM
  rw [hp2]
  rcases e with e | ⟨e1, e2⟩
  ·
   rw [lyV_rule rfl e] at L
   refine acI hTT hMX Tryz.func56 Tryz.ntmps56 fun C hC hF => ?_
   refine sX hTT 2 1 [] tI (sK fun K hK => wR 3 (aX hTT 2 [] tI ?_))
   refine eC (L) ?_
   refine aX hTT 7 [] tI (nK hK ?_); clear hK K; refine sX hTT 4 3 [] tI ?_
   refine aw_ret ?_
   refine rP (V.b false)
  ·
   rw [lyV_end e1 e2] at L
   refine acI hTT hMX Tryz.func56 Tryz.ntmps56 fun C hC hF => ?_
   refine sX hTT 2 1 [] tI (sK fun K hK => wR 3 (aX hTT 2 [] tI ?_))
   refine eC (L) ?_
   refine aX hTT 7 [] tI (nK hK ?_); clear hK K; refine sX hTT 4 3 [] tI ?_
   refine aw_ret ?_
   refine rP (V.b false)
set_option maxRecDepth 100000 in
theorem index4_ac (l : List Int) (n : Nat) (x : Int) (hn : n ≤ 1000000) (h : ∀ k, k < n → gi l k ≠ x) : AC Tryz.prog 34 [.sl 1 n fun k => [.i (gi l k)], .i x] (.i (-1)) [] := by
 refine acI hTT hMX Tryz.func34 Tryz.ntmps34 fun C hC hF => ?_
 refine sX hTT 2 1 [] tI (sK fun K hK => sX hTT 3 3 [] tI ?_)
 refine aw_block ?_
 refine w_loop (ι := Nat) (fun k => [(0, .sl 1 n fun k => [.i (gi l k)]), (1, .i x), (7, .i n), (8, .i k)]) (fun _ => []) (fun k => k ≤ n) (fun k => n - k) 0 (Nat.zero_le _) ?_ ?_
 ·
  refine le_ren [] (.cons kR (.cons kR (.cons kR (.cons kR .nil)))) .nil kR kR
 intro k hk
 refine sX hTT 2 1 [] tI (sK fun K hK => ?_)
 refine w_cond (t := decide ((↑k : Int) < (↑n : Int))) kR (fun c1 => ?_) (fun c1 => ?_)
 ·
  have hk1 : k < n := by simpa using c1
  have := h k hk1
  refine aw_skip ?_
  refine xt_n (hK _ ?_); clear hK K; refine sK fun K hK => ?_
  refine aw_block ?_
  refine sX hTT 3 2 [] tI (sX hTT 4 6 [(3, .c ((0 : Int) ≤ (↑k : Int) ∧ (↑k : Int) < (↑n : Int)))] ⟨oM, tI⟩ ?_)
  refine w_cond (t := decide (x = gi l k)) kR (fun c2 => ?_) (fun c2 => ?_)
  ·
   simp at c2; omega
  refine aw_skip ?_
  refine xb_n (xt_n (hK _ ?_)); clear hK K; refine wR 5 (aX hTT 2 [(0, .i ((↑k : Int) + 1))] ⟨oM, tI⟩ (aops_nil (xt_n ?_)))
  refine ⟨k + 1, by omega, ?_, by omega⟩
  refine le_ren [] (.cons kR (.cons kR (.cons kR (.cons kR .nil)))) .nil kR kR
 ·
  refine aw_exit ?_
  refine xt_x ?_; refine xt_x ?_
  refine xb_same ?_
  refine xt_n ?_; clear hK K; refine hK _ ?_; clear hK K; refine sX hTT 3 1 [] tI ?_
  refine aw_ret ?_
  refine rP (V.i (-1))
set_option maxRecDepth 100000 in
theorem contains4_ac (l : List Int) (n : Nat) (x : Int) (hn : n ≤ 1000000) (h : ∀ k, k < n → gi l k ≠ x) : AC Tryz.prog 18 [.sl 1 n fun k => [.i (gi l k)], .i x] (.b false) [] := by
 refine acI hTT hMX Tryz.func18 Tryz.ntmps18 fun C hC hF => ?_
 refine sX hTT 2 1 [] tI (sK fun K hK => wR 3 (aX hTT 2 [] tI ?_))
 refine eC (index4_ac l n x hn h) ?_
 refine aX hTT 2 [] tI (nK hK ?_); clear hK K
 refine aw_ret ?_
 refine rP (V.b false)
set_option maxRecDepth 100000 in
theorem Lay_ac (f : Fm) (l : List Tr) (o : List Int) (h : OrOk f l o) (hd : ∀ k, k < o.length → ∀ j, j < k → gi o j ≠ gi o k) (hp : psB f (trO l o) o.length = true) : AC Tryz.prog 7 [.agg f.c, V.trs l, V.ints o] (.tup [V.bnds f l o, .i o.length, .i 0]) [] := by
 have L := lay_ac f l o h
 rw [lyV_ok hp] at L
 have hn24 := h.nn
 refine acI hTT hMX Tryz.func7 Tryz.ntmps7 fun C hC hF => ?_
 refine sX hTT 2 4 [] tI (sK fun K hK => wR 3 (aX hTT 2 [] tI ?_))
 refine eC (open4_ac f h.ff l h.ll h.tt) ?_
 refine aX hTT 5 [] tI (nK hK ?_); clear hK K; refine sK fun K hK => sX hTT 4 2 [] tI (w_false (t := false) kR rfl ?_)
 refine aw_skip ?_
 refine xt_n (hK _ ?_); clear hK K; refine sK fun K hK => sX hTT 5 3 [] tI ?_
 refine aw_block ?_
 refine w_loop (ι := Nat) (fun k => [(1, V.trs l), (2, V.ints o), (9, .ptr (plC4 f l)), (22, V.ints o), (23, .i o.length), (24, .i k)]) (fun _ => []) (fun k => k ≤ o.length) (fun k => o.length - k) 0 (Nat.zero_le _) ?_ ?_
 ·
  refine le_ren [] (.cons kR (.cons kR (.cons kR (.cons kR (.cons kR (.cons kR .nil)))))) .nil kR kR
 intro k hk
 refine sX hTT 2 1 [] tI (sK fun K hK => ?_)
 refine w_cond (t := decide ((↑k : Int) < (↑(List.length o) : Int))) kR (fun c1 => ?_) (fun c1 => ?_)
 ·
  have hk1 : k < o.length := by simpa using c1
  have hr := h.oo k hk1
  refine aw_skip ?_
  refine xt_n (hK _ ?_); clear hK K; refine sK fun K hK => ?_
  refine aw_block ?_
  refine sX hTT 3 5 [(1, .c ((0 : Int) ≤ (↑k : Int) ∧ (↑k : Int) < (↑(List.length o) : Int)))] ⟨oM, tI⟩ ?_
  refine aw_block ?_
  refine sX hTT 4 9 [(3, .c (gA (decide (gi o k < 0) == false) True)), (4, .c (gA (decide (gi o k < 0) == false) True)), (5, .c (gB (decide (gi o k < 0) == false) True)), (6, .c (gC (decide (gi o k < 0) == false) True)), (7, .c (True ∧ (decide (gi o k < 0) = false → (decide (gi o k < 0) == false) = true)))] ⟨⟨⟨tI, tI⟩, (fun _ => tI)⟩, ⟨⟨tI, tI⟩, (fun _ => tI)⟩, ⟨⟨(by (exact fun h => h)), tI⟩, (fun _ => tI)⟩, ⟨⟨(by (exact fun h => h)), ⟨(by (exact fun h => h)), tI⟩⟩, (fun _ => tI)⟩, ⟨tI, (by (intro h; rw [h]; rfl))⟩, tI⟩ ?_
  refine w_cond (t := decide (gi o k < 0) || decide ((↑(List.length l) : Int) ≤ gi o k)) kR (fun c2 => ?_) (fun c2 => ?_)
  ·
   simp at c2; omega
  refine sK fun K hK => wR 5 (aX hTT 4 [(2, .c ((0 : Int) ≤ (0 : Int) ∧ (0 : Int) ≤ (↑k : Int) ∧ (↑k : Int) ≤ (↑(List.length o) : Int)))] ⟨⟨oM, oM⟩, tI⟩ ?_)
  refine eC (contains4_ac o k (gi o k) oM (hd k hk1)) ?_
  refine aX hTT 1 [] tI (nK hK ?_); clear hK K; refine w_false (t := false) kR rfl ?_
  refine aw_skip ?_
  refine xb_n (xb_n (xt_n (hK _ ?_))); clear hK K; refine wR 6 (aX hTT 2 [(0, .i ((↑k : Int) + 1))] ⟨oM, tI⟩ (aops_nil (xt_n ?_)))
  refine ⟨k + 1, by omega, ?_, by omega⟩
  refine le_ren [] (.cons kR (.cons kR (.cons kR (.cons kR (.cons kR (.cons kR .nil)))))) .nil kR kR
 ·
  refine aw_exit ?_
  refine xt_x ?_; refine xt_x ?_
  refine xb_same ?_
  refine xt_n ?_; clear hK K; refine hK _ ?_; clear hK K; refine sK fun K hK => wR 3 (aX hTT 2 [] tI ?_)
  refine eC (L) ?_
  refine aX hTT 6 [] tI (nK hK ?_); clear hK K
  refine aw_ret ?_
  refine rP (V.tup [V.sl 3 (List.length o) (bndC f l o), V.i (↑(List.length o) : Int), V.i 0])
set_option maxRecDepth 100000 in
theorem silent_ac (h : Int) (n : Nat) (hh : 0 ≤ h ∧ h ≤ 1000) (hn : n ≤ 100) : AC Tryz.prog 8 [.i h, .i n] (V.pts (silL h n)) [] := by
 refine acI hTT hMX Tryz.func8 Tryz.ntmps8 fun C hC hF => ?_
 refine sX hTT 2 1 [] tI (sX hTT 3 1 [] tI (sK fun K hK => sX hTT 4 1 [] tI ?_))
 refine aw_block ?_
 refine w_le (le_open 5 57 2 (fun k => [.i (-h), .i h]) kR rfl) ?_
 refine w_loop (ι := Nat) (fun k => [(0, .i h), (1, .i n), (5, .own 1), (6, .i k)]) (fun k => [(1, .row 57 2 k fun _ => [.i (-h), .i h])]) (fun k => k ≤ n) (fun k => n - k) 0 (Nat.zero_le _) ?_ ?_
 ·
  refine le_ren (sl := [(1, Ob.row 57 2 0 fun (x : Nat) => [V.i (-h), V.i h])]) [(1, 400005)] (.cons kR (.cons kR (.cons kR (.cons kR .nil)))) (.cons ⟨Ob.row 57 2 0 fun (k : Nat) => [V.i (-h), V.i h], kR, .row kR (fun _ _ => rfl)⟩ .nil) kR kR
 intro k hk
 refine sK fun K hK => sX hTT 2 3 [] tI ?_
 refine w_cond (t := decide ((↑k : Int) < (↑n : Int))) kR (fun c1 => ?_) (fun c1 => ?_)
 ·
  have hk1 : k < n := by simpa using c1
  refine aw_skip ?_
  refine xt_n (hK _ ?_); clear hK K; refine sK fun K hK => ?_
  refine aw_block ?_
  refine wR 3 (aX hTT 8 [(2, .i (-h)), (6, .r (PR.mk (some (18 : Nat)) (some (k + 1 ≤ (1099511627776 : Nat))) (V.own 200018) [((1 : Nat), none), ((200018 : Nat), some (Ob.row 57 2 (k + 1) (appRow k (fun (x : Nat) => [V.i (-h), V.i h]) fun (i : Nat) => List.take (2 : Nat) (List.drop (i * 2) [V.i (-h), V.i h]))))] false))] ⟨oM, oM, tI⟩ (aops_nil (xb_n (xt_n (hK _ ?_))))); clear hK K; refine wR 4 (aX hTT 3 [(1, .i ((↑k : Int) + 1))] ⟨oM, tI⟩ (aops_nil (xt_n ?_)))
  refine ⟨k + 1, by omega, ?_, by omega⟩
  refine le_ren (tl := [(0, V.i h), (1, V.i (↑n : Int)), (5, V.own 1), (6, V.i (↑(k + 1) : Int))]) (sl := [(1, Ob.row 57 2 (k + 1) fun (x : Nat) => [V.i (-h), V.i h])]) [(1, 200018)] (.cons kR (.cons kR (.cons kR (.cons kR .nil)))) (.cons ⟨Ob.row 57 2 (k + 1) (appRow k (fun (x : Nat) => [V.i (-h), V.i h]) fun (i : Nat) => List.take (2 : Nat) (List.drop (i * 2) [V.i (-h), V.i h])), kR, .row kR ?_⟩ .nil) kR kR
  exact appRow_ok (fun i hi => rfl) rfl
 ·
  have hk1 : k = n := by simp at c1; omega
  refine w_le (le_shut 5 1 (e := (57 : Nat)) (sz := (2 : Nat)) (n := k) (n' := (silL h n).length) (row := fun (x : Nat) => [V.i (-h), V.i h]) (row' := (fun k => [.i (gp (silL h n) k).1, .i (gp (silL h n) k).2])) kR kR (fun _ _ => rfl) ?_ ?_) ?_
  ·
   rw [silL_len]; omega
  ·
   intro i hi
   rw [silL_gp oM]
  refine aw_exit ?_
  refine xt_x ?_; refine xt_x ?_
  refine xb_same ?_
  refine xt_n ?_; clear hK K; refine hK _ ?_; clear hK K; refine sX hTT 3 2 [] tI ?_
  refine aw_ret ?_
  refine rP (V.sl 2 (List.length (silL h n)) fun (k : Nat) => [V.i (Prod.fst (gp (silL h n) k)), V.i (Prod.snd (gp (silL h n) k))])
end Go.Proofs.YtffggfnomhhckaaGreatDoor

namespace Go.Proofs.YtffggfnomhhckaaGreatDoor
open Go.Ab Go.RowKit Go.Dw Go.Shelf
set_option maxRecDepth 100000 in
theorem within4_ac (x lo hi : Int) : AC Tryz.prog 24 [.i x, .i lo, .i hi] (.b (betB x lo hi)) [] := by
 refine acI hTT hMX Tryz.func24 Tryz.ntmps24 fun C hC hF => ?_
 refine sX hTT 2 1 [] tI ?_; refine sX hTT 3 9 [(4, .c (gA (decide (lo ≤ x) == true) True)), (5, .c (gA (decide (lo ≤ x) == true) True)), (6, .c (gC (decide (lo ≤ x) == true) True)), (7, .c ((decide (lo ≤ x) = true → (decide (lo ≤ x) == true) = true) ∧ True))] ⟨⟨⟨tI, tI⟩, (fun _ => tI)⟩, ⟨⟨tI, tI⟩, (fun _ => tI)⟩, ⟨⟨(by (exact fun h => h)), ⟨(by (exact fun h => h)), tI⟩⟩, (fun _ => tI)⟩, ⟨(by (intro h; rw [h]; rfl)), tI⟩, tI⟩ ?_
 refine aw_ret ?_
 refine rP (V.b (decide (lo ≤ x) && decide (x ≤ hi)))
set_option maxRecDepth 100000 in
theorem name4_ac (s : List UInt8) (hl : s.length ≤ 9223372036854775807) : AC Tryz.prog 23 [nmV s] (.b (nmB s)) [] := by
 have hsz := bytes_size s
 refine acI hTT hMX Tryz.func23 Tryz.ntmps23 fun C hC hF => ?_
 refine sX hTT 2 1 [] tI (sK fun K hK => ?_); refine sX hTT 3 8 [(4, .c (gA (decide ((↑(ByteArray.size (ByteArray.mk (List.toArray s))) : Int) < 1) == false) True)), (5, .c (gB (decide ((↑(ByteArray.size (ByteArray.mk (List.toArray s))) : Int) < 1) == false) True)), (6, .c (gD (decide ((↑(ByteArray.size (ByteArray.mk (List.toArray s))) : Int) < 1) == false) True)), (7, .c (True ∧ (decide ((↑(ByteArray.size (ByteArray.mk (List.toArray s))) : Int) < 1) = false → (decide ((↑(ByteArray.size (ByteArray.mk (List.toArray s))) : Int) < 1) == false) = true)))] ⟨⟨⟨tI, tI⟩, (fun _ => tI)⟩, ⟨⟨(by (exact fun h => h)), tI⟩, (fun _ => tI)⟩, ⟨⟨(by (exact fun h => h)), ⟨tI, tI⟩⟩, (fun _ => tI)⟩, ⟨tI, (by (intro h; rw [h]; rfl))⟩, tI⟩ ?_
 refine w_cond (t := decide ((↑(ByteArray.size (ByteArray.mk (List.toArray s))) : Int) < 1) || decide ((20 : Int) < (↑(ByteArray.size (ByteArray.mk (List.toArray s))) : Int))) kR (fun c1 => ?_) (fun c1 => ?_)
 ·
  rw [hsz] at c1
  have e := nmB_len (s := s) (by simp at c1; omega)
  refine sX hTT 4 1 [] tI ?_
  refine aw_ret ?_
  refine xt_r ?_
  rw [e]
  refine rP (V.b false)
 rw [hsz] at c1
 have h1 : 1 ≤ s.length ∧ s.length ≤ 20 := by simp at c1; omega
 refine aw_skip ?_
 refine xt_n (hK _ ?_); clear hK K; refine sK fun K hK => sX hTT 4 1 [] tI ?_
 refine aw_block ?_
 refine w_loop (ι := Nat) (fun k => [(0, nmV s), (3, .i k)]) (fun _ => []) (fun k => k ≤ s.length ∧ ∀ j, j < k → chB (gby s j) = true) (fun k => s.length - k) 0 ⟨Nat.zero_le _, fun j hj => by omega⟩ ?_ ?_
 ·
  refine le_ren [] (.cons kR (.cons kR .nil)) .nil kR kR
 rintro k ⟨hk, hj⟩
 refine sK fun K hK => sX hTT 2 4 [] tI ?_
 refine w_cond (t := decide ((↑k : Int) < (↑(ByteArray.size (ByteArray.mk (List.toArray s))) : Int))) kR (fun c2 => ?_) (fun c2 => ?_)
 ·
  rw [hsz] at c2
  have hk1 : k < s.length := by simpa using c2
  have e := strB_gby s hk1
  refine aw_skip ?_
  refine xt_n (hK _ ?_); clear hK K; refine sK fun K hK => ?_
  refine aw_block ?_
  refine sX hTT 3 24 [(2, .c ((0 : Int) ≤ (↑k : Int) ∧ (↑k : Int) < (↑(ByteArray.size (ByteArray.mk (List.toArray s))) : Int))), (5, .c (gA (decide ((97 : Int) ≤ strB (ByteArray.mk (List.toArray s)) k) == true) True)), (6, .c (gA (decide ((97 : Int) ≤ strB (ByteArray.mk (List.toArray s)) k) == true) True)), (7, .c (gC (decide ((97 : Int) ≤ strB (ByteArray.mk (List.toArray s)) k) == true) ((0 : Int) ≤ (↑k : Int) ∧ (↑k : Int) < (↑(ByteArray.size (ByteArray.mk (List.toArray s))) : Int)))), (8, .c (gD (decide ((97 : Int) ≤ strB (ByteArray.mk (List.toArray s)) k) == true) True)), (9, .c ((decide ((97 : Int) ≤ strB (ByteArray.mk (List.toArray s)) k) = true → (decide ((97 : Int) ≤ strB (ByteArray.mk (List.toArray s)) k) == true) = true) ∧ True)), (12, .c (gA ((!(decide ((97 : Int) ≤ strB (ByteArray.mk (List.toArray s)) k) && decide (strB (ByteArray.mk (List.toArray s)) k ≤ 122))) == true) True)), (13, .c (gA ((!(decide ((97 : Int) ≤ strB (ByteArray.mk (List.toArray s)) k) && decide (strB (ByteArray.mk (List.toArray s)) k ≤ 122))) == true) True)), (14, .c (gC ((!(decide ((97 : Int) ≤ strB (ByteArray.mk (List.toArray s)) k) && decide (strB (ByteArray.mk (List.toArray s)) k ≤ 122))) == true) ((0 : Int) ≤ (↑k : Int) ∧ (↑k : Int) < (↑(ByteArray.size (ByteArray.mk (List.toArray s))) : Int)))), (15, .c (gD ((!(decide ((97 : Int) ≤ strB (ByteArray.mk (List.toArray s)) k) && decide (strB (ByteArray.mk (List.toArray s)) k ≤ 122))) == true) True)), (16, .c (gB ((!(decide ((97 : Int) ≤ strB (ByteArray.mk (List.toArray s)) k) && decide (strB (ByteArray.mk (List.toArray s)) k ≤ 122))) == true) True)), (17, .c (gA ((!(decide ((97 : Int) ≤ strB (ByteArray.mk (List.toArray s)) k) && decide (strB (ByteArray.mk (List.toArray s)) k ≤ 122))) == true && decide ((48 : Int) ≤ strB (ByteArray.mk (List.toArray s)) k) == true) True)), (18, .c (gA ((!(decide ((97 : Int) ≤ strB (ByteArray.mk (List.toArray s)) k) && decide (strB (ByteArray.mk (List.toArray s)) k ≤ 122))) == true && decide ((48 : Int) ≤ strB (ByteArray.mk (List.toArray s)) k) == true) True)), (19, .c (gC ((!(decide ((97 : Int) ≤ strB (ByteArray.mk (List.toArray s)) k) && decide (strB (ByteArray.mk (List.toArray s)) k ≤ 122))) == true && decide ((48 : Int) ≤ strB (ByteArray.mk (List.toArray s)) k) == true) ((0 : Int) ≤ (↑k : Int) ∧ (↑k : Int) < (↑(ByteArray.size (ByteArray.mk (List.toArray s))) : Int)))), (20, .c (gD ((!(decide ((97 : Int) ≤ strB (ByteArray.mk (List.toArray s)) k) && decide (strB (ByteArray.mk (List.toArray s)) k ≤ 122))) == true && decide ((48 : Int) ≤ strB (ByteArray.mk (List.toArray s)) k) == true) True)), (21, .c ((((!(decide ((97 : Int) ≤ strB (ByteArray.mk (List.toArray s)) k) && decide (strB (ByteArray.mk (List.toArray s)) k ≤ 122))) == true) = true → ((!(decide ((97 : Int) ≤ strB (ByteArray.mk (List.toArray s)) k) && decide (strB (ByteArray.mk (List.toArray s)) k ≤ 122))) == true) = true) ∧ (((!(decide ((97 : Int) ≤ strB (ByteArray.mk (List.toArray s)) k) && decide (strB (ByteArray.mk (List.toArray s)) k ≤ 122))) == true) = true → decide ((48 : Int) ≤ strB (ByteArray.mk (List.toArray s)) k) = true → ((!(decide ((97 : Int) ≤ strB (ByteArray.mk (List.toArray s)) k) && decide (strB (ByteArray.mk (List.toArray s)) k ≤ 122))) == true && decide ((48 : Int) ≤ strB (ByteArray.mk (List.toArray s)) k) == true) = true) ∧ (((!(decide ((97 : Int) ≤ strB (ByteArray.mk (List.toArray s)) k) && decide (strB (ByteArray.mk (List.toArray s)) k ≤ 122))) == true) = true → True))), (22, .c (gB ((!(decide ((97 : Int) ≤ strB (ByteArray.mk (List.toArray s)) k) && decide (strB (ByteArray.mk (List.toArray s)) k ≤ 122))) == true) True)), (23, .c (((!(decide ((97 : Int) ≤ strB (ByteArray.mk (List.toArray s)) k) && decide (strB (ByteArray.mk (List.toArray s)) k ≤ 122))) = true → ((!(decide ((97 : Int) ≤ strB (ByteArray.mk (List.toArray s)) k) && decide (strB (ByteArray.mk (List.toArray s)) k ≤ 122))) == true) = true) ∧ True))] ⟨oM, ⟨⟨tI, tI⟩, (fun _ => tI)⟩, ⟨⟨tI, tI⟩, (fun _ => tI)⟩, ⟨⟨(by (exact fun h => h)), ⟨(by (exact fun h => h)), tI⟩⟩, (by (intro hg; simp at hg; omega))⟩, ⟨⟨(by (exact fun h => h)), ⟨tI, tI⟩⟩, (fun _ => tI)⟩, ⟨(by (intro h; rw [h]; rfl)), tI⟩, ⟨⟨tI, tI⟩, (fun _ => tI)⟩, ⟨⟨tI, tI⟩, (fun _ => tI)⟩, ⟨⟨(by (exact fun h => h)), ⟨(by (exact fun h => h)), tI⟩⟩, (by (intro hg; simp at hg; omega))⟩, ⟨⟨(by (exact fun h => h)), ⟨tI, tI⟩⟩, (fun _ => tI)⟩, ⟨⟨(by (exact fun h => h)), tI⟩, (fun _ => tI)⟩, ⟨⟨tI, tI⟩, (fun _ => tI)⟩, ⟨⟨tI, tI⟩, (fun _ => tI)⟩, ⟨⟨(by (exact fun h => h)), ⟨(by (exact fun h => h)), tI⟩⟩, (by (intro hg; simp at hg; omega))⟩, ⟨⟨(by (exact fun h => h)), ⟨tI, tI⟩⟩, (fun _ => tI)⟩, ⟨(by (exact fun h => h)), ⟨(by (simp; omega)), (fun _ => tI)⟩⟩, ⟨⟨(by (exact fun h => h)), tI⟩, (fun _ => tI)⟩, ⟨(by (intro h; rw [h]; rfl)), tI⟩, tI⟩ ?_
  refine w_cond (t := !(decide ((97 : Int) ≤ strB (ByteArray.mk (List.toArray s)) k) && decide (strB (ByteArray.mk (List.toArray s)) k ≤ 122)) && !(decide ((48 : Int) ≤ strB (ByteArray.mk (List.toArray s)) k) && decide (strB (ByteArray.mk (List.toArray s)) k ≤ 57))) kR (fun c3 => ?_) (fun c3 => ?_)
  ·
   have e2 : chB (gby s k) = false := by
    rw [e] at c3
    revert c3
    unfold chB
    cases (decide (97 ≤ gby s k) && decide (gby s k ≤ 122)) <;> cases (decide (48 ≤ gby s k) && decide (gby s k ≤ 57)) <;> simp
   have e3 := nmB_bad hk1 e2
   refine sX hTT 4 1 [] tI ?_
   refine aw_ret ?_
   refine xb_r ?_
   refine xt_r (xt_r ?_)
   refine xb_r ?_
   refine xt_r ?_
   rw [e3]
   refine rP (V.b false)
  ·
   have e2 : chB (gby s k) = true := by
    rw [e] at c3
    revert c3
    unfold chB
    cases (decide (97 ≤ gby s k) && decide (gby s k ≤ 122)) <;> cases (decide (48 ≤ gby s k) && decide (gby s k ≤ 57)) <;> simp
   refine aw_skip ?_
   refine xb_n (xt_n (hK _ ?_)); clear hK K; refine wR 4 (aX hTT 3 [(1, .i ((↑k : Int) + 1))] ⟨oM, tI⟩ (aops_nil (xt_n ?_)))
   refine ⟨k + 1, ⟨by omega, fun j hj2 => ?_⟩, by refine le_ren [] (.cons kR (.cons kR .nil)) .nil kR kR, by omega⟩
   by_cases e5 : j = k
   ·
    rw [e5]; exact e2
   ·
    exact hj j oM
 ·
  rw [hsz] at c2
  have hk1 : k = s.length := by simp at c2; omega
  have e := nmB_ok h1.1 h1.2 fun j h => hj j oM
  refine aw_exit ?_
  refine xt_x ?_; refine xt_x ?_
  refine xb_same ?_
  refine xt_n ?_; clear hK K; refine hK _ ?_; clear hK K; refine sX hTT 3 1 [] tI ?_
  refine aw_ret ?_
  rw [e]
  refine rP (V.b true)
def fmE (f : Fm) : Int := if fmB f then 0 else 2
set_option maxRecDepth 100000 in
theorem rCheckFormat_ac (f : Fm) (hl : f.1.length ≤ 9223372036854775807) : AC Tryz.prog 11 [.agg f.c] (.i (fmE f)) [] := by
 refine acI hTT hMX Tryz.func11 Tryz.ntmps11 fun C hC hF => ?_
 refine sX hTT 2 2 [] tI (sK fun K hK => sK fun K hK => wR 3 (aX hTT 2 [] tI ?_))
 refine eC (name4_ac f.1 hl) ?_
 refine aX hTT 4 [(2, .c (gA ((!nmB (Prod.fst f)) == false) True)), (3, .c (gB ((!nmB (Prod.fst f)) == false) True))] ⟨⟨⟨tI, tI⟩, (fun _ => tI)⟩, ⟨⟨(by (exact fun h => h)), tI⟩, (fun _ => tI)⟩, tI⟩ ?_
 refine eG 1 (g := (!nmB (Prod.fst f)) == false) (fun h => within4_ac f.ou 0 4194304) ?_
 refine aX hTT 8 [(0, .c (gB ((!nmB (Prod.fst f)) == false) True)), (1, .c (True ∧ ((!nmB (Prod.fst f)) = false → ((!nmB (Prod.fst f)) == false) = true))), (3, .c (gA ((!nmB (Prod.fst f) || !betB (Fm.ou f) (0 : Int) (4194304 : Int)) == false) True)), (4, .c (gB ((!nmB (Prod.fst f) || !betB (Fm.ou f) (0 : Int) (4194304 : Int)) == false) True)), (5, .c (gA ((!nmB (Prod.fst f) || !betB (Fm.ou f) (0 : Int) (4194304 : Int)) == false) True)), (6, .c (gB ((!nmB (Prod.fst f) || !betB (Fm.ou f) (0 : Int) (4194304 : Int)) == false) True)), (7, .c (gD ((!nmB (Prod.fst f) || !betB (Fm.ou f) (0 : Int) (4194304 : Int)) == false) ((-9223372036854775808 : Int) ≤ Fm.ou f - 1 ∧ Fm.ou f - 1 ≤ (9223372036854775807 : Int))))] ⟨⟨⟨(by (exact fun h => h)), tI⟩, (fun _ => tI)⟩, ⟨tI, (by (intro h; rw [h]; rfl))⟩, ⟨⟨tI, tI⟩, (fun _ => tI)⟩, ⟨⟨(by (exact fun h => h)), tI⟩, (fun _ => tI)⟩, ⟨⟨tI, tI⟩, (fun _ => tI)⟩, ⟨⟨(by (exact fun h => h)), tI⟩, (fun _ => tI)⟩, ⟨⟨(by (exact fun h => h)), ⟨tI, tI⟩⟩, ?_⟩, tI⟩ ?_
 ·
  intro h
  simp [betB] at h
  omega
 refine eG 2 (g := (!nmB (Prod.fst f) || !betB (Fm.ou f) (0 : Int) (4194304 : Int)) == false) (fun h => within4_ac f.inn 0 (f.ou - 1)) ?_
 refine aX hTT 5 [(0, .c (gB ((!nmB (Prod.fst f) || !betB (Fm.ou f) (0 : Int) (4194304 : Int)) == false) True)), (1, .c (True ∧ ((!nmB (Prod.fst f) || !betB (Fm.ou f) (0 : Int) (4194304 : Int)) = false → ((!nmB (Prod.fst f) || !betB (Fm.ou f) (0 : Int) (4194304 : Int)) == false) = true))), (3, .c (gA ((!nmB (Prod.fst f) || !betB (Fm.ou f) (0 : Int) (4194304 : Int) || !betB (Fm.inn f) (0 : Int) (Fm.ou f - 1)) == false) True)), (4, .c (gB ((!nmB (Prod.fst f) || !betB (Fm.ou f) (0 : Int) (4194304 : Int) || !betB (Fm.inn f) (0 : Int) (Fm.ou f - 1)) == false) True))] ⟨⟨⟨(by (exact fun h => h)), tI⟩, (fun _ => tI)⟩, ⟨tI, (by (intro h; rw [h]; rfl))⟩, ⟨⟨tI, tI⟩, (fun _ => tI)⟩, ⟨⟨(by (exact fun h => h)), tI⟩, (fun _ => tI)⟩, tI⟩ ?_
 refine eG 1 (g := (!nmB (Prod.fst f) || !betB (Fm.ou f) (0 : Int) (4194304 : Int) || !betB (Fm.inn f) (0 : Int) (Fm.ou f - 1)) == false) (fun h => within4_ac f.per 1 65536) ?_
 refine aX hTT 5 [(0, .c (gB ((!nmB (Prod.fst f) || !betB (Fm.ou f) (0 : Int) (4194304 : Int) || !betB (Fm.inn f) (0 : Int) (Fm.ou f - 1)) == false) True)), (1, .c (True ∧ ((!nmB (Prod.fst f) || !betB (Fm.ou f) (0 : Int) (4194304 : Int) || !betB (Fm.inn f) (0 : Int) (Fm.ou f - 1)) = false → ((!nmB (Prod.fst f) || !betB (Fm.ou f) (0 : Int) (4194304 : Int) || !betB (Fm.inn f) (0 : Int) (Fm.ou f - 1)) == false) = true))), (3, .c (gA ((!nmB (Prod.fst f) || !betB (Fm.ou f) (0 : Int) (4194304 : Int) || !betB (Fm.inn f) (0 : Int) (Fm.ou f - 1) || !betB (Fm.per f) (1 : Int) (65536 : Int)) == false) True)), (4, .c (gB ((!nmB (Prod.fst f) || !betB (Fm.ou f) (0 : Int) (4194304 : Int) || !betB (Fm.inn f) (0 : Int) (Fm.ou f - 1) || !betB (Fm.per f) (1 : Int) (65536 : Int)) == false) True))] ⟨⟨⟨(by (exact fun h => h)), tI⟩, (fun _ => tI)⟩, ⟨tI, (by (intro h; rw [h]; rfl))⟩, ⟨⟨tI, tI⟩, (fun _ => tI)⟩, ⟨⟨(by (exact fun h => h)), tI⟩, (fun _ => tI)⟩, tI⟩ ?_
 refine eG 1 (g := (!nmB (Prod.fst f) || !betB (Fm.ou f) (0 : Int) (4194304 : Int) || !betB (Fm.inn f) (0 : Int) (Fm.ou f - 1) || !betB (Fm.per f) (1 : Int) (65536 : Int)) == false) (fun h => within4_ac f.lead 0 4194304) ?_
 refine aX hTT 5 [(0, .c (gB ((!nmB (Prod.fst f) || !betB (Fm.ou f) (0 : Int) (4194304 : Int) || !betB (Fm.inn f) (0 : Int) (Fm.ou f - 1) || !betB (Fm.per f) (1 : Int) (65536 : Int)) == false) True)), (1, .c (True ∧ ((!nmB (Prod.fst f) || !betB (Fm.ou f) (0 : Int) (4194304 : Int) || !betB (Fm.inn f) (0 : Int) (Fm.ou f - 1) || !betB (Fm.per f) (1 : Int) (65536 : Int)) = false → ((!nmB (Prod.fst f) || !betB (Fm.ou f) (0 : Int) (4194304 : Int) || !betB (Fm.inn f) (0 : Int) (Fm.ou f - 1) || !betB (Fm.per f) (1 : Int) (65536 : Int)) == false) = true))), (3, .c (gA ((!nmB (Prod.fst f) || !betB (Fm.ou f) (0 : Int) (4194304 : Int) || !betB (Fm.inn f) (0 : Int) (Fm.ou f - 1) || !betB (Fm.per f) (1 : Int) (65536 : Int) || !betB (Fm.lead f) (0 : Int) (4194304 : Int)) == false) True)), (4, .c (gB ((!nmB (Prod.fst f) || !betB (Fm.ou f) (0 : Int) (4194304 : Int) || !betB (Fm.inn f) (0 : Int) (Fm.ou f - 1) || !betB (Fm.per f) (1 : Int) (65536 : Int) || !betB (Fm.lead f) (0 : Int) (4194304 : Int)) == false) True))] ⟨⟨⟨(by (exact fun h => h)), tI⟩, (fun _ => tI)⟩, ⟨tI, (by (intro h; rw [h]; rfl))⟩, ⟨⟨tI, tI⟩, (fun _ => tI)⟩, ⟨⟨(by (exact fun h => h)), tI⟩, (fun _ => tI)⟩, tI⟩ ?_
 refine eG 1 (g := (!nmB (Prod.fst f) || !betB (Fm.ou f) (0 : Int) (4194304 : Int) || !betB (Fm.inn f) (0 : Int) (Fm.ou f - 1) || !betB (Fm.per f) (1 : Int) (65536 : Int) || !betB (Fm.lead f) (0 : Int) (4194304 : Int)) == false) (fun h => within4_ac f.gap 0 4194304) ?_
 refine aX hTT 5 [(0, .c (gB ((!nmB (Prod.fst f) || !betB (Fm.ou f) (0 : Int) (4194304 : Int) || !betB (Fm.inn f) (0 : Int) (Fm.ou f - 1) || !betB (Fm.per f) (1 : Int) (65536 : Int) || !betB (Fm.lead f) (0 : Int) (4194304 : Int)) == false) True)), (1, .c (True ∧ ((!nmB (Prod.fst f) || !betB (Fm.ou f) (0 : Int) (4194304 : Int) || !betB (Fm.inn f) (0 : Int) (Fm.ou f - 1) || !betB (Fm.per f) (1 : Int) (65536 : Int) || !betB (Fm.lead f) (0 : Int) (4194304 : Int)) = false → ((!nmB (Prod.fst f) || !betB (Fm.ou f) (0 : Int) (4194304 : Int) || !betB (Fm.inn f) (0 : Int) (Fm.ou f - 1) || !betB (Fm.per f) (1 : Int) (65536 : Int) || !betB (Fm.lead f) (0 : Int) (4194304 : Int)) == false) = true))), (3, .c (gA ((!nmB (Prod.fst f) || !betB (Fm.ou f) (0 : Int) (4194304 : Int) || !betB (Fm.inn f) (0 : Int) (Fm.ou f - 1) || !betB (Fm.per f) (1 : Int) (65536 : Int) || !betB (Fm.lead f) (0 : Int) (4194304 : Int) || !betB (Fm.gap f) (0 : Int) (4194304 : Int)) == false) True)), (4, .c (gB ((!nmB (Prod.fst f) || !betB (Fm.ou f) (0 : Int) (4194304 : Int) || !betB (Fm.inn f) (0 : Int) (Fm.ou f - 1) || !betB (Fm.per f) (1 : Int) (65536 : Int) || !betB (Fm.lead f) (0 : Int) (4194304 : Int) || !betB (Fm.gap f) (0 : Int) (4194304 : Int)) == false) True))] ⟨⟨⟨(by (exact fun h => h)), tI⟩, (fun _ => tI)⟩, ⟨tI, (by (intro h; rw [h]; rfl))⟩, ⟨⟨tI, tI⟩, (fun _ => tI)⟩, ⟨⟨(by (exact fun h => h)), tI⟩, (fun _ => tI)⟩, tI⟩ ?_
 refine eG 1 (g := (!nmB (Prod.fst f) || !betB (Fm.ou f) (0 : Int) (4194304 : Int) || !betB (Fm.inn f) (0 : Int) (Fm.ou f - 1) || !betB (Fm.per f) (1 : Int) (65536 : Int) || !betB (Fm.lead f) (0 : Int) (4194304 : Int) || !betB (Fm.gap f) (0 : Int) (4194304 : Int)) == false) (fun h => within4_ac f.tail 0 4194304) ?_
 refine aops_n hTT (M := []) (n := 5) [pc 44 (((((!nmB (Prod.fst f) || !betB (Fm.ou f) (0 : Int) (4194304 : Int) || !betB (Fm.inn f) (0 : Int) (Fm.ou f - 1) || !betB (Fm.per f) (1 : Int) (65536 : Int) || !betB (Fm.lead f) (0 : Int) (4194304 : Int) || !betB (Fm.gap f) (0 : Int) (4194304 : Int)) == false) = true → ((!nmB (Prod.fst f) || !betB (Fm.ou f) (0 : Int) (4194304 : Int) || !betB (Fm.inn f) (0 : Int) (Fm.ou f - 1) || !betB (Fm.per f) (1 : Int) (65536 : Int) || !betB (Fm.lead f) (0 : Int) (4194304 : Int) || !betB (Fm.gap f) (0 : Int) (4194304 : Int)) == false) = true) ∧ True) ∧ (((!nmB (Prod.fst f) || !betB (Fm.ou f) (0 : Int) (4194304 : Int) || !betB (Fm.inn f) (0 : Int) (Fm.ou f - 1) || !betB (Fm.per f) (1 : Int) (65536 : Int) || !betB (Fm.lead f) (0 : Int) (4194304 : Int) || !betB (Fm.gap f) (0 : Int) (4194304 : Int)) == false) = true → True)) (V.gd ((!nmB (Prod.fst f) || !betB (Fm.ou f) (0 : Int) (4194304 : Int) || !betB (Fm.inn f) (0 : Int) (Fm.ou f - 1) || !betB (Fm.per f) (1 : Int) (65536 : Int) || !betB (Fm.lead f) (0 : Int) (4194304 : Int) || !betB (Fm.gap f) (0 : Int) (4194304 : Int)) == false) (V.b !betB (Fm.tail f) (0 : Int) (4194304 : Int))), pc 45 (True ∧ ((!nmB (Prod.fst f) || !betB (Fm.ou f) (0 : Int) (4194304 : Int) || !betB (Fm.inn f) (0 : Int) (Fm.ou f - 1) || !betB (Fm.per f) (1 : Int) (65536 : Int) || !betB (Fm.lead f) (0 : Int) (4194304 : Int) || !betB (Fm.gap f) (0 : Int) (4194304 : Int)) = false → ((!nmB (Prod.fst f) || !betB (Fm.ou f) (0 : Int) (4194304 : Int) || !betB (Fm.inn f) (0 : Int) (Fm.ou f - 1) || !betB (Fm.per f) (1 : Int) (65536 : Int) || !betB (Fm.lead f) (0 : Int) (4194304 : Int) || !betB (Fm.gap f) (0 : Int) (4194304 : Int)) == false) = true)) (V.b (!nmB (Prod.fst f) || !betB (Fm.ou f) (0 : Int) (4194304 : Int) || !betB (Fm.inn f) (0 : Int) (Fm.ou f - 1) || !betB (Fm.per f) (1 : Int) (65536 : Int) || !betB (Fm.lead f) (0 : Int) (4194304 : Int) || !betB (Fm.gap f) (0 : Int) (4194304 : Int) || !betB (Fm.tail f) (0 : Int) (4194304 : Int))), pv 46 (V.b (!nmB (Prod.fst f) || !betB (Fm.ou f) (0 : Int) (4194304 : Int) || !betB (Fm.inn f) (0 : Int) (Fm.ou f - 1) || !betB (Fm.per f) (1 : Int) (65536 : Int) || !betB (Fm.lead f) (0 : Int) (4194304 : Int) || !betB (Fm.gap f) (0 : Int) (4194304 : Int) || !betB (Fm.tail f) (0 : Int) (4194304 : Int))), pc 47 ((True ∧ True) ∧ (((!nmB (Prod.fst f) || !betB (Fm.ou f) (0 : Int) (4194304 : Int) || !betB (Fm.inn f) (0 : Int) (Fm.ou f - 1) || !betB (Fm.per f) (1 : Int) (65536 : Int) || !betB (Fm.lead f) (0 : Int) (4194304 : Int) || !betB (Fm.gap f) (0 : Int) (4194304 : Int) || !betB (Fm.tail f) (0 : Int) (4194304 : Int)) == false) = true → True)) (V.gd ((!nmB (Prod.fst f) || !betB (Fm.ou f) (0 : Int) (4194304 : Int) || !betB (Fm.inn f) (0 : Int) (Fm.ou f - 1) || !betB (Fm.per f) (1 : Int) (65536 : Int) || !betB (Fm.lead f) (0 : Int) (4194304 : Int) || !betB (Fm.gap f) (0 : Int) (4194304 : Int) || !betB (Fm.tail f) (0 : Int) (4194304 : Int)) == false) (V.ptr [V.i (Fm.cost f)])), pc 48 (((((!nmB (Prod.fst f) || !betB (Fm.ou f) (0 : Int) (4194304 : Int) || !betB (Fm.inn f) (0 : Int) (Fm.ou f - 1) || !betB (Fm.per f) (1 : Int) (65536 : Int) || !betB (Fm.lead f) (0 : Int) (4194304 : Int) || !betB (Fm.gap f) (0 : Int) (4194304 : Int) || !betB (Fm.tail f) (0 : Int) (4194304 : Int)) == false) = true → ((!nmB (Prod.fst f) || !betB (Fm.ou f) (0 : Int) (4194304 : Int) || !betB (Fm.inn f) (0 : Int) (Fm.ou f - 1) || !betB (Fm.per f) (1 : Int) (65536 : Int) || !betB (Fm.lead f) (0 : Int) (4194304 : Int) || !betB (Fm.gap f) (0 : Int) (4194304 : Int) || !betB (Fm.tail f) (0 : Int) (4194304 : Int)) == false) = true) ∧ True) ∧ (((!nmB (Prod.fst f) || !betB (Fm.ou f) (0 : Int) (4194304 : Int) || !betB (Fm.inn f) (0 : Int) (Fm.ou f - 1) || !betB (Fm.per f) (1 : Int) (65536 : Int) || !betB (Fm.lead f) (0 : Int) (4194304 : Int) || !betB (Fm.gap f) (0 : Int) (4194304 : Int) || !betB (Fm.tail f) (0 : Int) (4194304 : Int)) == false) = true → True)) (V.gd ((!nmB (Prod.fst f) || !betB (Fm.ou f) (0 : Int) (4194304 : Int) || !betB (Fm.inn f) (0 : Int) (Fm.ou f - 1) || !betB (Fm.per f) (1 : Int) (65536 : Int) || !betB (Fm.lead f) (0 : Int) (4194304 : Int) || !betB (Fm.gap f) (0 : Int) (4194304 : Int) || !betB (Fm.tail f) (0 : Int) (4194304 : Int)) == false) (V.i (Fm.cost f)))] kR kR ⟨⟨⟨(by (exact fun h => h)), tI⟩, (fun _ => tI)⟩, ⟨tI, (by (intro h; rw [h]; rfl))⟩, ⟨⟨tI, tI⟩, (fun _ => tI)⟩, ⟨⟨(by (exact fun h => h)), tI⟩, (fun _ => tI)⟩, tI⟩ ?_
 refine eG 1 (g := (!nmB (Prod.fst f) || !betB (Fm.ou f) (0 : Int) (4194304 : Int) || !betB (Fm.inn f) (0 : Int) (Fm.ou f - 1) || !betB (Fm.per f) (1 : Int) (65536 : Int) || !betB (Fm.lead f) (0 : Int) (4194304 : Int) || !betB (Fm.gap f) (0 : Int) (4194304 : Int) || !betB (Fm.tail f) (0 : Int) (4194304 : Int)) == false) (fun h => within4_ac f.cost 0 1048576) ?_
 refine aops_n hTT (M := []) (n := 2) [pc 50 (((((!nmB (Prod.fst f) || !betB (Fm.ou f) (0 : Int) (4194304 : Int) || !betB (Fm.inn f) (0 : Int) (Fm.ou f - 1) || !betB (Fm.per f) (1 : Int) (65536 : Int) || !betB (Fm.lead f) (0 : Int) (4194304 : Int) || !betB (Fm.gap f) (0 : Int) (4194304 : Int) || !betB (Fm.tail f) (0 : Int) (4194304 : Int)) == false) = true → ((!nmB (Prod.fst f) || !betB (Fm.ou f) (0 : Int) (4194304 : Int) || !betB (Fm.inn f) (0 : Int) (Fm.ou f - 1) || !betB (Fm.per f) (1 : Int) (65536 : Int) || !betB (Fm.lead f) (0 : Int) (4194304 : Int) || !betB (Fm.gap f) (0 : Int) (4194304 : Int) || !betB (Fm.tail f) (0 : Int) (4194304 : Int)) == false) = true) ∧ True) ∧ (((!nmB (Prod.fst f) || !betB (Fm.ou f) (0 : Int) (4194304 : Int) || !betB (Fm.inn f) (0 : Int) (Fm.ou f - 1) || !betB (Fm.per f) (1 : Int) (65536 : Int) || !betB (Fm.lead f) (0 : Int) (4194304 : Int) || !betB (Fm.gap f) (0 : Int) (4194304 : Int) || !betB (Fm.tail f) (0 : Int) (4194304 : Int)) == false) = true → True)) (V.gd ((!nmB (Prod.fst f) || !betB (Fm.ou f) (0 : Int) (4194304 : Int) || !betB (Fm.inn f) (0 : Int) (Fm.ou f - 1) || !betB (Fm.per f) (1 : Int) (65536 : Int) || !betB (Fm.lead f) (0 : Int) (4194304 : Int) || !betB (Fm.gap f) (0 : Int) (4194304 : Int) || !betB (Fm.tail f) (0 : Int) (4194304 : Int)) == false) (V.b !betB (Fm.cost f) (0 : Int) (1048576 : Int))), pc 51 (True ∧ ((!nmB (Prod.fst f) || !betB (Fm.ou f) (0 : Int) (4194304 : Int) || !betB (Fm.inn f) (0 : Int) (Fm.ou f - 1) || !betB (Fm.per f) (1 : Int) (65536 : Int) || !betB (Fm.lead f) (0 : Int) (4194304 : Int) || !betB (Fm.gap f) (0 : Int) (4194304 : Int) || !betB (Fm.tail f) (0 : Int) (4194304 : Int)) = false → ((!nmB (Prod.fst f) || !betB (Fm.ou f) (0 : Int) (4194304 : Int) || !betB (Fm.inn f) (0 : Int) (Fm.ou f - 1) || !betB (Fm.per f) (1 : Int) (65536 : Int) || !betB (Fm.lead f) (0 : Int) (4194304 : Int) || !betB (Fm.gap f) (0 : Int) (4194304 : Int) || !betB (Fm.tail f) (0 : Int) (4194304 : Int)) == false) = true)) (V.b (!nmB (Prod.fst f) || !betB (Fm.ou f) (0 : Int) (4194304 : Int) || !betB (Fm.inn f) (0 : Int) (Fm.ou f - 1) || !betB (Fm.per f) (1 : Int) (65536 : Int) || !betB (Fm.lead f) (0 : Int) (4194304 : Int) || !betB (Fm.gap f) (0 : Int) (4194304 : Int) || !betB (Fm.tail f) (0 : Int) (4194304 : Int) || !betB (Fm.cost f) (0 : Int) (1048576 : Int)))] kR kR ⟨⟨⟨(by (exact fun h => h)), tI⟩, (fun _ => tI)⟩, ⟨tI, (by (intro h; rw [h]; rfl))⟩, tI⟩ ?_
 refine nK hK ?_; clear hK K
 refine w_cond (t := !nmB (Prod.fst f) || !betB (Fm.ou f) (0 : Int) (4194304 : Int) || !betB (Fm.inn f) (0 : Int) (Fm.ou f - 1) || !betB (Fm.per f) (1 : Int) (65536 : Int) || !betB (Fm.lead f) (0 : Int) (4194304 : Int) || !betB (Fm.gap f) (0 : Int) (4194304 : Int) || !betB (Fm.tail f) (0 : Int) (4194304 : Int) || !betB (Fm.cost f) (0 : Int) (1048576 : Int)) kR (fun c1 => ?_) (fun c1 => ?_)
 ·
  have e : fmE f = 2 := by
   rw [fmE, if_neg]
   intro h
   simp only [fmB, Bool.and_eq_true] at h
   simp [h.1, h.2.1, h.2.2.1, h.2.2.2.1, h.2.2.2.2.1, h.2.2.2.2.2.1, h.2.2.2.2.2.2.1, h.2.2.2.2.2.2.2] at c1
  refine sK fun K hK => wR 4 ?_
  refine aops_n hTT (M := []) (n := 1) [pv 2 (V.i 2)] kR kR tI ?_
  refine nK hK ?_; clear hK K
  refine aw_ret ?_
  refine xt_r ?_
  rw [e]
  refine rP (V.i 2)
 ·
  have e : fmE f = 0 := by
   rw [fmE, if_pos]
   simpa [fmB, and_assoc] using c1
  refine aw_skip ?_
  refine xt_n (hK _ ?_); clear hK K; refine sK fun K hK => wR 4 ?_
  refine aops_n hTT (M := []) (n := 1) [pv 2 (V.i 0)] kR kR tI ?_
  refine nK hK ?_; clear hK K
  refine aw_ret ?_
  rw [e]
  refine rP (V.i 0)
def trsE (l : List Tr) : Int := if 24 < l.length then 6 else if l.all trB then 0 else 2
theorem gtr_mem {l : List Tr} {k : Nat} (hk : k < l.length) : gtr l k ∈ l := by
 rw [gtr, List.getD_eq_getElem?_getD, List.getElem?_eq_getElem hk]
 exact List.getElem_mem _
theorem gfm_mem {l : List Fm} {k : Nat} (hk : k < l.length) : gfm l k ∈ l := by
 rw [gfm, List.getD_eq_getElem?_getD, List.getElem?_eq_getElem hk]
 exact List.getElem_mem _
theorem mem_gtr {l : List Tr} {t : Tr} (h : t ∈ l) : ∃ k, k < l.length ∧ gtr l k = t := by
 obtain ⟨k, hk, e⟩ := List.getElem_of_mem h
 exact ⟨k, hk, by rw [gtr, List.getD_eq_getElem?_getD, List.getElem?_eq_getElem hk, Option.getD_some, e]⟩
theorem mem_gfm {l : List Fm} {t : Fm} (h : t ∈ l) : ∃ k, k < l.length ∧ gfm l k = t := by
 obtain ⟨k, hk, e⟩ := List.getElem_of_mem h
 exact ⟨k, hk, by rw [gfm, List.getD_eq_getElem?_getD, List.getElem?_eq_getElem hk, Option.getD_some, e]⟩
theorem trsE_no {l : List Tr} (h : ¬ 24 < l.length) {k : Nat} (hk : k < l.length) (hb : trB (gtr l k) = false) : trsE l = 2 := by
 rw [trsE, if_neg h, if_neg]
 intro ha
 rw [List.all_eq_true.1 ha _ (gtr_mem hk)] at hb
 cases hb
theorem trsE_ok {l : List Tr} (h : ¬ 24 < l.length) (hb : ∀ k, k < l.length → trB (gtr l k) = true) : trsE l = 0 := by
 rw [trsE, if_neg h, if_pos]
 rw [List.all_eq_true]
 intro t ht
 obtain ⟨k, hk, rfl⟩ := mem_gtr ht
 exact hb k hk
set_option maxRecDepth 100000 in
theorem rCheckTracks_ac (l : List Tr) (hl : l.length ≤ 4611686018427387904) : AC Tryz.prog 12 [V.trs l] (.i (trsE l)) [] := by
 refine acI hTT hMX Tryz.func12 Tryz.ntmps12 fun C hC hF => ?_
 refine sX hTT 2 1 [] tI (sK fun K hK => sX hTT 3 3 [] tI ?_)
 refine w_cond (t := decide ((24 : Int) < (↑(List.length l) : Int))) kR (fun c0 => ?_) (fun c0 => ?_)
 ·
  have e : trsE l = 6 := by rw [trsE, if_pos (by simp at c0; omega)]
  refine sX hTT 4 1 [] tI ?_
  refine aw_ret ?_
  refine xt_r ?_
  rw [e]
  refine rP (V.i 6)
 have h24 : ¬ 24 < l.length := by simp at c0; omega
 refine aw_skip ?_
 refine xt_n (hK _ ?_); clear hK K; refine sK fun K hK => sX hTT 4 1 [] tI ?_
 refine aw_block ?_
 refine w_loop (ι := Nat) (fun k => [(0, V.trs l), (3, .i k)]) (fun _ => []) (fun k => k ≤ l.length ∧ ∀ j, j < k → trB (gtr l j) = true) (fun k => l.length - k) 0 ⟨Nat.zero_le _, fun j hj => by omega⟩ ?_ ?_
 ·
  refine le_ren [] (.cons kR (.cons kR .nil)) .nil kR kR
 rintro k ⟨hk, hj⟩
 refine sK fun K hK => sX hTT 2 4 [] tI ?_
 refine w_cond (t := decide ((↑k : Int) < (↑(List.length l) : Int))) kR (fun c1 => ?_) (fun c1 => ?_)
 ·
  have hk1 : k < l.length := by simpa using c1
  refine aw_skip ?_
  refine xt_n (hK _ ?_); clear hK K; refine sK fun K hK => ?_
  refine aw_block ?_
  refine sK fun K hK => wR 3 (aX hTT 5 [(2, .c ((0 : Int) ≤ (↑k : Int) ∧ (↑k : Int) < (↑(List.length l) : Int)))] ⟨oM, tI⟩ ?_)
  refine eC (within4_ac (gtr l k).1 1 16777216) ?_
  refine aX hTT 7 [(2, .c (gA ((!betB (Prod.fst (gtr l k)) (1 : Int) (16777216 : Int)) == false) True)), (3, .c (gA ((!betB (Prod.fst (gtr l k)) (1 : Int) (16777216 : Int)) == false) True)), (4, .c (gC ((!betB (Prod.fst (gtr l k)) (1 : Int) (16777216 : Int)) == false) ((0 : Int) ≤ (↑k : Int) ∧ (↑k : Int) < (↑(List.length l) : Int)))), (5, .c (gB ((!betB (Prod.fst (gtr l k)) (1 : Int) (16777216 : Int)) == false) True)), (6, .c (gB ((!betB (Prod.fst (gtr l k)) (1 : Int) (16777216 : Int)) == false) True))] ⟨⟨⟨tI, tI⟩, (fun _ => tI)⟩, ⟨⟨tI, tI⟩, (fun _ => tI)⟩, ⟨⟨(by (exact fun h => h)), ⟨(by (exact fun h => h)), tI⟩⟩, (by (intro hg; simp at hg; omega))⟩, ⟨⟨(by (exact fun h => h)), tI⟩, (fun _ => tI)⟩, ⟨⟨(by (exact fun h => h)), tI⟩, (fun _ => tI)⟩, tI⟩ ?_
  refine eG 1 (g := (!betB (Prod.fst (gtr l k)) (1 : Int) (16777216 : Int)) == false) (fun h => within4_ac (gtr l k).2.1 1 4096) ?_
  refine aX hTT 8 [(0, .c (gB ((!betB (Prod.fst (gtr l k)) (1 : Int) (16777216 : Int)) == false) True)), (1, .c (True ∧ ((!betB (Prod.fst (gtr l k)) (1 : Int) (16777216 : Int)) = false → ((!betB (Prod.fst (gtr l k)) (1 : Int) (16777216 : Int)) == false) = true))), (3, .c (gA ((!betB (Prod.fst (gtr l k)) (1 : Int) (16777216 : Int) || !betB (Prod.fst (Prod.snd (gtr l k))) (1 : Int) (4096 : Int)) == false) True)), (4, .c (gA ((!betB (Prod.fst (gtr l k)) (1 : Int) (16777216 : Int) || !betB (Prod.fst (Prod.snd (gtr l k))) (1 : Int) (4096 : Int)) == false) True)), (5, .c (gC ((!betB (Prod.fst (gtr l k)) (1 : Int) (16777216 : Int) || !betB (Prod.fst (Prod.snd (gtr l k))) (1 : Int) (4096 : Int)) == false) ((0 : Int) ≤ (↑k : Int) ∧ (↑k : Int) < (↑(List.length l) : Int)))), (6, .c (gB ((!betB (Prod.fst (gtr l k)) (1 : Int) (16777216 : Int) || !betB (Prod.fst (Prod.snd (gtr l k))) (1 : Int) (4096 : Int)) == false) True)), (7, .c (gB ((!betB (Prod.fst (gtr l k)) (1 : Int) (16777216 : Int) || !betB (Prod.fst (Prod.snd (gtr l k))) (1 : Int) (4096 : Int)) == false) True))] ⟨⟨⟨(by (exact fun h => h)), tI⟩, (fun _ => tI)⟩, ⟨tI, (by (intro h; rw [h]; rfl))⟩, ⟨⟨tI, tI⟩, (fun _ => tI)⟩, ⟨⟨tI, tI⟩, (fun _ => tI)⟩, ⟨⟨(by (exact fun h => h)), ⟨(by (exact fun h => h)), tI⟩⟩, (by (intro hg; simp at hg; omega))⟩, ⟨⟨(by (exact fun h => h)), tI⟩, (fun _ => tI)⟩, ⟨⟨(by (exact fun h => h)), tI⟩, (fun _ => tI)⟩, tI⟩ ?_
  refine eG 1 (g := (!betB (Prod.fst (gtr l k)) (1 : Int) (16777216 : Int) || !betB (Prod.fst (Prod.snd (gtr l k))) (1 : Int) (4096 : Int)) == false) (fun h => within4_ac (gtr l k).2.2 0 4194304) ?_
  refine aX hTT 2 [(0, .c (gB ((!betB (Prod.fst (gtr l k)) (1 : Int) (16777216 : Int) || !betB (Prod.fst (Prod.snd (gtr l k))) (1 : Int) (4096 : Int)) == false) True)), (1, .c (True ∧ ((!betB (Prod.fst (gtr l k)) (1 : Int) (16777216 : Int) || !betB (Prod.fst (Prod.snd (gtr l k))) (1 : Int) (4096 : Int)) = false → ((!betB (Prod.fst (gtr l k)) (1 : Int) (16777216 : Int) || !betB (Prod.fst (Prod.snd (gtr l k))) (1 : Int) (4096 : Int)) == false) = true)))] ⟨⟨⟨(by (exact fun h => h)), tI⟩, (fun _ => tI)⟩, ⟨tI, (by (intro h; rw [h]; rfl))⟩, tI⟩ ?_; refine nK hK ?_; clear hK K
  refine w_cond (t := !betB (Prod.fst (gtr l k)) (1 : Int) (16777216 : Int) || !betB (Prod.fst (Prod.snd (gtr l k))) (1 : Int) (4096 : Int) || !betB (Prod.snd (Prod.snd (gtr l k))) (0 : Int) (4194304 : Int)) kR (fun c2 => ?_) (fun c2 => ?_)
  ·
   have e : trsE l = 2 := trsE_no h24 hk1 (by
    revert c2
    unfold trB
    cases betB (gtr l k).1 1 16777216 <;> cases betB (gtr l k).2.1 1 4096 <;> cases betB (gtr l k).2.2 0 4194304 <;> simp)
   refine sX hTT 4 1 [] tI ?_
   refine aw_ret ?_
   refine xb_r ?_
   refine xt_r (xt_r ?_)
   refine xb_r ?_
   refine xt_r ?_
   rw [e]
   refine rP (V.i 2)
  ·
   have e : trB (gtr l k) = true := by
    revert c2
    unfold trB
    cases betB (gtr l k).1 1 16777216 <;> cases betB (gtr l k).2.1 1 4096 <;> cases betB (gtr l k).2.2 0 4194304 <;> simp
   refine aw_skip ?_
   refine xb_n (xt_n (hK _ ?_)); clear hK K; refine wR 4 (aX hTT 3 [(1, .i ((↑k : Int) + 1))] ⟨oM, tI⟩ (aops_nil (xt_n ?_)))
   refine ⟨k + 1, ⟨by omega, fun j hj2 => ?_⟩, by refine le_ren [] (.cons kR (.cons kR .nil)) .nil kR kR, by omega⟩
   by_cases e5 : j = k
   ·
    rw [e5]; exact e
   ·
    exact hj j oM
 ·
  have e : trsE l = 0 := trsE_ok h24 fun j h => hj j (by simp at c1; omega)
  refine aw_exit ?_
  refine xt_x ?_; refine xt_x ?_
  refine xb_same ?_
  refine xt_n ?_; clear hK K; refine hK _ ?_; clear hK K; refine sX hTT 3 1 [] tI ?_
  refine aw_ret ?_
  rw [e]
  refine rP (V.i 0)
def fmsE (fs : List Fm) (l : List Tr) : Int := if fs.length = 0 ∨ 8 < fs.length then 6 else if fs.all fmB then trsE l else 2
theorem fmE_no {f : Fm} (h : fmB f = false) : fmE f = 2 := by rw [fmE, if_neg (by rw [h]; decide)]
theorem fmE_yes {f : Fm} (h : fmB f = true) : fmE f = 0 := by rw [fmE, if_pos h]
set_option maxRecDepth 100000 in
theorem rCheckFormats_ac (fs : List Fm) (l : List Tr) (hf : fs.length ≤ 4611686018427387904) (hl : l.length ≤ 4611686018427387904) (hs : ∀ f ∈ fs, f.1.length ≤ 9223372036854775807) : AC Tryz.prog 4 [V.fms fs, V.trs l] (.i (fmsE fs l)) [] := by
 refine acI hTT hMX Tryz.func4 Tryz.ntmps4 fun C hC hF => ?_
 refine sX hTT 2 1 [] tI (sK fun K hK => ?_); refine sX hTT 3 8 [(4, .c (gA (decide ((↑(List.length fs) : Int) = 0) == false) True)), (5, .c (gB (decide ((↑(List.length fs) : Int) = 0) == false) True)), (6, .c (gD (decide ((↑(List.length fs) : Int) = 0) == false) True)), (7, .c (True ∧ (decide ((↑(List.length fs) : Int) = 0) = false → (decide ((↑(List.length fs) : Int) = 0) == false) = true)))] ⟨⟨⟨tI, tI⟩, (fun _ => tI)⟩, ⟨⟨(by (exact fun h => h)), tI⟩, (fun _ => tI)⟩, ⟨⟨(by (exact fun h => h)), ⟨tI, tI⟩⟩, (fun _ => tI)⟩, ⟨tI, (by (intro h; rw [h]; rfl))⟩, tI⟩ ?_
 refine w_cond (t := decide ((↑(List.length fs) : Int) = 0) || decide ((8 : Int) < (↑(List.length fs) : Int))) kR (fun c0 => ?_) (fun c0 => ?_)
 ·
  have e : fmsE fs l = 6 := by rw [fmsE, if_pos (by simp only [Bool.or_eq_true, decide_eq_true_eq] at c0; omega)]
  refine sX hTT 4 1 [] tI ?_
  refine aw_ret ?_
  refine xt_r ?_
  rw [e]
  refine rP (V.i 6)
 have h8 : ¬ (fs.length = 0 ∨ 8 < fs.length) := by simp only [Bool.or_eq_false_iff, decide_eq_false_iff_not] at c0; omega
 refine aw_skip ?_
 refine xt_n (hK _ ?_); clear hK K; refine sK fun K hK => sK fun K hK => wR 4 ?_
 refine aops_n hTT (M := []) (n := 1) [pv 5 (V.i 0)] kR kR tI ?_
 refine nK hK ?_; clear hK K
 refine aw_block ?_
 refine w_loop (ι := Nat) (fun k => [(0, V.fms fs), (1, V.trs l), (5, .i k)]) (fun _ => []) (fun k => k ≤ fs.length ∧ ∀ j, j < k → fmB (gfm fs j) = true) (fun k => fs.length - k) 0 ⟨Nat.zero_le _, fun j hj => by omega⟩ ?_ ?_
 ·
  refine le_ren [] (.cons kR (.cons kR (.cons kR .nil))) .nil kR kR
 rintro k ⟨hk, hj⟩
 refine sK fun K hK => sK fun K hK => wR 2 ?_
 refine aops_n hTT (M := []) (n := 4) [pv 15 (V.i (↑k : Int)), pv 16 (V.sl 8 (List.length fs) fun (k : Nat) => Fm.c (gfm fs k)), pv 17 (V.i (↑(List.length fs) : Int)), pv 18 (V.b (decide ((↑k : Int) < (↑(List.length fs) : Int))))] kR kR tI ?_
 refine nK hK ?_; clear hK K
 refine w_cond (t := decide ((↑k : Int) < (↑(List.length fs) : Int))) kR (fun c1 => ?_) (fun c1 => ?_)
 ·
  have hk1 : k < fs.length := by simpa using c1
  refine aw_skip ?_
  refine xt_n (hK _ ?_); clear hK K; refine sK fun K hK => ?_
  refine aw_block ?_
  refine sK fun K hK => wR 3 ?_
  refine aops_n hTT (M := []) (n := 4) [pv 21 (V.sl 8 (List.length fs) fun (k : Nat) => Fm.c (gfm fs k)), pv 22 (V.i (↑k : Int)), pc 23 ((0 : Int) ≤ (↑k : Int) ∧ (↑k : Int) < (↑(List.length fs) : Int)) (V.ptr [V.c (Value.string (ByteArray.mk (List.toArray (Prod.fst (gfm fs k))))), V.i (Fm.ou (gfm fs k)), V.i (Fm.inn (gfm fs k)), V.i (Fm.per (gfm fs k)), V.i (Fm.lead (gfm fs k)), V.i (Fm.gap (gfm fs k)), V.i (Fm.tail (gfm fs k)), V.i (Fm.cost (gfm fs k))]), pv 24 (V.agg [V.c (Value.string (ByteArray.mk (List.toArray (Prod.fst (gfm fs k))))), V.i (Fm.ou (gfm fs k)), V.i (Fm.inn (gfm fs k)), V.i (Fm.per (gfm fs k)), V.i (Fm.lead (gfm fs k)), V.i (Fm.gap (gfm fs k)), V.i (Fm.tail (gfm fs k)), V.i (Fm.cost (gfm fs k))])] kR kR ⟨oM, tI⟩ ?_
  refine eC (rCheckFormat_ac (gfm fs k) (hs _ (gfm_mem hk1))) ?_
  by_cases hb : fmB (gfm fs k) = true
  ·
   rw [fmE_yes hb]
   refine aX hTT 1 [] tI (nK hK ?_); clear hK K; refine sX hTT 4 2 [] tI (w_false (t := false) kR rfl ?_)
   refine aw_skip ?_
   refine xb_n (xt_n (hK _ ?_)); clear hK K; refine wR 5 (aX hTT 3 [(1, .i ((↑k : Int) + 1))] ⟨oM, tI⟩ (aops_nil (xt_n ?_)))
   refine ⟨k + 1, ⟨by omega, fun j hj2 => ?_⟩, by refine le_ren [] (.cons kR (.cons kR (.cons kR .nil))) .nil kR kR, by omega⟩
   by_cases e5 : j = k
   ·
    rw [e5]; exact hb
   ·
    exact hj j oM
  ·
   have hb2 : fmB (gfm fs k) = false := by simpa using hb
   have e : fmsE fs l = 2 := by
    rw [fmsE, if_neg h8, if_neg]
    intro ha
    exact hb (List.all_eq_true.1 ha _ (gfm_mem hk1))
   rw [fmE_no hb2]
   refine aX hTT 1 [] tI (nK hK ?_); clear hK K; refine sX hTT 4 2 [] tI (w_true (t := true) kR rfl (sX hTT 5 2 [] tI ?_))
   refine aw_ret ?_
   refine xb_r ?_
   refine xt_r (xt_r ?_)
   refine xb_r ?_
   refine xt_r ?_
   rw [e]
   refine rP (V.i 2)
 ·
  have e : fmsE fs l = trsE l := by
   rw [fmsE, if_neg h8, if_pos]
   rw [List.all_eq_true]
   intro f hf2
   obtain ⟨j, hj2, rfl⟩ := mem_gfm hf2
   exact hj j (by simp at c1; omega)
  refine aw_exit ?_
  refine xt_x ?_; refine xt_x ?_
  refine xb_same ?_
  refine xt_n ?_; clear hK K; refine hK _ ?_; clear hK K; refine sK fun K hK => wR 3 (aX hTT 1 [] tI ?_)
  refine eC (rCheckTracks_ac l hl) ?_
  refine aX hTT 1 [] tI (nK hK ?_); clear hK K
  refine aw_ret ?_
  rw [e]
  refine rP (V.i (trsE l))
end Go.Proofs.YtffggfnomhhckaaGreatDoor
