/-
  Several texts in one: The land of a cut: the walk of the program. Conditions: told in each theorem. .. The fault of a groove: the walks of the program. Conditions: told in each theorem.
-/
import Derived.Test.YtlldpkkcbheenaaGreatDoorAbs42
import Derived.Test.YtlldpkkcbheenaaGreatDoorX05
namespace Go.Proofs.YtlldpkkcbheenaaGreatDoor
open Go.Ab Go.RowKit Go.Dw Go.Shelf
set_option maxRecDepth 100000 in
theorem newCut1_ac (x : Int) : AC Tryz.prog 120 [.i x] (.b (!betB x (-16777216) 16777216)) [] := by
 refine acI hTT hMX Tryz.func120 Tryz.ntmps120 fun C hC hF => ?_
 refine sK fun K hK => wR 2 ?_; refine aX hTT 1 [] tI ?_; refine nK hK ?_; clear hK K; refine sK fun K hK => wR 3 ?_; refine aX hTT 1 [] tI ?_
 refine eC (lBetween_ac x (-16777216) 16777216) ?_
 refine aX hTT 2 [] tI ?_; refine nK hK ?_; clear hK K
 refine aw_ret ?_
 refine rP (V.b !betB x (-16777216 : Int) (16777216 : Int))
set_option maxRecDepth 100000 in
theorem indexFl_ac (r : List Int) (hl : r.length ≤ 4096) (hr : ∀ v, v < r.length → -16777216 ≤ gi r v ∧ gi r v ≤ 16777216) : AC Tryz.prog 119 [V.ints r, .fn (.func 120) [] []] (.i (-1)) [] := by
 refine acI hTT hMX Tryz.func119 Tryz.ntmps119 fun C hC hF => ?_
 refine sK fun K hK => wR 2 ?_; refine aX hTT 1 [] tI ?_; refine nK hK ?_; clear hK K; refine sK fun K hK => ?_; refine sK fun K hK => wR 3 ?_; refine aX hTT 3 [] tI ?_; refine nK hK ?_; clear hK K
 refine aw_block ?_
 refine w_loop (ι := Nat) (fun k => [(0, V.ints r), (1, .fn (.func 120) [] []), (7, .i r.length), (8, .i k)]) (fun _ => []) (fun k => k ≤ r.length) (fun k => r.length - k) 0 (Nat.zero_le _) ?_ ?_
 ·
  refine le_ren [] (.cons kR (.cons kR (.cons kR (.cons kR .nil)))) .nil kR kR
 intro k hk
 refine sK fun K hK => wR 2 ?_; refine aX hTT 1 [] tI ?_; refine nK hK ?_; clear hK K; refine sK fun K hK => ?_
 refine w_cond (t := decide ((↑k : Int) < (↑(List.length r) : Int))) kR (fun c1 => ?_) (fun c1 => ?_)
 ·
  have hk1 : k < r.length := by simpa using c1
  have hb : betB (gi r k) (-16777216) 16777216 = true := by
   have := hr k hk1
   simp [betB]; omega
  refine aw_skip ?_
  refine xt_n (hK _ ?_); clear hK K; refine sK fun K hK => ?_
  refine aw_block ?_
  refine sK fun K hK => wR 3 ?_; refine aX hTT 2 [] tI ?_; refine nK hK ?_; clear hK K; refine sK fun K hK => wR 4 ?_; refine aX hTT 5 [(3, .c ((0 : Int) ≤ (↑k : Int) ∧ (↑k : Int) < (↑(List.length r) : Int)))] ⟨oM, tI⟩ ?_
  refine eC (newCut1_ac (gi r k)) ?_
  rw [hb]
  refine nK hK ?_; clear hK K; refine w_false (t := false) kR rfl ?_
  refine aw_skip ?_
  refine xb_n ?_; refine xt_n (hK _ ?_); clear hK K; refine wR 5 ?_; refine aX hTT 2 [(0, .i ((↑k : Int) + 1))] ⟨oM, tI⟩ ?_; refine aops_nil ?_; refine xt_n ?_
  refine ⟨k + 1, by omega, ?_, by omega⟩
  refine le_ren [] (.cons kR (.cons kR (.cons kR (.cons kR .nil)))) .nil kR kR
 ·
  refine aw_exit ?_
  refine xt_x ?_; refine xt_x ?_
  refine xb_same ?_
  refine xt_n ?_; clear hK K; refine hK _ ?_; clear hK K; refine sK fun K hK => wR 3 ?_; refine aX hTT 1 [] tI ?_; refine nK hK ?_; clear hK K
  refine aw_ret ?_
  refine rP (V.i (-1))
set_option maxRecDepth 100000 in
theorem containsFl_ac (r : List Int) (hl : r.length ≤ 4096) (hr : ∀ v, v < r.length → -16777216 ≤ gi r v ∧ gi r v ≤ 16777216) : AC Tryz.prog 54 [V.ints r, .fn (.func 120) [] []] (.b false) [] := by
 refine acI hTT hMX Tryz.func54 Tryz.ntmps54 fun C hC hF => ?_
 refine sK fun K hK => wR 2 ?_; refine aX hTT 1 [] tI ?_; refine nK hK ?_; clear hK K; refine sK fun K hK => wR 3 ?_; refine aX hTT 2 [] tI ?_
 refine eC (indexFl_ac r hl hr) ?_
 refine aX hTT 2 [] tI ?_; refine nK hK ?_; clear hK K
 refine aw_ret ?_
 refine rP (V.b false)
def cuC (b : Bl) (l : List Pt) (r : List Int) : List V := [.ptr (sdC b l), V.ints r]
set_option maxRecDepth 100000 in
theorem newCut_ac (b : Bl) (l : List Pt) (h : SOk b l) (r : List Int) (hl : r.length = l.length) (hr : ∀ v, v < r.length → -16777216 ≤ gi r v ∧ gi r v ≤ 16777216) : AC Tryz.prog 56 [b.v, V.pts l, V.ints r] (.tup [.ptr (cuC b l r), .i 0]) [] := by
 have hlen := h.len
 refine acI hTT hMX Tryz.func56 Tryz.ntmps56 fun C hC hF => ?_
 refine sK fun K hK => wR 2 ?_; refine aX hTT 3 [] tI ?_; refine nK hK ?_; clear hK K; refine sK fun K hK => wR 3 ?_; refine aX hTT 2 [] tI ?_
 refine eC (newSide_ok b l h) ?_
 refine aX hTT 5 [] tI ?_; refine nK hK ?_; clear hK K; refine sK fun K hK => ?_; refine sK fun K hK => wR 4 ?_; refine aX hTT 2 [] tI ?_; refine nK hK ?_; clear hK K; refine w_false (t := false) kR rfl ?_
 refine aw_skip ?_
 refine xt_n (hK _ ?_); clear hK K; refine sK fun K hK => ?_; refine sK fun K hK => wR 5 ?_; refine aX hTT 5 [] tI ?_; refine nK hK ?_; clear hK K
 refine w_cond (t := !decide ((↑(List.length r) : Int) = (↑(List.length l) : Int))) kR (fun c1 => ?_) (fun c1 => ?_)
 ·
  simp at c1
  omega
 refine aw_skip ?_
 refine xt_n (hK _ ?_); clear hK K; refine sK fun K hK => ?_; refine sK fun K hK => wR 6 ?_; refine aX hTT 1 [] tI ?_
 refine eC (containsFl_ac r oM hr) ?_
 refine nK hK ?_; clear hK K; refine w_false (t := false) kR rfl ?_
 refine aw_skip ?_
 refine xt_n (hK _ ?_); clear hK K; refine sK fun K hK => wR 7 ?_; refine aX hTT 6 [] tI ?_; refine nK hK ?_; clear hK K
 refine aw_ret ?_
 refine rP (V.tup [V.ptr [V.ptr [V.i (Bl.per b), V.i (Bl.rim b), V.i (Bl.core b), V.i (Bl.land b), V.i (Bl.slow b), V.i (Bl.fast b), V.sl 2 (List.length l) fun (k : Nat) => [V.i (Prod.fst (gp l k)), V.i (Prod.snd (gp l k))], V.i (Bl.per b)], V.sl 1 (List.length r) fun (k : Nat) => [V.i (gi r k)]], V.i 0])
set_option maxRecDepth 100000 in
theorem inner_ac (b : Bl) (l : List Pt) (h : SOk b l) (r : List Int) (hl : r.length = l.length) (hr : ∀ v, v < r.length → -16777216 ≤ gi r v ∧ gi r v ≤ 16777216) (i : Nat) (hi : i < l.length) : AC Tryz.prog 122 [.ptr (cuC b l r), .i i] (.i (gi r i + (gp l i).1)) [] := by
 obtain ⟨p1, p2⟩ := h.pt i hi
 have p3 := hr i oM
 refine acI hTT hMX Tryz.func122 Tryz.ntmps122 fun C hC hF => ?_
 refine sK fun K hK => wR 2 ?_; refine aX hTT 1 [] tI ?_; refine nK hK ?_; clear hK K; refine sK fun K hK => wD 3 ?_; refine aX hTT 20 [(5, .c ((0 : Int) ≤ (↑i : Int) ∧ (↑i : Int) < (↑(List.length r) : Int))), (15, .c ((0 : Int) ≤ (↑i : Int) ∧ (↑i : Int) < (↑(List.length l) : Int))), (18, .i (gi r i + Prod.fst (gp l i)))] ⟨oM, oM, oM, tI⟩ ?_; refine aops_nil ⟨kR, ?_⟩; refine xt_n (hK _ ?_); clear hK K
 refine aw_ret ?_
 refine rP (V.i (gi r i + Prod.fst (gp l i)))
set_option maxRecDepth 100000 in
theorem outer_ac (b : Bl) (l : List Pt) (h : SOk b l) (r : List Int) (hl : r.length = l.length) (hr : ∀ v, v < r.length → -16777216 ≤ gi r v ∧ gi r v ≤ 16777216) (i : Nat) (hi : i < l.length) : AC Tryz.prog 123 [.ptr (cuC b l r), .i i] (.i (gi r i + (gp l i).2)) [] := by
 obtain ⟨p1, p2⟩ := h.pt i hi
 have p3 := hr i oM
 refine acI hTT hMX Tryz.func123 Tryz.ntmps123 fun C hC hF => ?_
 refine sK fun K hK => wR 2 ?_; refine aX hTT 1 [] tI ?_; refine nK hK ?_; clear hK K; refine sK fun K hK => wD 3 ?_; refine aX hTT 20 [(5, .c ((0 : Int) ≤ (↑i : Int) ∧ (↑i : Int) < (↑(List.length r) : Int))), (15, .c ((0 : Int) ≤ (↑i : Int) ∧ (↑i : Int) < (↑(List.length l) : Int))), (18, .i (gi r i + Prod.snd (gp l i)))] ⟨oM, oM, oM, tI⟩ ?_; refine aops_nil ⟨kR, ?_⟩; refine xt_n (hK _ ?_); clear hK K
 refine aw_ret ?_
 refine rP (V.i (gi r i + Prod.snd (gp l i)))
abbrev yyTL71 (b : Bl) (l : List Pt) : V := V.ptr [V.i (Bl.per b), V.i (Bl.rim b), V.i (Bl.core b), V.i (Bl.land b), V.i (Bl.slow b), V.i (Bl.fast b), V.sl 2 (List.length l) fun (k : Nat) => [V.i (Prod.fst (gp l k)), V.i (Prod.snd (gp l k))], V.i (Bl.per b)]
abbrev yyTL70 (b : Bl) (l : List Pt) (r : List Int) : V := V.ptr [(yyTL71 b l), V.sl 1 (List.length r) fun (k : Nat) => [V.i (gi r k)]]
abbrev yyTL72 (b : Bl) (l : List Pt) (r : List Int) (i : Nat) := (gi r (i - Int.toNat (Bl.per b)) + Prod.fst (gp l (i - Int.toNat (Bl.per b))) - (gi r i + Prod.snd (gp l i)))
set_option maxRecDepth 100000 in
theorem land_ac (b : Bl) (l : List Pt) (h : SOk b l) (r : List Int) (hl : r.length = l.length) (hr : ∀ v, v < r.length → -16777216 ≤ gi r v ∧ gi r v ≤ 16777216) (i : Nat) (hi : i < l.length) (hp : b.per.toNat ≤ i) : AC Tryz.prog 57 [.ptr (cuC b l r), .i i] (.i (gi r (i - b.per.toNat) + (gp l (i - b.per.toNat)).1 - (gi r i + (gp l i).2))) [] := by
 obtain ⟨p1, p2⟩ := h.pt i hi
 have p3 := hr i oM
 obtain ⟨p4, p5⟩ := h.pt (i - b.per.toNat) oM
 have p6 := hr (i - b.per.toNat) oM
 have q := h.bl.1
 have e : (i : Int) - b.per = ((i - b.per.toNat : Nat) : Int) := by omega
 refine acI hTT hMX Tryz.func57 Tryz.ntmps57 fun C hC hF => ?_
 have hlen := h.len
 refine sK fun K hK => wR 2 ?_
 refine aops_n hTT (M := []) (n := 1) [pv 4 (V.i 0)] kR kR tI ?_
 refine nK hK ?_; clear hK K; refine sK fun K hK => wR 3 ?_
 refine aops_n hTT (M := []) (n := 10) [pv 5 ((yyTL70 b l r)), pv 6 (V.i (↑i : Int)), pv 7 ((yyTL70 b l r)), pv 8 ((yyTL70 b l r)), pv 9 ((yyTL70 b l r)), pv 10 ((yyTL71 b l)), pv 11 ((yyTL71 b l)), pv 12 (V.ptr [V.i (Bl.per b)]), pv 13 (V.i (Bl.per b)), pc 14 ((-9223372036854775808 : Int) ≤ (↑i : Int) - Bl.per b ∧ (↑i : Int) - Bl.per b ≤ 9223372036854775807) (V.i ((↑i : Int) - Bl.per b))] kR kR ⟨oM, tI⟩ ?_
 rw [e]
 refine eC (inner_ac b l h r hl hr (i - b.per.toNat) oM) ?_
 refine aops_n hTT (M := []) (n := 2) [pv 16 ((yyTL70 b l r)), pv 17 (V.i (↑i : Int))] kR kR tI ?_
 refine eC (outer_ac b l h r hl hr i hi) ?_
 refine aops_n hTT (M := []) (n := 2) [pc 19 ((-9223372036854775808 : Int) ≤ gi r (i - Int.toNat (Bl.per b)) + Prod.fst (gp l (i - Int.toNat (Bl.per b))) - (gi r i + Prod.snd (gp l i)) ∧ gi r (i - Int.toNat (Bl.per b)) + Prod.fst (gp l (i - Int.toNat (Bl.per b))) - (gi r i + Prod.snd (gp l i)) ≤ 9223372036854775807) (V.i (yyTL72 b l r i)), pv 4 (V.i (yyTL72 b l r i))] kR kR ⟨oM, tI⟩ ?_
 refine nK hK ?_; clear hK K
 refine aw_ret ?_
 refine rP (V.i (yyTL72 b l r i))
set_option maxRecDepth 100000 in
theorem Land_ac (b : Bl) (l : List Pt) (h : SOk b l) (r : List Int) (hl : r.length = l.length) (hr : ∀ v, v < r.length → -16777216 ≤ gi r v ∧ gi r v ≤ 16777216) (i : Nat) (hi : i < l.length) (hp : b.per.toNat ≤ i) : AC Tryz.prog 16 [b.v, V.pts l, V.ints r, .i i] (.tup [.i (gi r (i - b.per.toNat) + (gp l (i - b.per.toNat)).1 - (gi r i + (gp l i).2)), .i 0]) [] := by
 have q := h.bl.1
 refine acI hTT hMX Tryz.func16 Tryz.ntmps16 fun C hC hF => ?_
 refine sK fun K hK => wR 2 ?_; refine aX hTT 3 [] tI ?_; refine nK hK ?_; clear hK K; refine sK fun K hK => wR 3 ?_; refine aX hTT 3 [] tI ?_
 refine eC (newCut_ac b l h r hl hr) ?_
 refine aX hTT 5 [] tI ?_; refine nK hK ?_; clear hK K; refine sK fun K hK => ?_; refine sK fun K hK => wR 4 ?_; refine aX hTT 2 [] tI ?_; refine nK hK ?_; clear hK K; refine w_false (t := false) kR rfl ?_
 refine aw_skip ?_
 refine xt_n (hK _ ?_); clear hK K; refine sK fun K hK => ?_; refine sK fun K hK => wR 5 ?_; refine aX hTT 15 [(10, .c (gA (decide ((↑i : Int) < Bl.per b) == false) True)), (11, .c (gA (decide ((↑i : Int) < Bl.per b) == false) True)), (12, .c (gB (decide ((↑i : Int) < Bl.per b) == false) True)), (13, .c (gC (decide ((↑i : Int) < Bl.per b) == false) True)), (14, .c (True ∧ (decide ((↑i : Int) < Bl.per b) = false → (decide ((↑i : Int) < Bl.per b) == false) = true)))] ⟨⟨⟨tI, tI⟩, (fun _ => tI)⟩, ⟨⟨tI, tI⟩, (fun _ => tI)⟩, ⟨⟨(by (exact fun h => h)), tI⟩, (fun _ => tI)⟩, ⟨⟨(by (exact fun h => h)), ⟨(by (exact fun h => h)), tI⟩⟩, (fun _ => tI)⟩, ⟨tI, (by (intro h; rw [h]; rfl))⟩, tI⟩ ?_; refine nK hK ?_; clear hK K
 refine w_cond (t := decide ((↑i : Int) < Bl.per b) || decide ((↑(List.length l) : Int) ≤ (↑i : Int))) kR (fun c1 => ?_) (fun c1 => ?_)
 ·
  simp at c1
  omega
 refine aw_skip ?_
 refine xt_n (hK _ ?_); clear hK K; refine sK fun K hK => wR 6 ?_; refine aX hTT 2 [] tI ?_
 refine eC (land_ac b l h r hl hr i hi hp) ?_
 refine aX hTT 2 [] tI ?_; refine nK hK ?_; clear hK K
 refine aw_ret ?_
 refine rP (V.tup [V.i (gi r (i - Int.toNat (Bl.per b)) + Prod.fst (gp l (i - Int.toNat (Bl.per b))) - (gi r i + Prod.snd (gp l i))), V.i 0])
end Go.Proofs.YtlldpkkcbheenaaGreatDoor

namespace Go.Proofs.YtlldpkkcbheenaaGreatDoor
open Go.Ab Go.RowKit Go.Dw Go.Shelf
theorem gMul {a b m n : Int} (ha : -m ≤ a ∧ a ≤ m) (hb : -n ≤ b ∧ b ≤ n) : -(m * n) ≤ a * b ∧ a * b ≤ m * n := by
 have h1 : 0 ≤ (m - a) * (n + b) := Int.mul_nonneg oM oM
 have h2 : 0 ≤ (m + a) * (n - b) := Int.mul_nonneg oM oM
 have h3 : 0 ≤ (m - a) * (n - b) := Int.mul_nonneg oM oM
 have h4 : 0 ≤ (m + a) * (n + b) := Int.mul_nonneg oM oM
 simp only [Int.sub_mul, Int.add_mul, Int.mul_add, Int.mul_sub] at h1 h2 h3 h4
 omega
theorem gTd {x m M : Int} (hm : 0 < m) (h : -(M * m) ≤ x ∧ x ≤ M * m) : -M ≤ x.tdiv m ∧ x.tdiv m ≤ M := by
 by_cases hx : 0 ≤ x
 ·
  rw [Int.tdiv_eq_ediv_of_nonneg hx]
  have h1 := Int.ediv_nonneg hx (Int.le_of_lt hm)
  have h2 : x / m ≤ M := by
   have := Int.ediv_le_ediv hm h.2
   rwa [Int.mul_ediv_cancel _ oM] at this
  omega
 ·
  have e : x.tdiv m = -((-x) / m) := by
   have := Int.neg_tdiv (a := -x) (b := m)
   rw [Int.neg_neg] at this
   rw [this, Int.tdiv_eq_ediv_of_nonneg oM]
  have h1 := Int.ediv_nonneg (a := -x) (b := m) oM oM
  have h2 : (-x) / m ≤ M := by
   have := Int.ediv_le_ediv hm (show -x ≤ M * m by omega)
   rwa [Int.mul_ediv_cancel _ oM] at this
  omega
def chE (g n : Int) : Int := (n * g).tdiv 1000
def wallP (c : Cut) (s : Pt) : Pt := (chE c.gain s.2 - c.half, chE c.gain s.1 + c.half)
theorem chE_bd {g n : Int} (hg : 0 ≤ g ∧ g ≤ 100000) (hn : -32768 ≤ n ∧ n ≤ 32768) : -3276800 ≤ chE g n ∧ chE g n ≤ 3276800 := by
 have := gMul (m := 32768) (n := 100000) hn ⟨by omega, hg.2⟩
 exact gTd (by decide) oM
def cutR (c : Cut) (s : List Pt) : List Pt × Int := if cutE c = 0 then (if sChk s = 0 then (s.map (wallP c), 0) else ([], sChk s)) else ([], cutE c)
theorem cutR_1 {c : Cut} {s : List Pt} (h : ¬ cutE c = 0) : cutR c s = ([], cutE c) := by rw [cutR, if_neg h]
theorem cutR_2 {c : Cut} {s : List Pt} (h : cutE c = 0) (h2 : ¬ sChk s = 0) : cutR c s = ([], sChk s) := by rw [cutR, if_pos h, if_neg h2]
theorem cutR_3 {c : Cut} {s : List Pt} (h : cutE c = 0) (h2 : sChk s = 0) : cutR c s = (s.map (wallP c), 0) := by rw [cutR, if_pos h, if_pos h2]
theorem gp_map {f : Pt → Pt} {l : List Pt} {k : Nat} (h : k < l.length) : gp (l.map f) k = f (gp l k) := by
 simp [gp, List.getD_eq_getElem?_getD, List.getElem?_eq_getElem h]
theorem wallP_gE {c : Cut} {s : Pt} (hc : cutE c = 0) (hs : sE s = true) : gE (wallP c s) = true := by
 obtain ⟨⟨a1, a2⟩, ⟨b1, b2⟩, _⟩ := cutE_ok.1 hc
 obtain ⟨h1, h2⟩ := sE_iff.1 hs
 have e1 := chE_bd (n := s.1) ⟨b1, b2⟩ oM
 have e2 := chE_bd (n := s.2) ⟨b1, b2⟩ oM
 rw [gE_iff]
 show (-4194304 ≤ chE c.gain s.2 - c.half ∧ _) ∧ -4194304 ≤ chE c.gain s.1 + c.half ∧ _
 simp only [wallP]
 omega
end Go.Proofs.YtlldpkkcbheenaaGreatDoor

namespace Go.Proofs.YtlldpkkcbheenaaGreatDoor
open Go.Ab Go.RowKit Go.Dw Go.Shelf
def inR2 (p : Pt) : Prop := inR .i64 p.1 ∧ inR .i64 p.2
set_option maxRecDepth 100000 in
theorem rCheckSamples_ac (l : List Pt) (hl : l.length ≤ 4611686018427387904) (hr : ∀ k, k < l.length → inR2 (gp l k)) : AC Tryz.prog 76 [V.pts l] (.i (sChk l)) [] := by
 refine acI hTT hMX Tryz.func76 Tryz.ntmps76 fun C hC hF => ?_
 refine sK fun K hK => wR 2 ?_; refine aX hTT 1 [] tI ?_; refine nK hK ?_; clear hK K; refine sK fun K hK => ?_; refine sK fun K hK => wR 3 ?_; refine aX hTT 3 [] tI ?_; refine nK hK ?_; clear hK K
 refine w_cond (t := decide ((4096 : Int) < (↑(List.length l) : Int))) kR (fun c1 => ?_) (fun c1 => ?_)
 ·
  simp at c1
  refine sK fun K hK => wR 4 ?_; refine aX hTT 1 [] tI ?_; refine nK hK ?_; clear hK K
  refine aw_ret ?_
  refine xt_r ?_
  rw [sChk_many oM]
  refine rP (V.i 6)
 simp at c1
 refine aw_skip ?_
 refine xt_n (hK _ ?_); clear hK K; refine sK fun K hK => ?_; refine sK fun K hK => wR 4 ?_; refine aX hTT 1 [] tI ?_; refine nK hK ?_; clear hK K
 refine aw_block ?_
 refine w_loop (ι := Nat) (fun k => [(0, V.pts l), (3, .i k)]) (fun _ => []) (fun k => k ≤ l.length ∧ ∀ j, j < k → sE (gp l j) = true) (fun k => l.length - k) 0 ⟨Nat.zero_le _, fun j hj => by omega⟩ ?_ ?_
 ·
  refine le_ren [] (.cons kR (.cons kR .nil)) .nil kR kR
 rintro k ⟨hk, hj⟩
 refine sK fun K hK => ?_; refine sK fun K hK => wR 2 ?_; refine aX hTT 4 [] tI ?_; refine nK hK ?_; clear hK K
 refine w_cond (t := decide ((↑k : Int) < (↑(List.length l) : Int))) kR (fun c2 => ?_) (fun c2 => ?_)
 ·
  simp at c2
  obtain ⟨r1, r2⟩ := hr k oM
  refine aw_skip ?_
  refine xt_n (hK _ ?_); clear hK K; refine sK fun K hK => ?_
  refine aw_block ?_
  refine sK fun K hK => wR 3 ?_; refine aX hTT 4 [(2, .c ((0 : Int) ≤ (↑k : Int) ∧ (↑k : Int) < (↑(List.length l) : Int)))] ⟨oM, tI⟩ ?_
  refine eC (rValid_ac (gp l k) r1 r2) ?_
  refine aX hTT 1 [] tI ?_; refine nK hK ?_; clear hK K
  refine w_cond (t := !sE (gp l k)) kR (fun c3 => ?_) (fun c3 => ?_)
  ·
   refine sK fun K hK => ?_
   refine wR 4 ?_; refine aX hTT 1 [] tI ?_; refine nK hK ?_; clear hK K
   refine aw_ret ?_
   refine xb_r ?_
   refine xt_r ?_; refine xt_r ?_
   refine xb_r ?_
   refine xt_r ?_
   rw [sChk_bad oM oM (by simpa using c3)]
   refine rP (V.i 2)
  refine aw_skip ?_
  refine xb_n ?_; refine xt_n (hK _ ?_); clear hK K; refine wR 4 ?_; refine aX hTT 3 [(1, .i ((↑k : Int) + 1))] ⟨oM, tI⟩ ?_; refine aops_nil ?_; refine xt_n ?_
  refine ⟨k + 1, ⟨by omega, fun i hi => ?_⟩, by refine le_ren [] (.cons kR (.cons kR .nil)) .nil kR kR, by omega⟩
  by_cases he : i = k
  ·
   subst he; simpa using c3
  ·
   exact hj i oM
 ·
  simp at c2
  refine aw_exit ?_
  refine xt_x ?_; refine xt_x ?_
  refine xb_same ?_
  refine xt_n ?_; clear hK K; refine hK _ ?_; clear hK K; refine sK fun K hK => wR 3 ?_; refine aX hTT 1 [] tI ?_; refine nK hK ?_; clear hK K
  refine aw_ret ?_
  rw [sChk_good oM fun i hi => hj i oM]
  refine rP (V.i 0)
abbrev yyGA21 (c : Cut) (s : Pt) : List V := [V.i (-Cut.half c + Int.tdiv (Prod.snd s * Cut.gain c) (1000 : Int)), V.i (Cut.half c + Int.tdiv (Prod.fst s * Cut.gain c) (1000 : Int))]
set_option maxRecDepth 100000 in
theorem wall_ac (c : Cut) (s : Pt) (hc : cutE c = 0) (hs : (-32768 ≤ s.1 ∧ s.1 ≤ 32768) ∧ -32768 ≤ s.2 ∧ s.2 ≤ 32768) : AC Tryz.prog 77 [c.v, .agg [.i s.1, .i s.2]] (.agg [.i (wallP c s).1, .i (wallP c s).2]) [] := by
 obtain ⟨⟨a1, a2⟩, ⟨b1, b2⟩, _⟩ := cutE_ok.1 hc
 obtain ⟨h1, h2⟩ := hs
 have e1 := chE_bd (n := s.1) ⟨b1, b2⟩ oM
 have e2 := chE_bd (n := s.2) ⟨b1, b2⟩ oM
 have m1 := gMul (m := 32768) (n := 100000) (a := s.1) (b := c.gain) oM ⟨by omega, b2⟩
 have m2 := gMul (m := 32768) (n := 100000) (a := s.2) (b := c.gain) oM ⟨by omega, b2⟩
 unfold chE at e1 e2
 refine acI hTT hMX Tryz.func77 Tryz.ntmps77 fun C hC hF => ?_
 refine sK fun K hK => wR 2 ?_; refine aX hTT 3 [(2, .r (pn 4 (V.ref 100004 0) (100004 : Nat) (Ob.box 35 [V.i 0, V.i 0])))] tI ?_; refine nK hK ?_; clear hK K; refine sK fun K hK => wR 3 ?_; refine aX hTT 21 [(2, .i (-Cut.half c)), (7, .i (Prod.snd s * Cut.gain c)), (8, .c ((0 : Int) < (1000 : Int) ∧ (-9223372036854775808 : Int) ≤ Prod.snd s * Cut.gain c ∧ Prod.snd s * Cut.gain c ≤ 9223372036854775807)), (9, .i (-Cut.half c + Int.tdiv (Prod.snd s * Cut.gain c) (1000 : Int))), (16, .i (Prod.fst s * Cut.gain c)), (17, .c ((0 : Int) < (1000 : Int) ∧ (-9223372036854775808 : Int) ≤ Prod.fst s * Cut.gain c ∧ Prod.fst s * Cut.gain c ≤ 9223372036854775807)), (18, .i (Cut.half c + Int.tdiv (Prod.fst s * Cut.gain c) (1000 : Int))), (20, .r (pw ((0 : Nat) + (2 : Nat) ≤ (2 : Nat)) (100004 : Nat) (Ob.box 35 (yyGA21 c s))))] ⟨oM, oM, ⟨oM, oM⟩, oM, oM, ⟨oM, oM⟩, oM, oM, tI⟩ ?_; refine nK hK ?_; clear hK K
 refine aw_ret ?_
 refine ret_of_le (le_freezeBox (t := (35 : Nat)) (cs := (yyGA21 c s)) 100004 kR kR) ?_
 have q1 : -c.half + (s.2 * c.gain).tdiv 1000 = (wallP c s).1 := by simp only [wallP, chE]; omega
 have q2 : c.half + (s.1 * c.gain).tdiv 1000 = (wallP c s).2 := by simp only [wallP, chE]; omega
 rw [← q1, ← q2]
 refine rP (V.agg (yyGA21 c s))
abbrev zzGA20 : V := V.sl 2 0 fun (k : Nat) => [V.i (Prod.fst (gp [] k)), V.i (Prod.snd (gp [] k))]
set_option maxRecDepth 100000 in
theorem refCut_ac (c : Cut) (s : List Pt) (hs : s.length ≤ 4611686018427387904) (hr : ∀ k, k < s.length → inR2 (gp s k)) : AC Tryz.prog 24 [c.v, V.pts s] (.tup [V.pts (cutR c s).1, .i (cutR c s).2]) [] := by
 refine acI hTT hMX Tryz.func24 Tryz.ntmps24 fun C hC hF => ?_
 refine sK fun K hK => wR 2 ?_; refine aX hTT 3 [] tI ?_; refine nK hK ?_; clear hK K; refine sK fun K hK => ?_; refine sK fun K hK => wR 3 ?_; refine aX hTT 1 [] tI ?_
 refine eC (refCheck_ac c) ?_
 refine aX hTT 1 [] tI ?_; refine nK hK ?_; clear hK K
 refine w_cond (t := !decide (cutE c = 0)) kR (fun c1 => ?_) (fun c1 => ?_)
 ·
  simp at c1
  refine sK fun K hK => wR 4 ?_; refine aX hTT 2 [] tI ?_; refine nK hK ?_; clear hK K
  refine aw_ret ?_
  refine xt_r ?_
  rw [cutR_1 c1, (cutE_cases c).resolve_left c1]
  refine ret_of_le (le_nil 4 (sz := 2) 0 (fun k => [.i (gp [] k).1, .i (gp [] k).2]) kR ?_) ?_
  ·
   rfl
  refine rP (V.tup [zzGA20, V.i 2])
 simp at c1
 refine aw_skip ?_
 refine xt_n (hK _ ?_); clear hK K; refine sK fun K hK => ?_; refine sK fun K hK => wR 4 ?_; refine aX hTT 1 [] tI ?_
 refine eC (rCheckSamples_ac s hs hr) ?_
 refine aX hTT 1 [] tI ?_; refine nK hK ?_; clear hK K
 refine w_cond (t := !decide (sChk s = 0)) kR (fun c2 => ?_) (fun c2 => ?_)
 ·
  simp at c2
  refine sK fun K hK => wR 5 ?_; refine aX hTT 1 [] tI ?_
  refine eC (rCheckSamples_ac s hs hr) ?_
  refine aX hTT 2 [] tI ?_; refine nK hK ?_; clear hK K
  refine aw_ret ?_
  refine xt_r ?_
  rw [cutR_2 c1 c2]
  refine ret_of_le (le_nil 4 (sz := 2) 0 (fun k => [.i (gp [] k).1, .i (gp [] k).2]) kR ?_) ?_
  ·
   rfl
  refine rP (V.tup [zzGA20, V.i (sChk s)])
 simp at c2
 obtain ⟨l1, l2⟩ := sChk_ok.1 c2
 refine aw_skip ?_
 refine xt_n (hK _ ?_); clear hK K; refine sK fun K hK => wR 5 ?_; refine aX hTT 1 [] tI ?_; refine nK hK ?_; clear hK K; refine sK fun K hK => ?_; refine sK fun K hK => wR 6 ?_; refine aX hTT 1 [] tI ?_; refine nK hK ?_; clear hK K
 refine aw_block ?_
 refine w_le (le_open 6 35 2 (fun k => [.i (wallP c (gp s k)).1, .i (wallP c (gp s k)).2]) kR rfl) ?_
 skip
 refine w_loop (ι := Nat) (fun k => [(2, .ptr [.i c.half, .i c.gain, .i c.thin, .i c.wide, .i c.slope, .i c.jerk, .i c.sty]), (1, V.pts s), (6, .own 6), (7, .i k)]) (fun k => [(6, .row 35 2 k (fun k => [.i (wallP c (gp s k)).1, .i (wallP c (gp s k)).2]))]) (fun k => k ≤ s.length) (fun k => s.length - k) 0 (Nat.zero_le _) ?_ ?_
 ·
  refine le_ren (sl := [(6, Ob.row 35 2 0 fun (k : Nat) => [V.i (Prod.fst (wallP c (gp s k))), V.i (Prod.snd (wallP c (gp s k)))])]) [(6, 600006)] (.cons kR (.cons kR (.cons kR (.cons kR .nil)))) (.cons ⟨Ob.row 35 2 0 fun (k : Nat) => [V.i (Prod.fst (wallP c (gp s k))), V.i (Prod.snd (wallP c (gp s k)))], kR, .row kR (fun _ _ => rfl)⟩ .nil) kR kR
 intro k hk
 refine sK fun K hK => ?_; refine sK fun K hK => wR 2 ?_; refine aX hTT 4 [] tI ?_; refine nK hK ?_; clear hK K
 refine w_cond (t := decide ((↑k : Int) < (↑(List.length s) : Int))) kR (fun c3 => ?_) (fun c3 => ?_)
 ·
  simp at c3
  have hsk := sE_iff.1 (l2 k c3)
  refine aw_skip ?_
  refine xt_n (hK _ ?_); clear hK K; refine sK fun K hK => ?_
  refine aw_block ?_
  refine wD 3 ?_; refine aX hTT 6 [(4, .c ((0 : Int) ≤ (↑k : Int) ∧ (↑k : Int) < (↑(List.length s) : Int)))] ⟨oM, tI⟩ ?_
  refine eC (wall_ac c (gp s k) c1 oM) ?_
  refine aX hTT 3 [(1, .r (PR.mk (some (30 : Nat)) (some (k + 1 ≤ (1099511627776 : Nat))) (V.own 200030) [((6 : Nat), none), ((200030 : Nat), some (Ob.row 35 2 (k + 1) (appRow k (fun (k : Nat) => [V.i (Prod.fst (wallP c (gp s k))), V.i (Prod.snd (wallP c (gp s k)))]) fun (i : Nat) => List.take (2 : Nat) (List.drop (i * 2) [V.i (Prod.fst (wallP c (gp s k))), V.i (Prod.snd (wallP c (gp s k)))]))))] false))] ⟨oM, tI⟩ ?_; refine aops_nil ⟨kR, ?_⟩; refine xb_n ?_; refine xt_n (hK _ ?_); clear hK K; refine wR 4 ?_; refine aX hTT 3 [(1, .i ((↑k : Int) + 1))] ⟨oM, tI⟩ ?_; refine aops_nil ?_; refine xt_n ?_
  refine ⟨k + 1, by omega, ?_, by omega⟩
  refine le_ren (tl := [(2, V.ptr [V.i (Cut.half c), V.i (Cut.gain c), V.i (Cut.thin c), V.i (Cut.wide c), V.i (Cut.slope c), V.i (Cut.jerk c), V.i (Cut.sty c)]), (1, V.sl 2 (List.length s) fun (k : Nat) => [V.i (Prod.fst (gp s k)), V.i (Prod.snd (gp s k))]), (6, V.own 6), (7, V.i (↑(k + 1) : Int))]) (sl := [(6, Ob.row 35 2 (k + 1) fun (k : Nat) => [V.i (Prod.fst (wallP c (gp s k))), V.i (Prod.snd (wallP c (gp s k)))])]) [(6, 200030)] (.cons kR (.cons kR (.cons kR (.cons kR .nil)))) (.cons ⟨Ob.row 35 2 (k + 1) (appRow k (fun (k : Nat) => [V.i (Prod.fst (wallP c (gp s k))), V.i (Prod.snd (wallP c (gp s k)))]) fun (i : Nat) => List.take (2 : Nat) (List.drop (i * 2) [V.i (Prod.fst (wallP c (gp s k))), V.i (Prod.snd (wallP c (gp s k)))])), kR, .row kR ?_⟩ .nil) kR kR
  exact appRow_p rfl rfl rfl
 ·
  simp at c3
  obtain rfl : k = s.length := by omega
  refine aw_exit ?_
  refine xt_x ?_; refine xt_x ?_
  refine xb_same ?_
  refine xt_n ?_; clear hK K; refine hK _ ?_; clear hK K; refine sK fun K hK => wR 3 ?_; refine aX hTT 3 [] tI ?_; refine nK hK ?_; clear hK K
  refine aw_ret ?_
  rw [cutR_3 c1 c2]
  refine ret_of_le (le_shut 4 6 (e := (35 : Nat)) (sz := (2 : Nat)) (n := List.length s) (n' := (s.map (wallP c)).length) (row := fun (k : Nat) => [V.i (Prod.fst (wallP c (gp s k))), V.i (Prod.snd (wallP c (gp s k)))]) (row' := (fun j => [.i (gp (s.map (wallP c)) j).1, .i (gp (s.map (wallP c)) j).2])) kR kR (fun _ _ => rfl) ?_ ?_) ?_
  ·
   simp
  ·
   intro i hi
   rw [gp_map hi]
  refine rP (V.tup [V.sl 2 (List.length (List.map (wallP c) s)) fun (j : Nat) => [V.i (Prod.fst (gp (List.map (wallP c) s) j)), V.i (Prod.snd (gp (List.map (wallP c) s) j))], V.i 0])
end Go.Proofs.YtlldpkkcbheenaaGreatDoor

namespace Go.Proofs.YtlldpkkcbheenaaGreatDoor
open Go.Ab Go.RowKit Go.Dw Go.Shelf
set_option maxRecDepth 100000 in
theorem within5_ac (x lo hi : Int) : AC Tryz.prog 49 [.i x, .i lo, .i hi] (.b (betB x lo hi)) [] := by
 refine acI hTT hMX Tryz.func49 Tryz.ntmps49 fun C hC hF => ?_
 refine sK fun K hK => wR 2 ?_; refine aX hTT 1 [] tI ?_; refine nK hK ?_; clear hK K; refine sK fun K hK => wR 3 ?_; refine aX hTT 9 [(4, .c (gA (decide (lo ≤ x) == true) True)), (5, .c (gA (decide (lo ≤ x) == true) True)), (6, .c (gC (decide (lo ≤ x) == true) True)), (7, .c ((decide (lo ≤ x) = true → (decide (lo ≤ x) == true) = true) ∧ True))] ⟨⟨⟨tI, tI⟩, (fun _ => tI)⟩, ⟨⟨tI, tI⟩, (fun _ => tI)⟩, ⟨⟨(by (exact fun h => h)), ⟨(by (exact fun h => h)), tI⟩⟩, (fun _ => tI)⟩, ⟨(by (intro h; rw [h]; rfl)), tI⟩, tI⟩ ?_; refine nK hK ?_; clear hK K
 refine aw_ret ?_
 refine rP (V.b (decide (lo ≤ x) && decide (x ≤ hi)))
set_option maxRecDepth 100000 in
theorem rCheck5_ac (b : Bl) : AC Tryz.prog 12 [b.v] (.i (blE b)) [] := by
 refine ac_intro hTT hMX (fn := Tryz.f12) (N := _) ⟨Tryz.func12, rfl, Tryz.ntmps12, kR⟩ (by simp) fun C hC hF => ?_
 refine sK fun K hK => ?_
 refine w_region (n' := 2) kR kR ?_
 refine aops_n hTT (M := []) (n := 2) [pv (1 : Nat) (V.ptr [V.i (Bl.per b), V.i (Bl.rim b), V.i (Bl.core b), V.i (Bl.land b), V.i (Bl.slow b), V.i (Bl.fast b)]), pv (2 : Nat) (V.i (0 : Int))] kR kR tI ?_
 refine aops_nil ?_
 refine xt_n ?_
 refine hK _ ?_
 clear hK K
 refine sK fun K hK => ?_
 refine sK fun K hK => ?_
 refine w_region (n' := 3) kR kR ?_
 refine aops_n hTT (M := []) (n := 2) [pv (3 : Nat) (V.ptr [V.i (Bl.per b), V.i (Bl.rim b), V.i (Bl.core b), V.i (Bl.land b), V.i (Bl.slow b), V.i (Bl.fast b)]), pv (4 : Nat) (V.i (Bl.per b))] kR kR tI ?_
 refine e_call (first := []) (caps := []) (within5_ac b.per 1 65536) kR kR kR kR kR ?_
 refine aops_n hTT (M := []) (n := 4) [pv (6 : Nat) (V.b !betB (Bl.per b) (1 : Int) (65536 : Int)), pv (7 : Nat) (V.b !betB (Bl.per b) (1 : Int) (65536 : Int)), pc (8 : Nat) ((True ∧ True) ∧ (((!betB (Bl.per b) (1 : Int) (65536 : Int)) == false) = true → True)) (V.gd ((!betB (Bl.per b) (1 : Int) (65536 : Int)) == false) (V.ptr [V.i (Bl.rim b), V.i (Bl.core b), V.i (Bl.land b), V.i (Bl.slow b), V.i (Bl.fast b)])), pc (9 : Nat) (((((!betB (Bl.per b) (1 : Int) (65536 : Int)) == false) = true → ((!betB (Bl.per b) (1 : Int) (65536 : Int)) == false) = true) ∧ True) ∧ (((!betB (Bl.per b) (1 : Int) (65536 : Int)) == false) = true → True)) (V.gd ((!betB (Bl.per b) (1 : Int) (65536 : Int)) == false) (V.i (Bl.rim b)))] kR kR ⟨⟨⟨tI, tI⟩, (fun _ => tI)⟩, ⟨⟨(by (exact fun h => h)), tI⟩, (fun _ => tI)⟩, tI⟩ ?_
 refine e_callG 1 (g := (!betB (Bl.per b) (1 : Int) (65536 : Int)) == false) (first := []) (caps := []) kR (fun h => within5_ac b.rim 0 4194304) kR kR kR kR kR kR ?_
 refine aops_n hTT (M := []) (n := 7) [pc (11 : Nat) (((((!betB (Bl.per b) (1 : Int) (65536 : Int)) == false) = true → ((!betB (Bl.per b) (1 : Int) (65536 : Int)) == false) = true) ∧ True) ∧ (((!betB (Bl.per b) (1 : Int) (65536 : Int)) == false) = true → True)) (V.gd ((!betB (Bl.per b) (1 : Int) (65536 : Int)) == false) (V.b !betB (Bl.rim b) (0 : Int) (4194304 : Int))), pc (12 : Nat) (True ∧ ((!betB (Bl.per b) (1 : Int) (65536 : Int)) = false → ((!betB (Bl.per b) (1 : Int) (65536 : Int)) == false) = true)) (V.b (!betB (Bl.per b) (1 : Int) (65536 : Int) || !betB (Bl.rim b) (0 : Int) (4194304 : Int))), pv (13 : Nat) (V.b (!betB (Bl.per b) (1 : Int) (65536 : Int) || !betB (Bl.rim b) (0 : Int) (4194304 : Int))), pc (14 : Nat) ((True ∧ True) ∧ (((!betB (Bl.per b) (1 : Int) (65536 : Int) || !betB (Bl.rim b) (0 : Int) (4194304 : Int)) == false) = true → True)) (V.gd ((!betB (Bl.per b) (1 : Int) (65536 : Int) || !betB (Bl.rim b) (0 : Int) (4194304 : Int)) == false) (V.ptr [V.i (Bl.core b), V.i (Bl.land b), V.i (Bl.slow b), V.i (Bl.fast b)])), pc (15 : Nat) (((((!betB (Bl.per b) (1 : Int) (65536 : Int) || !betB (Bl.rim b) (0 : Int) (4194304 : Int)) == false) = true → ((!betB (Bl.per b) (1 : Int) (65536 : Int) || !betB (Bl.rim b) (0 : Int) (4194304 : Int)) == false) = true) ∧ True) ∧ (((!betB (Bl.per b) (1 : Int) (65536 : Int) || !betB (Bl.rim b) (0 : Int) (4194304 : Int)) == false) = true → True)) (V.gd ((!betB (Bl.per b) (1 : Int) (65536 : Int) || !betB (Bl.rim b) (0 : Int) (4194304 : Int)) == false) (V.i (Bl.core b))), pc (16 : Nat) ((True ∧ True) ∧ (((!betB (Bl.per b) (1 : Int) (65536 : Int) || !betB (Bl.rim b) (0 : Int) (4194304 : Int)) == false) = true → True)) (V.gd ((!betB (Bl.per b) (1 : Int) (65536 : Int) || !betB (Bl.rim b) (0 : Int) (4194304 : Int)) == false) (V.ptr [V.i (Bl.rim b), V.i (Bl.core b), V.i (Bl.land b), V.i (Bl.slow b), V.i (Bl.fast b)])), pc (17 : Nat) (((((!betB (Bl.per b) (1 : Int) (65536 : Int) || !betB (Bl.rim b) (0 : Int) (4194304 : Int)) == false) = true → ((!betB (Bl.per b) (1 : Int) (65536 : Int) || !betB (Bl.rim b) (0 : Int) (4194304 : Int)) == false) = true) ∧ True) ∧ (((!betB (Bl.per b) (1 : Int) (65536 : Int) || !betB (Bl.rim b) (0 : Int) (4194304 : Int)) == false) = true → True)) (V.gd ((!betB (Bl.per b) (1 : Int) (65536 : Int) || !betB (Bl.rim b) (0 : Int) (4194304 : Int)) == false) (V.i (Bl.rim b)))] kR kR ⟨⟨⟨(by (exact fun h => h)), tI⟩, (fun _ => tI)⟩, ⟨tI, (by (intro h; rw [h]; rfl))⟩, ⟨⟨tI, tI⟩, (fun _ => tI)⟩, ⟨⟨(by (exact fun h => h)), tI⟩, (fun _ => tI)⟩, ⟨⟨tI, tI⟩, (fun _ => tI)⟩, ⟨⟨(by (exact fun h => h)), tI⟩, (fun _ => tI)⟩, tI⟩ ?_
 refine e_callG 2 (g := (!betB (Bl.per b) (1 : Int) (65536 : Int) || !betB (Bl.rim b) (0 : Int) (4194304 : Int)) == false) (first := []) (caps := []) kR (fun h => within5_ac b.core 0 b.rim) kR kR kR kR kR kR ?_
 refine aops_n hTT (M := []) (n := 5) [pc (19 : Nat) (((((!betB (Bl.per b) (1 : Int) (65536 : Int) || !betB (Bl.rim b) (0 : Int) (4194304 : Int)) == false) = true → ((!betB (Bl.per b) (1 : Int) (65536 : Int) || !betB (Bl.rim b) (0 : Int) (4194304 : Int)) == false) = true) ∧ True) ∧ (((!betB (Bl.per b) (1 : Int) (65536 : Int) || !betB (Bl.rim b) (0 : Int) (4194304 : Int)) == false) = true → True)) (V.gd ((!betB (Bl.per b) (1 : Int) (65536 : Int) || !betB (Bl.rim b) (0 : Int) (4194304 : Int)) == false) (V.b !betB (Bl.core b) (0 : Int) (Bl.rim b))), pc (20 : Nat) (True ∧ ((!betB (Bl.per b) (1 : Int) (65536 : Int) || !betB (Bl.rim b) (0 : Int) (4194304 : Int)) = false → ((!betB (Bl.per b) (1 : Int) (65536 : Int) || !betB (Bl.rim b) (0 : Int) (4194304 : Int)) == false) = true)) (V.b (!betB (Bl.per b) (1 : Int) (65536 : Int) || !betB (Bl.rim b) (0 : Int) (4194304 : Int) || !betB (Bl.core b) (0 : Int) (Bl.rim b))), pv (21 : Nat) (V.b (!betB (Bl.per b) (1 : Int) (65536 : Int) || !betB (Bl.rim b) (0 : Int) (4194304 : Int) || !betB (Bl.core b) (0 : Int) (Bl.rim b))), pc (22 : Nat) ((True ∧ True) ∧ (((!betB (Bl.per b) (1 : Int) (65536 : Int) || !betB (Bl.rim b) (0 : Int) (4194304 : Int) || !betB (Bl.core b) (0 : Int) (Bl.rim b)) == false) = true → True)) (V.gd ((!betB (Bl.per b) (1 : Int) (65536 : Int) || !betB (Bl.rim b) (0 : Int) (4194304 : Int) || !betB (Bl.core b) (0 : Int) (Bl.rim b)) == false) (V.ptr [V.i (Bl.land b), V.i (Bl.slow b), V.i (Bl.fast b)])), pc (23 : Nat) (((((!betB (Bl.per b) (1 : Int) (65536 : Int) || !betB (Bl.rim b) (0 : Int) (4194304 : Int) || !betB (Bl.core b) (0 : Int) (Bl.rim b)) == false) = true → ((!betB (Bl.per b) (1 : Int) (65536 : Int) || !betB (Bl.rim b) (0 : Int) (4194304 : Int) || !betB (Bl.core b) (0 : Int) (Bl.rim b)) == false) = true) ∧ True) ∧ (((!betB (Bl.per b) (1 : Int) (65536 : Int) || !betB (Bl.rim b) (0 : Int) (4194304 : Int) || !betB (Bl.core b) (0 : Int) (Bl.rim b)) == false) = true → True)) (V.gd ((!betB (Bl.per b) (1 : Int) (65536 : Int) || !betB (Bl.rim b) (0 : Int) (4194304 : Int) || !betB (Bl.core b) (0 : Int) (Bl.rim b)) == false) (V.i (Bl.land b)))] kR kR ⟨⟨⟨(by (exact fun h => h)), tI⟩, (fun _ => tI)⟩, ⟨tI, (by (intro h; rw [h]; rfl))⟩, ⟨⟨tI, tI⟩, (fun _ => tI)⟩, ⟨⟨(by (exact fun h => h)), tI⟩, (fun _ => tI)⟩, tI⟩ ?_
 refine e_callG 1 (g := (!betB (Bl.per b) (1 : Int) (65536 : Int) || !betB (Bl.rim b) (0 : Int) (4194304 : Int) || !betB (Bl.core b) (0 : Int) (Bl.rim b)) == false) (first := []) (caps := []) kR (fun h => within5_ac b.land 0 65536) kR kR kR kR kR kR ?_
 refine aops_n hTT (M := []) (n := 7) [pc (25 : Nat) (((((!betB (Bl.per b) (1 : Int) (65536 : Int) || !betB (Bl.rim b) (0 : Int) (4194304 : Int) || !betB (Bl.core b) (0 : Int) (Bl.rim b)) == false) = true → ((!betB (Bl.per b) (1 : Int) (65536 : Int) || !betB (Bl.rim b) (0 : Int) (4194304 : Int) || !betB (Bl.core b) (0 : Int) (Bl.rim b)) == false) = true) ∧ True) ∧ (((!betB (Bl.per b) (1 : Int) (65536 : Int) || !betB (Bl.rim b) (0 : Int) (4194304 : Int) || !betB (Bl.core b) (0 : Int) (Bl.rim b)) == false) = true → True)) (V.gd ((!betB (Bl.per b) (1 : Int) (65536 : Int) || !betB (Bl.rim b) (0 : Int) (4194304 : Int) || !betB (Bl.core b) (0 : Int) (Bl.rim b)) == false) (V.b !betB (Bl.land b) (0 : Int) (65536 : Int))), pc (26 : Nat) (True ∧ ((!betB (Bl.per b) (1 : Int) (65536 : Int) || !betB (Bl.rim b) (0 : Int) (4194304 : Int) || !betB (Bl.core b) (0 : Int) (Bl.rim b)) = false → ((!betB (Bl.per b) (1 : Int) (65536 : Int) || !betB (Bl.rim b) (0 : Int) (4194304 : Int) || !betB (Bl.core b) (0 : Int) (Bl.rim b)) == false) = true)) (V.b (!betB (Bl.per b) (1 : Int) (65536 : Int) || !betB (Bl.rim b) (0 : Int) (4194304 : Int) || !betB (Bl.core b) (0 : Int) (Bl.rim b) || !betB (Bl.land b) (0 : Int) (65536 : Int))), pv (27 : Nat) (V.b (!betB (Bl.per b) (1 : Int) (65536 : Int) || !betB (Bl.rim b) (0 : Int) (4194304 : Int) || !betB (Bl.core b) (0 : Int) (Bl.rim b) || !betB (Bl.land b) (0 : Int) (65536 : Int))), pc (28 : Nat) ((True ∧ True) ∧ (((!betB (Bl.per b) (1 : Int) (65536 : Int) || !betB (Bl.rim b) (0 : Int) (4194304 : Int) || !betB (Bl.core b) (0 : Int) (Bl.rim b) || !betB (Bl.land b) (0 : Int) (65536 : Int)) == false) = true → True)) (V.gd ((!betB (Bl.per b) (1 : Int) (65536 : Int) || !betB (Bl.rim b) (0 : Int) (4194304 : Int) || !betB (Bl.core b) (0 : Int) (Bl.rim b) || !betB (Bl.land b) (0 : Int) (65536 : Int)) == false) (V.ptr [V.i (Bl.slow b), V.i (Bl.fast b)])), pc (29 : Nat) (((((!betB (Bl.per b) (1 : Int) (65536 : Int) || !betB (Bl.rim b) (0 : Int) (4194304 : Int) || !betB (Bl.core b) (0 : Int) (Bl.rim b) || !betB (Bl.land b) (0 : Int) (65536 : Int)) == false) = true → ((!betB (Bl.per b) (1 : Int) (65536 : Int) || !betB (Bl.rim b) (0 : Int) (4194304 : Int) || !betB (Bl.core b) (0 : Int) (Bl.rim b) || !betB (Bl.land b) (0 : Int) (65536 : Int)) == false) = true) ∧ True) ∧ (((!betB (Bl.per b) (1 : Int) (65536 : Int) || !betB (Bl.rim b) (0 : Int) (4194304 : Int) || !betB (Bl.core b) (0 : Int) (Bl.rim b) || !betB (Bl.land b) (0 : Int) (65536 : Int)) == false) = true → True)) (V.gd ((!betB (Bl.per b) (1 : Int) (65536 : Int) || !betB (Bl.rim b) (0 : Int) (4194304 : Int) || !betB (Bl.core b) (0 : Int) (Bl.rim b) || !betB (Bl.land b) (0 : Int) (65536 : Int)) == false) (V.i (Bl.slow b))), pc (30 : Nat) ((True ∧ True) ∧ (((!betB (Bl.per b) (1 : Int) (65536 : Int) || !betB (Bl.rim b) (0 : Int) (4194304 : Int) || !betB (Bl.core b) (0 : Int) (Bl.rim b) || !betB (Bl.land b) (0 : Int) (65536 : Int)) == false) = true → True)) (V.gd ((!betB (Bl.per b) (1 : Int) (65536 : Int) || !betB (Bl.rim b) (0 : Int) (4194304 : Int) || !betB (Bl.core b) (0 : Int) (Bl.rim b) || !betB (Bl.land b) (0 : Int) (65536 : Int)) == false) (V.ptr [V.i (Bl.fast b)])), pc (31 : Nat) (((((!betB (Bl.per b) (1 : Int) (65536 : Int) || !betB (Bl.rim b) (0 : Int) (4194304 : Int) || !betB (Bl.core b) (0 : Int) (Bl.rim b) || !betB (Bl.land b) (0 : Int) (65536 : Int)) == false) = true → ((!betB (Bl.per b) (1 : Int) (65536 : Int) || !betB (Bl.rim b) (0 : Int) (4194304 : Int) || !betB (Bl.core b) (0 : Int) (Bl.rim b) || !betB (Bl.land b) (0 : Int) (65536 : Int)) == false) = true) ∧ True) ∧ (((!betB (Bl.per b) (1 : Int) (65536 : Int) || !betB (Bl.rim b) (0 : Int) (4194304 : Int) || !betB (Bl.core b) (0 : Int) (Bl.rim b) || !betB (Bl.land b) (0 : Int) (65536 : Int)) == false) = true → True)) (V.gd ((!betB (Bl.per b) (1 : Int) (65536 : Int) || !betB (Bl.rim b) (0 : Int) (4194304 : Int) || !betB (Bl.core b) (0 : Int) (Bl.rim b) || !betB (Bl.land b) (0 : Int) (65536 : Int)) == false) (V.i (Bl.fast b)))] kR kR ⟨⟨⟨(by (exact fun h => h)), tI⟩, (fun _ => tI)⟩, ⟨tI, (by (intro h; rw [h]; rfl))⟩, ⟨⟨tI, tI⟩, (fun _ => tI)⟩, ⟨⟨(by (exact fun h => h)), tI⟩, (fun _ => tI)⟩, ⟨⟨tI, tI⟩, (fun _ => tI)⟩, ⟨⟨(by (exact fun h => h)), tI⟩, (fun _ => tI)⟩, tI⟩ ?_
 refine e_callG 2 (g := (!betB (Bl.per b) (1 : Int) (65536 : Int) || !betB (Bl.rim b) (0 : Int) (4194304 : Int) || !betB (Bl.core b) (0 : Int) (Bl.rim b) || !betB (Bl.land b) (0 : Int) (65536 : Int)) == false) (first := []) (caps := []) kR (fun h => within5_ac b.slow 0 b.fast) kR kR kR kR kR kR ?_
 refine aops_n hTT (M := []) (n := 7) [pc (33 : Nat) (((((!betB (Bl.per b) (1 : Int) (65536 : Int) || !betB (Bl.rim b) (0 : Int) (4194304 : Int) || !betB (Bl.core b) (0 : Int) (Bl.rim b) || !betB (Bl.land b) (0 : Int) (65536 : Int)) == false) = true → ((!betB (Bl.per b) (1 : Int) (65536 : Int) || !betB (Bl.rim b) (0 : Int) (4194304 : Int) || !betB (Bl.core b) (0 : Int) (Bl.rim b) || !betB (Bl.land b) (0 : Int) (65536 : Int)) == false) = true) ∧ True) ∧ (((!betB (Bl.per b) (1 : Int) (65536 : Int) || !betB (Bl.rim b) (0 : Int) (4194304 : Int) || !betB (Bl.core b) (0 : Int) (Bl.rim b) || !betB (Bl.land b) (0 : Int) (65536 : Int)) == false) = true → True)) (V.gd ((!betB (Bl.per b) (1 : Int) (65536 : Int) || !betB (Bl.rim b) (0 : Int) (4194304 : Int) || !betB (Bl.core b) (0 : Int) (Bl.rim b) || !betB (Bl.land b) (0 : Int) (65536 : Int)) == false) (V.b !betB (Bl.slow b) (0 : Int) (Bl.fast b))), pc (34 : Nat) (True ∧ ((!betB (Bl.per b) (1 : Int) (65536 : Int) || !betB (Bl.rim b) (0 : Int) (4194304 : Int) || !betB (Bl.core b) (0 : Int) (Bl.rim b) || !betB (Bl.land b) (0 : Int) (65536 : Int)) = false → ((!betB (Bl.per b) (1 : Int) (65536 : Int) || !betB (Bl.rim b) (0 : Int) (4194304 : Int) || !betB (Bl.core b) (0 : Int) (Bl.rim b) || !betB (Bl.land b) (0 : Int) (65536 : Int)) == false) = true)) (V.b (!betB (Bl.per b) (1 : Int) (65536 : Int) || !betB (Bl.rim b) (0 : Int) (4194304 : Int) || !betB (Bl.core b) (0 : Int) (Bl.rim b) || !betB (Bl.land b) (0 : Int) (65536 : Int) || !betB (Bl.slow b) (0 : Int) (Bl.fast b))), pv (35 : Nat) (V.b (!betB (Bl.per b) (1 : Int) (65536 : Int) || !betB (Bl.rim b) (0 : Int) (4194304 : Int) || !betB (Bl.core b) (0 : Int) (Bl.rim b) || !betB (Bl.land b) (0 : Int) (65536 : Int) || !betB (Bl.slow b) (0 : Int) (Bl.fast b))), pc (36 : Nat) ((True ∧ True) ∧ (((!betB (Bl.per b) (1 : Int) (65536 : Int) || !betB (Bl.rim b) (0 : Int) (4194304 : Int) || !betB (Bl.core b) (0 : Int) (Bl.rim b) || !betB (Bl.land b) (0 : Int) (65536 : Int) || !betB (Bl.slow b) (0 : Int) (Bl.fast b)) == false) = true → True)) (V.gd ((!betB (Bl.per b) (1 : Int) (65536 : Int) || !betB (Bl.rim b) (0 : Int) (4194304 : Int) || !betB (Bl.core b) (0 : Int) (Bl.rim b) || !betB (Bl.land b) (0 : Int) (65536 : Int) || !betB (Bl.slow b) (0 : Int) (Bl.fast b)) == false) (V.ptr [V.i (Bl.fast b)])), pc (37 : Nat) (((((!betB (Bl.per b) (1 : Int) (65536 : Int) || !betB (Bl.rim b) (0 : Int) (4194304 : Int) || !betB (Bl.core b) (0 : Int) (Bl.rim b) || !betB (Bl.land b) (0 : Int) (65536 : Int) || !betB (Bl.slow b) (0 : Int) (Bl.fast b)) == false) = true → ((!betB (Bl.per b) (1 : Int) (65536 : Int) || !betB (Bl.rim b) (0 : Int) (4194304 : Int) || !betB (Bl.core b) (0 : Int) (Bl.rim b) || !betB (Bl.land b) (0 : Int) (65536 : Int) || !betB (Bl.slow b) (0 : Int) (Bl.fast b)) == false) = true) ∧ True) ∧ (((!betB (Bl.per b) (1 : Int) (65536 : Int) || !betB (Bl.rim b) (0 : Int) (4194304 : Int) || !betB (Bl.core b) (0 : Int) (Bl.rim b) || !betB (Bl.land b) (0 : Int) (65536 : Int) || !betB (Bl.slow b) (0 : Int) (Bl.fast b)) == false) = true → True)) (V.gd ((!betB (Bl.per b) (1 : Int) (65536 : Int) || !betB (Bl.rim b) (0 : Int) (4194304 : Int) || !betB (Bl.core b) (0 : Int) (Bl.rim b) || !betB (Bl.land b) (0 : Int) (65536 : Int) || !betB (Bl.slow b) (0 : Int) (Bl.fast b)) == false) (V.i (Bl.fast b))), pc (38 : Nat) (((((!betB (Bl.per b) (1 : Int) (65536 : Int) || !betB (Bl.rim b) (0 : Int) (4194304 : Int) || !betB (Bl.core b) (0 : Int) (Bl.rim b) || !betB (Bl.land b) (0 : Int) (65536 : Int) || !betB (Bl.slow b) (0 : Int) (Bl.fast b)) == false) = true → ((!betB (Bl.per b) (1 : Int) (65536 : Int) || !betB (Bl.rim b) (0 : Int) (4194304 : Int) || !betB (Bl.core b) (0 : Int) (Bl.rim b) || !betB (Bl.land b) (0 : Int) (65536 : Int) || !betB (Bl.slow b) (0 : Int) (Bl.fast b)) == false) = true) ∧ True ∧ True) ∧ (((!betB (Bl.per b) (1 : Int) (65536 : Int) || !betB (Bl.rim b) (0 : Int) (4194304 : Int) || !betB (Bl.core b) (0 : Int) (Bl.rim b) || !betB (Bl.land b) (0 : Int) (65536 : Int) || !betB (Bl.slow b) (0 : Int) (Bl.fast b)) == false) = true → True)) (V.gd ((!betB (Bl.per b) (1 : Int) (65536 : Int) || !betB (Bl.rim b) (0 : Int) (4194304 : Int) || !betB (Bl.core b) (0 : Int) (Bl.rim b) || !betB (Bl.land b) (0 : Int) (65536 : Int) || !betB (Bl.slow b) (0 : Int) (Bl.fast b)) == false) (V.b (decide ((65536 : Int) < Bl.fast b)))), pc (39 : Nat) (True ∧ ((!betB (Bl.per b) (1 : Int) (65536 : Int) || !betB (Bl.rim b) (0 : Int) (4194304 : Int) || !betB (Bl.core b) (0 : Int) (Bl.rim b) || !betB (Bl.land b) (0 : Int) (65536 : Int) || !betB (Bl.slow b) (0 : Int) (Bl.fast b)) = false → ((!betB (Bl.per b) (1 : Int) (65536 : Int) || !betB (Bl.rim b) (0 : Int) (4194304 : Int) || !betB (Bl.core b) (0 : Int) (Bl.rim b) || !betB (Bl.land b) (0 : Int) (65536 : Int) || !betB (Bl.slow b) (0 : Int) (Bl.fast b)) == false) = true)) (V.b (!betB (Bl.per b) (1 : Int) (65536 : Int) || !betB (Bl.rim b) (0 : Int) (4194304 : Int) || !betB (Bl.core b) (0 : Int) (Bl.rim b) || !betB (Bl.land b) (0 : Int) (65536 : Int) || !betB (Bl.slow b) (0 : Int) (Bl.fast b) || decide ((65536 : Int) < Bl.fast b)))] kR kR ⟨⟨⟨(by (exact fun h => h)), tI⟩, (fun _ => tI)⟩, ⟨tI, (by (intro h; rw [h]; rfl))⟩, ⟨⟨tI, tI⟩, (fun _ => tI)⟩, ⟨⟨(by (exact fun h => h)), tI⟩, (fun _ => tI)⟩, ⟨⟨(by (exact fun h => h)), ⟨tI, tI⟩⟩, (fun _ => tI)⟩, ⟨tI, (by (intro h; rw [h]; rfl))⟩, tI⟩ ?_
 refine aops_nil ?_
 refine xt_n ?_
 refine hK _ ?_
 clear hK K
 refine w_cond (t := !betB (Bl.per b) (1 : Int) (65536 : Int) || !betB (Bl.rim b) (0 : Int) (4194304 : Int) || !betB (Bl.core b) (0 : Int) (Bl.rim b) || !betB (Bl.land b) (0 : Int) (65536 : Int) || !betB (Bl.slow b) (0 : Int) (Bl.fast b) || decide ((65536 : Int) < Bl.fast b)) kR (fun c1 => ?_) (fun c1 => ?_)
 ·
  have e : blE b = 2 := blE_2 fun ⟨⟨q1, q2⟩, ⟨q3, q4⟩, ⟨q5, q6⟩, ⟨q7, q8⟩, ⟨q9, q10⟩, q11, q12⟩ => by
   simp [betB] at c1
   omega
  refine sK fun K hK => ?_
  refine w_region (n' := 4) kR kR ?_
  refine aops_n hTT (M := []) (n := 1) [pv (2 : Nat) (V.i (2 : Int))] kR kR tI ?_
  refine aops_nil ?_
  refine xt_n ?_
  refine hK _ ?_
  clear hK K
  refine aw_ret ?_
  refine xt_r ?_
  rw [e]
  refine ret_pure (v' := V.i (2 : Int)) (.inr rfl) kR kR kR
 ·
  have e : blE b = 0 := blE_ok.2 (by
   simp [betB] at c1
   unfold Bl.ok
   omega)
  refine aw_skip ?_
  refine xt_n ?_
  refine hK _ ?_
  clear hK K
  refine sK fun K hK => ?_
  refine w_region (n' := 4) kR kR ?_
  refine aops_n hTT (M := []) (n := 1) [pv (2 : Nat) (V.i (0 : Int))] kR kR tI ?_
  refine aops_nil ?_
  refine xt_n ?_
  refine hK _ ?_
  clear hK K
  refine aw_ret ?_
  rw [e]
  refine ret_pure (v' := V.i (0 : Int)) (.inr rfl) kR kR kR
set_option maxRecDepth 100000 in
theorem cut_no (c : Cut) (b : Bl) (p : List Pt) (m : Nat) (h : m < p.length ∨ blE b ≠ 0) : AC Tryz.prog 11 [V.pts p, c.v, b.v, .i m] (.tup [.nil, .b false]) [] := by
 refine acI hTT hMX Tryz.func11 Tryz.ntmps11 fun C hC hF => ?_
 refine sK fun K hK => wR 2 ?_; refine aX hTT 4 [] tI ?_; refine nK hK ?_; clear hK K; refine sK fun K hK => ?_; refine sK fun K hK => wR 3 ?_; refine aX hTT 6 [(5, .c (gA (decide ((↑m : Int) < (↑(List.length p) : Int)) == false) True))] ⟨⟨⟨tI, tI⟩, (fun _ => tI)⟩, tI⟩ ?_
 refine eG 1 (g := decide ((↑m : Int) < (↑(List.length p) : Int)) == false) (fun h => rCheck5_ac b) ?_
 refine aX hTT 2 [(0, .c (gD (decide ((↑m : Int) < (↑(List.length p) : Int)) == false) True)), (1, .c (True ∧ (decide ((↑m : Int) < (↑(List.length p) : Int)) = false → (decide ((↑m : Int) < (↑(List.length p) : Int)) == false) = true)))] ⟨⟨⟨(by (exact fun h => h)), ⟨tI, tI⟩⟩, (fun _ => tI)⟩, ⟨tI, (by (intro h; rw [h]; rfl))⟩, tI⟩ ?_; refine nK hK ?_; clear hK K
 refine w_cond (t := decide ((↑m : Int) < (↑(List.length p) : Int)) || !decide (blE b = 0)) kR (fun c1 => ?_) (fun c1 => ?_)
 ·
  refine sK fun K hK => ?_
  refine wR 4 ?_; refine aX hTT 2 [] tI ?_; refine nK hK ?_; clear hK K
  refine aw_ret ?_
  refine xt_r ?_
  refine rP (V.tup [V.nil, V.b false])
 ·
  simp at c1
  omega
set_option maxRecDepth 100000 in
theorem cut_some (c : Cut) (b : Bl) (p : List Pt) (m : Nat) (h : p.length ≤ m ∧ blE b = 0) (hl : p.length ≤ 4611686018427387904) (hr : ∀ k, k < p.length → inR2 (gp p k)) : AC Tryz.prog 11 [V.pts p, c.v, b.v, .i m] (.tup [V.pts (cutR c p).1, .b (decide ((cutR c p).2 = 0))]) [] := by
 refine acI hTT hMX Tryz.func11 Tryz.ntmps11 fun C hC hF => ?_
 refine sK fun K hK => wR 2 ?_; refine aX hTT 4 [] tI ?_; refine nK hK ?_; clear hK K; refine sK fun K hK => ?_; refine sK fun K hK => wR 3 ?_; refine aX hTT 6 [(5, .c (gA (decide ((↑m : Int) < (↑(List.length p) : Int)) == false) True))] ⟨⟨⟨tI, tI⟩, (fun _ => tI)⟩, tI⟩ ?_
 refine eG 1 (g := decide ((↑m : Int) < (↑(List.length p) : Int)) == false) (fun h => rCheck5_ac b) ?_
 refine aX hTT 2 [(0, .c (gD (decide ((↑m : Int) < (↑(List.length p) : Int)) == false) True)), (1, .c (True ∧ (decide ((↑m : Int) < (↑(List.length p) : Int)) = false → (decide ((↑m : Int) < (↑(List.length p) : Int)) == false) = true)))] ⟨⟨⟨(by (exact fun h => h)), ⟨tI, tI⟩⟩, (fun _ => tI)⟩, ⟨tI, (by (intro h; rw [h]; rfl))⟩, tI⟩ ?_; refine nK hK ?_; clear hK K
 refine w_cond (t := decide ((↑m : Int) < (↑(List.length p) : Int)) || !decide (blE b = 0)) kR (fun c1 => ?_) (fun c1 => ?_)
 ·
  simp at c1
  omega
 ·
  refine aw_skip ?_
  refine xt_n (hK _ ?_); clear hK K; refine sK fun K hK => wR 4 ?_; refine aX hTT 2 [] tI ?_
  refine eC (refCut_ac c p hl hr) ?_
  refine aX hTT 5 [] tI ?_; refine nK hK ?_; clear hK K; refine sK fun K hK => wR 5 ?_; refine aX hTT 5 [] tI ?_; refine nK hK ?_; clear hK K
  refine aw_ret ?_
  refine rP (V.tup [V.sl 2 (List.length (Prod.fst (cutR c p))) fun (k : Nat) => [V.i (Prod.fst (gp (Prod.fst (cutR c p)) k)), V.i (Prod.snd (gp (Prod.fst (cutR c p)) k))], V.b (decide (Prod.snd (cutR c p) = 0))])
theorem SOk.take {b : Bl} {l : List Pt} (h : SOk b l) (k : Nat) : SOk b (l.take k) := by
 refine ⟨h.b0, gChk_ok.2 ⟨?_, fun j hj => ?_⟩⟩
 ·
  have := h.len
  rw [List.length_take]; omega
 ·
  rw [List.length_take] at hj
  have : gp (l.take k) j = gp l j := by
   simp [gp, List.getD_eq_getElem?_getD, List.getElem?_take, show j < k by omega]
  rw [this]
  exact (gChk_ok.1 h.l0).2 j oM
end Go.Proofs.YtlldpkkcbheenaaGreatDoor

namespace Go.Proofs.YtlldpkkcbheenaaGreatDoor
open Go.Ab Go.RowKit Go.Dw Go.Shelf
def Ed (p : Pt) : Prop := (-4194304 ≤ p.1 ∧ p.1 ≤ 4194304) ∧ -4194304 ≤ p.2 ∧ p.2 ≤ 4194304
def EdO : Option Pt → Prop
 | none => True
 | some p => Ed p
end Go.Proofs.YtlldpkkcbheenaaGreatDoor

namespace Go.Proofs.YtlldpkkcbheenaaGreatDoor
open Go.Ab Go.RowKit Go.Dw Go.Shelf
theorem EdO.some {p : Pt} (h : EdO (some p)) : Ed p := h
end Go.Proofs.YtlldpkkcbheenaaGreatDoor

namespace Go.Proofs.YtlldpkkcbheenaaGreatDoor
open Go.Ab Go.RowKit Go.Dw Go.Shelf
end Go.Proofs.YtlldpkkcbheenaaGreatDoor

namespace Go.Proofs.YtlldpkkcbheenaaGreatDoor
open Go.Ab Go.RowKit Go.Dw Go.Shelf
end Go.Proofs.YtlldpkkcbheenaaGreatDoor
