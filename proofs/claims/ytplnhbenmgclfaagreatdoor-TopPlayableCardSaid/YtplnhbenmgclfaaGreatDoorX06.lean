/-
  Several texts in one: The chapter's examples, and small functions of the laws on grooves. No condition but the sizes of slices. .. A curve applied: steps, and each element in turn. Conditions: told in each theorem.
-/
import Derived.Test.YtplnhbenmgclfaaGreatDoorX05
import Derived.Test.YtplnhbenmgclfaaGreatDoorAbs42
import Derived.Test.YtplnhbenmgclfaaGreatDoorX04
import Derived.Test.YtplnhbenmgclfaaGreatDoorX02
import Derived.Test.YtplnhbenmgclfaaGreatDoorMC
import Derived.Test.YtplnhbenmgclfaaGreatDoorX00
namespace Go.Proofs.YtplnhbenmgclfaaGreatDoor
open Go.Ab Go.RowKit Go.Dw Go.Shelf
def exC : Cut := ⟨400, 2000, 200, 2000, 1000, 1000, 100⟩
theorem fit_at {c : Cut} {l : List Pt} {per F : Int} (hc : cutE c = 0) (hp : 1 ≤ per) (h0 : 0 < F) (hF : F ≤ 4194304) (h1 : fitB c l per (F - 1) = false) (h2 : fitB c l per F = true) : IsFst (fitB c l per) 4194305 F := by
 obtain ⟨G, hG⟩ := fit_fst l hc hp
 have a := (hG.iff (n := F) oM oM).1 h2
 have b : ¬ G ≤ F - 1 := fun h => by
  have := (hG.iff (n := F - 1) oM oM).2 h
  rw [h1] at this; cases this
 obtain rfl : F = G := by omega
 exact hG
def ex3 : List Pt := [(-400, 400), (-200, 600), (-400, 400)]
theorem exC_ok : cutE exC = 0 := by decide
theorem ex3_fst : IsFst (fitB exC ex3 1000) 4194305 31831 := fit_at exC_ok (by decide) (by decide) (by decide) (by decide +kernel) (by decide +kernel)
theorem ex3_least : leastR exC ex3 1000 31831 = (31831, 0) := by decide +kernel
theorem ex3_cut : cutR exC [(0, 0), (100, 100), (0, 0)] = (ex3, 0) := by decide +kernel
theorem gLit3 {row : Nat → List V} {x y z : Pt} (h0 : row 0 = [.i x.1, .i x.2]) (h1 : row 1 = [.i y.1, .i y.2]) (h2 : row 2 = [.i z.1, .i z.2]) : RImp (.sl 2 3 row) (V.pts [x, y, z]) := by
 refine RImp.rows rfl fun i hi => ?_
 rcases (by omega : i = 0 ∨ i = 1 ∨ i = 2) with rfl | rfl | rfl
 ·
  exact h0
 ·
  exact h1
 ·
  exact h2
theorem exL_ac : AC Tryz.prog 21 [exC.v, V.pts ex3, .i 1000] (.tup [.i 31831, .i 0]) [] := by
 have A := Least_ac exC ex3 1000 31831 (by decide) (fun _ _ => ex3_fst)
 rw [ex3_least] at A
 exact A
theorem exCut_ac : AC Tryz.prog 12 [exC.v, V.pts [(0, 0), (100, 100), (0, 0)]] (.tup [V.pts ex3, .i 0]) [] := by
 have A := Cut_ac exC [(0, 0), (100, 100), (0, 0)] (by decide)
 rw [ex3_cut] at A
 exact A
end Go.Proofs.YtplnhbenmgclfaaGreatDoor

namespace Go.Proofs.YtplnhbenmgclfaaGreatDoor
open Go.Ab Go.RowKit Go.Dw Go.Shelf
end Go.Proofs.YtplnhbenmgclfaaGreatDoor

namespace Go.Proofs.YtplnhbenmgclfaaGreatDoor
open Go.Ab Go.RowKit Go.Dw Go.Shelf
end Go.Proofs.YtplnhbenmgclfaaGreatDoor

namespace Go.Proofs.YtplnhbenmgclfaaGreatDoor
open Go.Ab Go.RowKit Go.Dw Go.Shelf
theorem gp_take {l : List Pt} {k v : Nat} (h : v < k) : gp (l.take k) v = gp l v := by simp [gp, List.getD_eq_getElem?_getD, List.getElem?_take, h]
theorem LCut.take {b : Bl} {l : List Pt} {g : Nat → Int} {k k' : Nat} (hk : k ≤ k') (h : LCut b (l.take k') g) : LCut b (l.take k) g := by
 refine ⟨fun v hv => ?_, fun v hv => ?_⟩
 ·
  rw [List.length_take] at hv
  have := h.1 v (by rw [List.length_take]; omega)
  rw [gp_take (show v < k' by omega)] at this
  rw [gp_take (show v < k by omega)]
  refine ⟨this.1, this.2.1, fun hp => ?_⟩
  have := this.2.2 hp
  rw [gp_take (show v - b.per.toNat < k' by omega)] at this
  rw [gp_take (show v - b.per.toNat < k by omega)]
  exact this
 ·
  rw [List.length_take] at hv
  have := h.2 v (by rw [List.length_take]; omega)
  rw [gp_take (show v < k' by omega)] at this
  rw [gp_take (show v < k by omega)]
  exact this
def Narrower (l m : List Pt) : Prop := m.length = l.length ∧ ∀ v, v < l.length → (gp l v).1 ≤ (gp m v).1 ∧ (gp m v).2 ≤ (gp l v).2
theorem Narrower.cut {b : Bl} {l m : List Pt} {g : Nat → Int} (hn : Narrower l m) (h : LCut b l g) : LCut b m g :=
 ⟨h.1.anti hn.1 (fun v hv => (hn.2 v hv).1) fun v hv => (hn.2 v hv).2, fun v hv => by
  have := h.2 v (by rw [← hn.1]; exact hv)
  have := (hn.2 v (by rw [← hn.1]; exact hv)).1
  omega⟩
theorem Narrower.take {l m : List Pt} (hn : Narrower l m) (k : Nat) : Narrower (l.take k) (m.take k) := by
 refine ⟨by rw [List.length_take, List.length_take, hn.1], fun v hv => ?_⟩
 rw [List.length_take] at hv
 rw [gp_take oM, gp_take oM]
 exact hn.2 v oM
theorem wall_gChk {c : Cut} {q : List Pt} (hc : cutE c = 0) (hs : sChk q = 0) : gChk (q.map (wallP c)) = 0 := by
 obtain ⟨h1, h2⟩ := sChk_ok.1 hs
 refine gChk_ok.2 ⟨by simpa using h1, fun k hk => ?_⟩
 rw [List.length_map] at hk
 rw [gp_map hk]
 exact wallP_gE hc (h2 k hk)
end Go.Proofs.YtplnhbenmgclfaaGreatDoor

namespace Go.Proofs.YtplnhbenmgclfaaGreatDoor
open Go.Ab Go.RowKit Go.Dw Go.Shelf
def bigL : Nat := 4611686018427387904
theorem tdiv_ediv (n d : Int) (hd : 1 ≤ d) : n / d = if n.tmod d < 0 then n.tdiv d - 1 else n.tdiv d := by
 have h1 := Int.mul_tdiv_add_tmod n d
 by_cases h0 : 0 ≤ n
 ·
  have h2 : 0 ≤ n.tmod d := Int.tmod_nonneg d h0
  rw [if_neg oM, Int.tdiv_eq_ediv_of_nonneg h0]
 ·
  have h2 : n.tmod d ≤ 0 := by
   have h4 := Int.tmod_nonneg (a := -n) d oM
   rw [Int.neg_tmod] at h4
   omega
  have h3 : -d < n.tmod d := by
   have h4 := Int.tmod_lt_of_pos (-n) (b := d) oM
   rw [Int.neg_tmod] at h4
   omega
  split
  ·
   rename_i h
   refine Int.ediv_eq_iff_of_pos oM |>.2 ?_
   rw [Int.sub_mul, Int.mul_comm (n.tdiv d) d]
   omega
  ·
   rename_i h
   refine Int.ediv_eq_iff_of_pos oM |>.2 ?_
   rw [Int.mul_comm (n.tdiv d) d]
   omega
theorem down_ac (n d : Int) (hn : -4611686018427387904 ≤ n ∧ n ≤ 4611686018427387904) (hd : 1 ≤ d) : AC Tryz.prog 185 [.i n, .i d] (.i (n / d)) [] := by
 refine acI hTT hMX Tryz.func185 Tryz.ntmps185 fun C hC hF => ?_
 have hb : -4611686018427387904 ≤ n.tdiv d ∧ n.tdiv d ≤ 4611686018427387904 := by
  by_cases h0 : 0 ≤ n
  ·
   rw [Int.tdiv_eq_ediv_of_nonneg h0]
   have h1 := Int.ediv_nonneg h0 (show 0 ≤ d by omega)
   have h2 := Int.ediv_le_self d h0
   omega
  ·
   have e : n.tdiv d = -((-n) / d) := by
    rw [← Int.tdiv_eq_ediv_of_nonneg oM, Int.neg_tdiv]; omega
   have h1 := Int.ediv_nonneg (a := -n) oM (show 0 ≤ d by omega)
   have h2 := Int.ediv_le_self (a := -n) d oM
   omega
 refine aw_seq_k fun K hK => wR 2 ?_; refine aX hTT 1 [] tI ?_; refine aops_nil (xt_n (hK _ ?_)); clear hK K; refine aw_seq_k fun K hK => wR 3 ?_; refine aX hTT 4 [(2, .c ((0 : Int) < d ∧ (-9223372036854775808 : Int) ≤ n ∧ n ≤ (9223372036854775807 : Int)))] ⟨⟨oM, oM⟩, tI⟩ ?_; refine aops_nil (xt_n (hK _ ?_)); clear hK K; refine aw_seq_k fun K hK => ?_; refine aw_seq_k fun K hK => wR 4 ?_; refine aX hTT 4 [(2, .c (d ≠ (0 : Int)))] ⟨oM, tI⟩ ?_; refine aops_nil (xt_n (hK _ ?_)); clear hK K
 refine w_cond (t := decide (Int.tmod n d < (0 : Int))) kR (fun c1 => ?_) (fun c1 => ?_)
 ·
  simp at c1
  refine wR 5 ?_; refine aX hTT 3 [(1, .i (Int.tdiv n d - (1 : Int)))] ⟨oM, tI⟩ ?_; refine aops_nil (xt_n (hK _ ?_)); clear hK K; refine aw_seq_k fun K hK => wR 6 ?_; refine aX hTT 2 [] tI ?_; refine aops_nil (xt_n (hK _ ?_)); clear hK K
  refine aw_ret ?_
  rw [tdiv_ediv n d hd, if_pos c1]
  refine rP (V.i (Int.tdiv n d - (1 : Int)))
 ·
  simp at c1
  refine aw_skip ?_
  refine xt_n (hK _ ?_); clear hK K; refine aw_seq_k fun K hK => wR 5 ?_; refine aX hTT 2 [] tI ?_; refine aops_nil (xt_n (hK _ ?_)); clear hK K
  refine aw_ret ?_
  rw [tdiv_ediv n d hd, if_neg oM]
  refine rP (V.i (Int.tdiv n d))
theorem beyond_ac (n m : Int) (hm : 0 ≤ m ∧ m ≤ 4611686018427387904) : AC Tryz.prog 178 [.i n, .i m] (.b (bey n m)) [] := by
 refine acI hTT hMX Tryz.func178 Tryz.ntmps178 fun C hC hF => ?_
 refine aw_seq_k fun K hK => wR 2 ?_; refine aX hTT 1 [] tI ?_; refine aops_nil (xt_n (hK _ ?_)); clear hK K; refine aw_seq_k fun K hK => wR 3 ?_; refine aX hTT 10 [(2, .i (-m)), (5, .c (gA (decide (n < -m) == false) True)), (6, .c (gA (decide (n < -m) == false) True)), (7, .c (gC (decide (n < -m) == false) True)), (8, .c (True ∧ (decide (n < -m) = false → (decide (n < -m) == false) = true)))] ⟨oM, ⟨⟨tI, tI⟩, (fun _ => tI)⟩, ⟨⟨tI, tI⟩, (fun _ => tI)⟩, ⟨⟨(by (exact fun h => h)), ⟨(by (exact fun h => h)), tI⟩⟩, (fun _ => tI)⟩, ⟨tI, (by (intro h; rw [h]; rfl))⟩, tI⟩ ?_; refine aops_nil (xt_n (hK _ ?_)); clear hK K
 refine aw_ret ?_
 unfold bey
 refine rP (V.b (decide (n < -m) || decide (m < n)))
set_option maxRecDepth 100000 in
theorem anyBeyond1_ac (n m : Int) (hm : 0 ≤ m ∧ m ≤ 4611686018427387904) : AC Tryz.prog 184 [.i n, .ptr [.i m]] (.b (bey n m)) [] := by
 refine acI hTT hMX Tryz.func184 Tryz.ntmps184 fun C hC hF => ?_
 refine aw_seq_k fun K hK => wR 2 ?_; refine aX hTT 1 [] tI ?_; refine aops_nil (xt_n (hK _ ?_)); clear hK K; refine aw_seq_k fun K hK => wR 3 ?_; refine aX hTT 2 [] tI ?_
 refine eC (beyond_ac n m hm) ?_
 refine aX hTT 1 [] tI ?_; refine aops_nil (xt_n (hK _ ?_)); clear hK K
 refine aw_ret ?_
 refine rP (V.b (bey n m))
theorem idx_any (l : List Int) (m : Int) : (∃ k, k < l.length ∧ bey (gi l k) m = true ∧ ∀ j, j < k → bey (gi l j) m = false) ∨ ∀ k, k < l.length → bey (gi l k) m = false := by
 by_cases h : ∃ k, k < l.length ∧ bey (gi l k) m = true
 ·
  obtain ⟨k, ⟨h1, h2⟩, h3⟩ := least _ h
  refine .inl ⟨k, h1, h2, fun j hj => ?_⟩
  cases hb : bey (gi l j) m with
  | false => rfl
  | true => have := h3 j ⟨by omega, hb⟩; omega
 ·
  refine .inr fun k hk => ?_
  cases hb : bey (gi l k) m with
  | false => rfl
  | true => exact absurd ⟨k, hk, hb⟩ h
def firstB (l : List Int) (m : Int) : Int := match (List.range l.length).find? fun k => bey (gi l k) m with
 | some k => (k : Int)
 | none => -1
theorem firstB_some {l : List Int} {m : Int} {k : Nat} (hk : k < l.length) (h : bey (gi l k) m = true) (hj : ∀ j, j < k → bey (gi l j) m = false) : firstB l m = k := by
 have : (List.range l.length).find? (fun k => bey (gi l k) m) = some k := by
  rw [List.find?_range_eq_some]
  exact ⟨h, by simpa using hk, fun j hjk => by simp [hj j hjk]⟩
 rw [firstB, this]
theorem firstB_none {l : List Int} {m : Int} (h : ∀ k, k < l.length → bey (gi l k) m = false) : firstB l m = -1 := by
 have : (List.range l.length).find? (fun k => bey (gi l k) m) = none := by
  rw [List.find?_eq_none]
  intro x hx
  simp [h x (by simpa using hx)]
 rw [firstB, this]
theorem any_gi {l : List Int} {m : Int} : (l.any fun n => bey n m) = true ↔ ∃ k, k < l.length ∧ bey (gi l k) m = true := by
 rw [List.any_eq_true]
 constructor
 ·
  rintro ⟨x, hx, h⟩
  obtain ⟨k, hk, rfl⟩ := List.getElem_of_mem hx
  exact ⟨k, hk, by rw [gi_eq hk]; exact h⟩
 ·
  rintro ⟨k, hk, h⟩
  exact ⟨l[k], List.getElem_mem _, by rw [← gi_eq hk]; exact h⟩
theorem firstB_any (l : List Int) (m : Int) : decide (0 ≤ firstB l m) = l.any fun n => bey n m := by
 rcases idx_any l m with ⟨k, hk, h, hj⟩ | h
 ·
  rw [firstB_some hk h hj, any_gi.2 ⟨k, hk, h⟩]; simp
 ·
  rw [firstB_none h]
  cases ha : l.any fun n => bey n m with
  | false => rfl
  | true =>
   obtain ⟨k, hk, hb⟩ := any_gi.1 ha
   rw [h k hk] at hb; cases hb
set_option maxRecDepth 100000 in
theorem indexBeyond_ac (l : List Int) (m : Int) (hl : l.length ≤ bigL) (hm : 0 ≤ m ∧ m ≤ 4611686018427387904) : AC Tryz.prog 139 [V.ints l, .fn (.func 184) [] [.ptr [.i m]]] (.i (firstB l m)) [] := by
 unfold bigL at hl
 refine acI hTT hMX Tryz.func139 Tryz.ntmps139 fun C hC hF => ?_
 refine aw_seq_k fun K hK => wR 2 ?_; refine aX hTT 1 [] tI ?_; refine aops_nil (xt_n (hK _ ?_)); clear hK K; refine aw_seq_k fun K hK => ?_; refine aw_seq_k fun K hK => wR 3 ?_; refine aX hTT 3 [] tI ?_; refine aops_nil (xt_n (hK _ ?_)); clear hK K
 refine aw_block ?_
 refine w_loop (ι := Nat) (fun k => [(0, V.ints l), (1, .fn (.func 184) [] [.ptr [.i m]]), (7, .i l.length), (8, .i k)]) (fun _ => []) (fun k => k ≤ l.length ∧ ∀ j, j < k → bey (gi l j) m = false) (fun k => l.length - k) 0 ⟨Nat.zero_le _, fun j hj => by omega⟩ ?_ ?_
 ·
  refine le_ren [] (.cons kR (.cons kR (.cons kR (.cons kR .nil)))) .nil kR kR
 rintro k ⟨hk, hb⟩
 refine aw_seq_k fun K hK => wR 2 ?_; refine aX hTT 1 [] tI ?_; refine aops_nil (xt_n (hK _ ?_)); clear hK K; refine aw_seq_k fun K hK => ?_
 refine w_cond (t := decide ((↑k : Int) < (↑(List.length l) : Int))) kR (fun c1 => ?_) (fun c1 => ?_)
 ·
  simp at c1
  refine aw_skip ?_
  refine xt_n (hK _ ?_); clear hK K; refine aw_seq_k fun K hK => ?_
  refine aw_block ?_
  refine aw_seq_k fun K hK => wR 3 ?_; refine aX hTT 2 [] tI ?_; refine aops_nil (xt_n (hK _ ?_)); clear hK K; refine aw_seq_k fun K hK => wR 4 ?_; refine aX hTT 5 [(3, .c ((0 : Int) ≤ (↑k : Int) ∧ (↑k : Int) < (↑(List.length l) : Int)))] ⟨oM, tI⟩ ?_
  refine e_call (first := []) (caps := [V.ptr [V.i m]]) (anyBeyond1_ac (gi l k) m hm) kR kR kR kR kR ?_
  refine aops_nil (xt_n (hK _ ?_)); clear hK K
  refine w_cond (t := bey (gi l k) m) kR (fun c2 => ?_) (fun c2 => ?_)
  ·
   refine aw_seq_k fun K hK => ?_
   refine wR 5 ?_; refine aX hTT 2 [] tI ?_; refine aops_nil (xt_n (hK _ ?_)); clear hK K
   refine aw_ret ?_
   refine xb_r ?_
   refine xt_r ?_; refine xt_r ?_
   refine xb_r ?_
   refine xt_r ?_
   rw [firstB_some c1 c2 hb]
   refine rP (V.i (↑k : Int))
  ·
   refine aw_skip ?_
   refine xb_n ?_; refine xt_n (hK _ ?_); clear hK K; refine wR 5 ?_; refine aX hTT 2 [(0, .i ((↑k : Int) + (1 : Int)))] ⟨oM, tI⟩ ?_; refine aops_nil ?_; refine xt_n ?_
   refine ⟨k + 1, ⟨by omega, fun j hj => ?_⟩, by refine le_ren [] (.cons kR (.cons kR (.cons kR (.cons kR .nil)))) .nil kR kR, by omega⟩
   by_cases h : j < k
   ·
    exact hb j h
   ·
    obtain rfl : j = k := by omega
    exact c2
 ·
  simp at c1
  refine aw_exit ?_
  refine xt_x ?_; refine xt_x ?_
  refine xb_same ?_
  refine xt_n ?_; clear hK K; refine hK _ ?_; clear hK K; refine aw_seq_k fun K hK => wR 3 ?_; refine aX hTT 1 [] tI ?_; refine aops_nil (xt_n (hK _ ?_)); clear hK K
  refine aw_ret ?_
  rw [firstB_none fun j hj => hb j oM]
  refine rP (V.i (-1))
set_option maxRecDepth 100000 in
theorem containsBeyond_ac (l : List Int) (m : Int) (hl : l.length ≤ bigL) (hm : 0 ≤ m ∧ m ≤ 4611686018427387904) : AC Tryz.prog 105 [V.ints l, .fn (.func 184) [] [.ptr [.i m]]] (.b (l.any fun n => bey n m)) [] := by
 refine acI hTT hMX Tryz.func105 Tryz.ntmps105 fun C hC hF => ?_
 refine aw_seq_k fun K hK => wR 2 ?_; refine aX hTT 1 [] tI ?_; refine aops_nil (xt_n (hK _ ?_)); clear hK K; refine aw_seq_k fun K hK => wR 3 ?_; refine aX hTT 2 [] tI ?_
 refine eC (indexBeyond_ac l m hl hm) ?_
 refine aX hTT 2 [] tI ?_; refine aops_nil (xt_n (hK _ ?_)); clear hK K
 refine aw_ret ?_
 rw [← firstB_any]
 refine rP (V.b (decide ((0 : Int) ≤ firstB l m)))
set_option maxRecDepth 100000 in
theorem anyBeyond_ac (l : List Int) (m : Int) (hl : l.length ≤ bigL) (hm : 0 ≤ m ∧ m ≤ 4611686018427387904) : AC Tryz.prog 173 [V.ints l, .i m] (.b (l.any fun n => bey n m)) [] := by
 refine acI hTT hMX Tryz.func173 Tryz.ntmps173 fun C hC hF => ?_
 refine aw_seq_k fun K hK => wR 2 ?_; refine aX hTT 2 [] tI ?_; refine aops_nil (xt_n (hK _ ?_)); clear hK K; refine aw_seq_k fun K hK => wR 3 ?_; refine aX hTT 2 [] tI ?_
 refine eC (containsBeyond_ac l m hl hm) ?_
 refine aX hTT 1 [] tI ?_; refine aops_nil (xt_n (hK _ ?_)); clear hK K
 refine aw_ret ?_
 refine rP (V.b (List.any l fun (n : Int) => bey n m))
def sigE (l : List Int) : Int := if 4096 < l.length then 6 else if l.any fun n => bey n 32767 then 3 else 0
theorem sigE_ok {l : List Int} : sigE l = 0 ↔ l.length ≤ 4096 ∧ AllLe 32767 l := by
 unfold sigE
 rw [← any_bey]
 by_cases h : 4096 < l.length
 ·
  rw [if_pos h]; simp; omega
 ·
  rw [if_neg h]
  cases h1 : (l.any fun n => bey n 32767) <;> simp
  omega
set_option maxRecDepth 100000 in
theorem checkSignal_ac (l : List Int) (hl : l.length ≤ bigL) : AC Tryz.prog 159 [V.ints l] (.i (sigE l)) [] := by
 have hl' := hl
 unfold bigL at hl'
 refine acI hTT hMX Tryz.func159 Tryz.ntmps159 fun C hC hF => ?_
 refine aw_seq_k fun K hK => wR 2 ?_; refine aX hTT 1 [] tI ?_; refine aops_nil (xt_n (hK _ ?_)); clear hK K; refine aw_seq_k fun K hK => ?_; refine aw_seq_k fun K hK => wR 3 ?_; refine aX hTT 3 [] tI ?_; refine aops_nil (xt_n (hK _ ?_)); clear hK K
 refine w_cond (t := decide ((4096 : Int) < (↑(List.length l) : Int))) kR (fun c1 => ?_) (fun c1 => ?_)
 ·
  simp at c1
  refine aw_seq_k fun K hK => wR 4 ?_; refine aX hTT 1 [] tI ?_; refine aops_nil (xt_n (hK _ ?_)); clear hK K
  refine aw_ret ?_
  refine xt_r ?_
  rw [show sigE l = 6 by unfold sigE; rw [if_pos oM]]
  refine rP (V.i 6)
 ·
  simp at c1
  refine aw_skip ?_
  refine xt_n (hK _ ?_); clear hK K; refine aw_seq_k fun K hK => ?_; refine aw_seq_k fun K hK => wR 4 ?_; refine aX hTT 1 [] tI ?_
  refine eC (anyBeyond_ac l 32767 hl (by decide)) ?_
  refine aops_nil (xt_n (hK _ ?_)); clear hK K
  refine w_cond (t := List.any l fun (n : Int) => bey n (32767 : Int)) kR (fun c2 => ?_) (fun c2 => ?_)
  ·
   refine aw_seq_k fun K hK => ?_
   refine wR 5 ?_; refine aX hTT 1 [] tI ?_; refine aops_nil (xt_n (hK _ ?_)); clear hK K
   refine aw_ret ?_
   refine xt_r ?_
   rw [show sigE l = 3 by unfold sigE; rw [if_neg oM, if_pos c2]]
   refine rP (V.i 3)
  ·
   refine aw_skip ?_
   refine xt_n (hK _ ?_); clear hK K; refine aw_seq_k fun K hK => wR 5 ?_; refine aX hTT 1 [] tI ?_; refine aops_nil (xt_n (hK _ ?_)); clear hK K
   refine aw_ret ?_
   rw [show sigE l = 0 by unfold sigE; rw [if_neg oM, if_neg (by rw [c2]; decide)]]
   refine rP (V.i 0)
end Go.Proofs.YtplnhbenmgclfaaGreatDoor

namespace Go.Proofs.YtplnhbenmgclfaaGreatDoor
open Go.Ab Go.RowKit Go.Dw Go.Shelf
abbrev V.cv (c : Cv) : V := .agg [V.ints c.feed, V.ints c.back, V.i c.share]
def cv0 : Cv := ⟨[], [], 0⟩
def gc (l : List Cv) (k : Nat) : Cv := l.getD k cv0
theorem gc_eq {l : List Cv} {k : Nat} (h : k < l.length) : gc l k = l[k] := by simp [gc, h]
def V.cvs (l : List Cv) : V := .sl 3 l.length fun k => [V.ints (gc l k).feed, V.ints (gc l k).back, V.i (gc l k).share]
def cvL (c : Cv) : Prop := c.feed.length ≤ bigL ∧ c.back.length ≤ bigL
theorem cvE_many {c : Cv} (h : 8 < c.feed.length ∨ 8 < c.back.length) : cvE c = 6 := by unfold cvE; rw [if_pos oM]
theorem cvE_few {c : Cv} (h1 : c.feed.length ≤ 8) (h2 : c.back.length ≤ 8) : cvE c = if (c.feed.any fun n => bey n 4096) || (c.back.any fun n => bey n 4096) || decide (c.share < 1) || decide (4096 < c.share) then 2 else 0 := by
 unfold cvE; rw [if_neg oM]
set_option maxRecDepth 100000 in
theorem CheckCurve_ac (c : Cv) (hl : cvL c) : AC Tryz.prog 172 [V.cv c] (.i (cvE c)) [] := by
 obtain ⟨hl1, hl2⟩ := hl
 refine acI hTT hMX Tryz.func172 Tryz.ntmps172 fun C hC hF => ?_
 refine aw_seq_k fun K hK => wR 2 ?_; refine aX hTT 2 [] tI ?_; refine aops_nil (xt_n (hK _ ?_)); clear hK K; refine aw_seq_k fun K hK => ?_
 refine aw_block ?_
 refine aw_seq_k fun K hK => wR 3 ?_; refine aX hTT 9 [] tI ?_; refine aops_nil (xt_n (hK _ ?_)); clear hK K
 refine w_cond (t := decide ((8 : Int) < max (↑(List.length (Cv.feed c)) : Int) (↑(List.length (Cv.back c)) : Int))) kR (fun c1 => ?_) (fun c1 => ?_)
 ·
  simp at c1
  refine aw_seq_k fun K hK => wR 4 ?_
  refine aops_n hTT (M := []) (n := 1) [pv (2 : Nat) (V.i (6 : Int))] kR kR tI ?_
  refine aops_nil (xt_n (hK _ ?_)); clear hK K
  refine aw_ret ?_
  refine xb_r ?_
  refine xt_r ?_
  rw [cvE_many oM]
  refine rP (V.i (6 : Int))
 ·
  simp at c1
  refine aw_seq_k fun K hK => wR 4 ?_
  refine aops_n hTT (M := []) (n := 2) [pv (13 : Nat) (V.ptr [V.sl (1 : Nat) (List.length (Cv.feed c)) fun (k : Nat) => [V.i (gi (Cv.feed c) k)], V.sl (1 : Nat) (List.length (Cv.back c)) fun (k : Nat) => [V.i (gi (Cv.back c) k)], V.i (Cv.share c)]), pv (14 : Nat) (V.sl (1 : Nat) (List.length (Cv.feed c)) fun (k : Nat) => [V.i (gi (Cv.feed c) k)])] kR kR tI ?_
  refine eC (anyBeyond_ac c.feed 4096 hl1 (by decide)) ?_
  refine aops_n hTT (M := []) (n := 3) [pv (16 : Nat) (V.b (List.any (Cv.feed c) fun (n : Int) => bey n (4096 : Int))), pc (17 : Nat) ((True ∧ True) ∧ (((List.any (Cv.feed c) fun (n : Int) => bey n (4096 : Int)) == false) = true → True)) (V.gd ((List.any (Cv.feed c) fun (n : Int) => bey n (4096 : Int)) == false) (V.ptr [V.sl (1 : Nat) (List.length (Cv.back c)) fun (k : Nat) => [V.i (gi (Cv.back c) k)], V.i (Cv.share c)])), pc (18 : Nat) (((((List.any (Cv.feed c) fun (n : Int) => bey n (4096 : Int)) == false) = true → ((List.any (Cv.feed c) fun (n : Int) => bey n (4096 : Int)) == false) = true) ∧ True) ∧ (((List.any (Cv.feed c) fun (n : Int) => bey n (4096 : Int)) == false) = true → True)) (V.gd ((List.any (Cv.feed c) fun (n : Int) => bey n (4096 : Int)) == false) (V.sl (1 : Nat) (List.length (Cv.back c)) fun (k : Nat) => [V.i (gi (Cv.back c) k)]))] kR kR ⟨⟨⟨tI, tI⟩, (fun _ => tI)⟩, ⟨⟨(by (exact fun h => h)), tI⟩, (fun _ => tI)⟩, tI⟩ ?_
  refine eG 1 (g := (List.any (Cv.feed c) fun (n : Int) => bey n (4096 : Int)) == false) (fun h => anyBeyond_ac c.back 4096 hl2 (by decide)) ?_
  refine aops_n hTT (M := []) (n := 12) [pc (20 : Nat) (True ∧ ((List.any (Cv.feed c) fun (n : Int) => bey n (4096 : Int)) = false → ((List.any (Cv.feed c) fun (n : Int) => bey n (4096 : Int)) == false) = true)) (V.b ((List.any (Cv.feed c) fun (n : Int) => bey n (4096 : Int)) || List.any (Cv.back c) fun (n : Int) => bey n (4096 : Int))), pv (21 : Nat) (V.b ((List.any (Cv.feed c) fun (n : Int) => bey n (4096 : Int)) || List.any (Cv.back c) fun (n : Int) => bey n (4096 : Int))), pc (22 : Nat) ((True ∧ True) ∧ ((((List.any (Cv.feed c) fun (n : Int) => bey n (4096 : Int)) || List.any (Cv.back c) fun (n : Int) => bey n (4096 : Int)) == false) = true → True)) (V.gd (((List.any (Cv.feed c) fun (n : Int) => bey n (4096 : Int)) || List.any (Cv.back c) fun (n : Int) => bey n (4096 : Int)) == false) (V.ptr [V.i (Cv.share c)])), pc (23 : Nat) ((((((List.any (Cv.feed c) fun (n : Int) => bey n (4096 : Int)) || List.any (Cv.back c) fun (n : Int) => bey n (4096 : Int)) == false) = true → (((List.any (Cv.feed c) fun (n : Int) => bey n (4096 : Int)) || List.any (Cv.back c) fun (n : Int) => bey n (4096 : Int)) == false) = true) ∧ True) ∧ ((((List.any (Cv.feed c) fun (n : Int) => bey n (4096 : Int)) || List.any (Cv.back c) fun (n : Int) => bey n (4096 : Int)) == false) = true → True)) (V.gd (((List.any (Cv.feed c) fun (n : Int) => bey n (4096 : Int)) || List.any (Cv.back c) fun (n : Int) => bey n (4096 : Int)) == false) (V.i (Cv.share c))), pc (24 : Nat) ((((((List.any (Cv.feed c) fun (n : Int) => bey n (4096 : Int)) || List.any (Cv.back c) fun (n : Int) => bey n (4096 : Int)) == false) = true → (((List.any (Cv.feed c) fun (n : Int) => bey n (4096 : Int)) || List.any (Cv.back c) fun (n : Int) => bey n (4096 : Int)) == false) = true) ∧ True ∧ True) ∧ ((((List.any (Cv.feed c) fun (n : Int) => bey n (4096 : Int)) || List.any (Cv.back c) fun (n : Int) => bey n (4096 : Int)) == false) = true → True)) (V.gd (((List.any (Cv.feed c) fun (n : Int) => bey n (4096 : Int)) || List.any (Cv.back c) fun (n : Int) => bey n (4096 : Int)) == false) (V.b (decide (Cv.share c < (1 : Int))))), pc (25 : Nat) (True ∧ (((List.any (Cv.feed c) fun (n : Int) => bey n (4096 : Int)) || List.any (Cv.back c) fun (n : Int) => bey n (4096 : Int)) = false → (((List.any (Cv.feed c) fun (n : Int) => bey n (4096 : Int)) || List.any (Cv.back c) fun (n : Int) => bey n (4096 : Int)) == false) = true)) (V.b (((List.any (Cv.feed c) fun (n : Int) => bey n (4096 : Int)) || List.any (Cv.back c) fun (n : Int) => bey n (4096 : Int)) || decide (Cv.share c < (1 : Int)))), pv (26 : Nat) (V.b (((List.any (Cv.feed c) fun (n : Int) => bey n (4096 : Int)) || List.any (Cv.back c) fun (n : Int) => bey n (4096 : Int)) || decide (Cv.share c < (1 : Int)))), pc (27 : Nat) ((True ∧ True) ∧ (((((List.any (Cv.feed c) fun (n : Int) => bey n (4096 : Int)) || List.any (Cv.back c) fun (n : Int) => bey n (4096 : Int)) || decide (Cv.share c < (1 : Int))) == false) = true → True)) (V.gd ((((List.any (Cv.feed c) fun (n : Int) => bey n (4096 : Int)) || List.any (Cv.back c) fun (n : Int) => bey n (4096 : Int)) || decide (Cv.share c < (1 : Int))) == false) (V.ptr [V.i (Cv.share c)])), pc (28 : Nat) (((((((List.any (Cv.feed c) fun (n : Int) => bey n (4096 : Int)) || List.any (Cv.back c) fun (n : Int) => bey n (4096 : Int)) || decide (Cv.share c < (1 : Int))) == false) = true → ((((List.any (Cv.feed c) fun (n : Int) => bey n (4096 : Int)) || List.any (Cv.back c) fun (n : Int) => bey n (4096 : Int)) || decide (Cv.share c < (1 : Int))) == false) = true) ∧ True) ∧ (((((List.any (Cv.feed c) fun (n : Int) => bey n (4096 : Int)) || List.any (Cv.back c) fun (n : Int) => bey n (4096 : Int)) || decide (Cv.share c < (1 : Int))) == false) = true → True)) (V.gd ((((List.any (Cv.feed c) fun (n : Int) => bey n (4096 : Int)) || List.any (Cv.back c) fun (n : Int) => bey n (4096 : Int)) || decide (Cv.share c < (1 : Int))) == false) (V.i (Cv.share c))), pc (29 : Nat) (((((((List.any (Cv.feed c) fun (n : Int) => bey n (4096 : Int)) || List.any (Cv.back c) fun (n : Int) => bey n (4096 : Int)) || decide (Cv.share c < (1 : Int))) == false) = true → ((((List.any (Cv.feed c) fun (n : Int) => bey n (4096 : Int)) || List.any (Cv.back c) fun (n : Int) => bey n (4096 : Int)) || decide (Cv.share c < (1 : Int))) == false) = true) ∧ True ∧ True) ∧ (((((List.any (Cv.feed c) fun (n : Int) => bey n (4096 : Int)) || List.any (Cv.back c) fun (n : Int) => bey n (4096 : Int)) || decide (Cv.share c < (1 : Int))) == false) = true → True)) (V.gd ((((List.any (Cv.feed c) fun (n : Int) => bey n (4096 : Int)) || List.any (Cv.back c) fun (n : Int) => bey n (4096 : Int)) || decide (Cv.share c < (1 : Int))) == false) (V.b (decide ((4096 : Int) < Cv.share c)))), pc (30 : Nat) (True ∧ ((((List.any (Cv.feed c) fun (n : Int) => bey n (4096 : Int)) || List.any (Cv.back c) fun (n : Int) => bey n (4096 : Int)) || decide (Cv.share c < (1 : Int))) = false → ((((List.any (Cv.feed c) fun (n : Int) => bey n (4096 : Int)) || List.any (Cv.back c) fun (n : Int) => bey n (4096 : Int)) || decide (Cv.share c < (1 : Int))) == false) = true)) (V.b (((List.any (Cv.feed c) fun (n : Int) => bey n (4096 : Int)) || List.any (Cv.back c) fun (n : Int) => bey n (4096 : Int)) || decide (Cv.share c < (1 : Int)) || decide ((4096 : Int) < Cv.share c))), pv (12 : Nat) (V.b (((List.any (Cv.feed c) fun (n : Int) => bey n (4096 : Int)) || List.any (Cv.back c) fun (n : Int) => bey n (4096 : Int)) || decide (Cv.share c < (1 : Int)) || decide ((4096 : Int) < Cv.share c)))] kR kR ⟨⟨tI, (by (intro h; rw [h]; rfl))⟩, ⟨⟨tI, tI⟩, (fun _ => tI)⟩, ⟨⟨(by (exact fun h => h)), tI⟩, (fun _ => tI)⟩, ⟨⟨(by (exact fun h => h)), ⟨tI, tI⟩⟩, (fun _ => tI)⟩, ⟨tI, (by (intro h; rw [h]; rfl))⟩, ⟨⟨tI, tI⟩, (fun _ => tI)⟩, ⟨⟨(by (exact fun h => h)), tI⟩, (fun _ => tI)⟩, ⟨⟨(by (exact fun h => h)), ⟨tI, tI⟩⟩, (fun _ => tI)⟩, ⟨tI, (by (intro h; rw [h]; rfl))⟩, tI⟩ ?_
  refine aops_nil (xt_n (hK _ ?_)); clear hK K
  refine w_cond (t := ((List.any (Cv.feed c) fun (n : Int) => bey n (4096 : Int)) || List.any (Cv.back c) fun (n : Int) => bey n (4096 : Int)) || decide (Cv.share c < (1 : Int)) || decide ((4096 : Int) < Cv.share c)) kR (fun c2 => ?_) (fun c2 => ?_)
  ·
   refine aw_seq_k fun K hK => ?_
   refine wR 5 ?_; refine aX hTT 1 [] tI ?_; refine aops_nil (xt_n (hK _ ?_)); clear hK K
   refine aw_ret ?_
   refine xb_r ?_
   refine xt_r ?_
   rw [cvE_few oM oM, if_pos c2]
   refine rP (V.i (2 : Int))
  ·
   refine aw_skip ?_
   refine xb_n ?_; refine xt_n (hK _ ?_); clear hK K; refine aw_seq_k fun K hK => wR 5 ?_; refine aX hTT 1 [] tI ?_; refine aops_nil (xt_n (hK _ ?_)); clear hK K
   refine aw_ret ?_
   rw [cvE_few oM oM, if_neg (by rw [c2]; decide)]
   refine rP (V.i (0 : Int))
def fChE (l : List Cv) : Int := if 8 < l.length then 6 else match l.find? fun c => decide (cvE c ≠ 0) with | some c => cvE c | none => 0
theorem fChE_first {l : List Cv} (h8 : l.length ≤ 8) {k : Nat} (hk : k < l.length) (h : cvE (gc l k) ≠ 0) (hj : ∀ j, j < k → cvE (gc l j) = 0) : fChE l = cvE (gc l k) := by
 have : l.find? (fun c => decide (cvE c ≠ 0)) = some (gc l k) := by
  rw [gc_eq hk] at h ⊢
  rw [List.find?_eq_some_iff_getElem]
  refine ⟨by simpa using h, k, hk, rfl, fun j hjk => ?_⟩
  have := hj j hjk
  rw [gc_eq oM] at this
  simp [this]
 unfold fChE
 rw [if_neg oM, this]
theorem fChE_ok {l : List Cv} : fChE l = 0 ↔ l.length ≤ 8 ∧ ∀ k, k < l.length → cvE (gc l k) = 0 := by
 constructor
 ·
  intro h
  have h8 : l.length ≤ 8 := by
   unfold fChE at h
   split at h
   ·
    cases h
   ·
    omega
  refine ⟨h8, fun k hk => ?_⟩
  by_cases hc : ∃ k, k < l.length ∧ cvE (gc l k) ≠ 0
  ·
   obtain ⟨j, ⟨h1, h2⟩, h3⟩ := least _ hc
   rw [fChE_first h8 h1 h2 fun i hi => by
    by_cases h0 : cvE (gc l i) = 0
    ·
     exact h0
    ·
     have := h3 i ⟨by omega, h0⟩; omega] at h
   exact absurd h h2
  ·
   by_cases h0 : cvE (gc l k) = 0
   ·
    exact h0
   ·
    exact absurd ⟨k, hk, h0⟩ hc
 ·
  rintro ⟨h8, h⟩
  have : l.find? (fun c => decide (cvE c ≠ 0)) = none := by
   rw [List.find?_eq_none]
   intro x hx
   obtain ⟨k, hk, rfl⟩ := List.getElem_of_mem hx
   have := h k hk
   rw [gc_eq hk] at this
   simp [this]
  unfold fChE
  rw [if_neg oM, this]
def cvsL (l : List Cv) : Prop := l.length ≤ bigL ∧ ∀ k, k < l.length → cvL (gc l k)
set_option maxRecDepth 100000 in
theorem checkChain_ac (l : List Cv) (hl : cvsL l) : AC Tryz.prog 158 [V.cvs l] (.i (fChE l)) [] := by
 obtain ⟨hl1, hl2⟩ := hl
 unfold bigL at hl1
 refine acI hTT hMX Tryz.func158 Tryz.ntmps158 fun C hC hF => ?_
 refine aw_seq_k fun K hK => wR 2 ?_; refine aX hTT 1 [] tI ?_; refine aops_nil (xt_n (hK _ ?_)); clear hK K; refine aw_seq_k fun K hK => ?_; refine aw_seq_k fun K hK => wR 3 ?_; refine aX hTT 3 [] tI ?_; refine aops_nil (xt_n (hK _ ?_)); clear hK K
 refine w_cond (t := decide ((8 : Int) < (↑(List.length l) : Int))) kR (fun c1 => ?_) (fun c1 => ?_)
 ·
  simp at c1
  refine aw_seq_k fun K hK => wR 4 ?_; refine aX hTT 1 [] tI ?_; refine aops_nil (xt_n (hK _ ?_)); clear hK K
  refine aw_ret ?_
  refine xt_r ?_
  rw [show fChE l = 6 by unfold fChE; rw [if_pos oM]]
  refine rP (V.i 6)
 simp at c1
 refine aw_skip ?_
 refine xt_n (hK _ ?_); clear hK K; refine aw_seq_k fun K hK => ?_; refine aw_seq_k fun K hK => wR 4 ?_; refine aX hTT 3 [] tI ?_; refine aops_nil (xt_n (hK _ ?_)); clear hK K
 refine aw_block ?_
 refine w_loop (ι := Nat) (fun k => [(9, V.cvs l), (10, .i l.length), (11, .i k)]) (fun _ => []) (fun k => k ≤ l.length ∧ ∀ j, j < k → cvE (gc l j) = 0) (fun k => l.length - k) 0 ⟨Nat.zero_le _, fun j hj => by omega⟩ ?_ ?_
 ·
  refine le_ren [] (.cons kR (.cons kR (.cons kR .nil))) .nil kR kR
 rintro k ⟨hk, hb⟩
 refine aw_seq_k fun K hK => wR 2 ?_; refine aX hTT 1 [] tI ?_; refine aops_nil (xt_n (hK _ ?_)); clear hK K; refine aw_seq_k fun K hK => ?_
 refine w_cond (t := decide ((↑k : Int) < (↑(List.length l) : Int))) kR (fun c2 => ?_) (fun c2 => ?_)
 ·
  simp at c2
  refine aw_skip ?_
  refine xt_n (hK _ ?_); clear hK K; refine aw_seq_k fun K hK => ?_
  refine aw_block ?_
  refine aw_seq_k fun K hK => wR 3 ?_; refine aX hTT 4 [(0, .c ((0 : Int) ≤ (↑k : Int) ∧ (↑k : Int) < (↑(List.length l) : Int))), (2, .r (pn 4 (V.ref 200004 0) (200004 : Nat) (Ob.box 193 [V.nil, V.nil, V.i 0]))), (3, .r (pw ((0 : Nat) + (3 : Nat) ≤ (3 : Nat)) (200004 : Nat) (Ob.box 193 [V.sl 1 (List.length (Cv.feed (gc l k))) fun (k_1 : Nat) => [V.i (gi (Cv.feed (gc l k)) k_1)], V.sl 1 (List.length (Cv.back (gc l k))) fun (k_1 : Nat) => [V.i (gi (Cv.back (gc l k)) k_1)], V.i (Cv.share (gc l k))])))] ⟨oM, oM, tI⟩ ?_; refine aops_nil (xt_n (hK _ ?_)); clear hK K; refine aw_seq_k fun K hK => wR 4 ?_; refine aX hTT 1 [(0, .c ((0 : Nat) ≤ (3 : Nat)))] ⟨oM, tI⟩ ?_
  refine eC (CheckCurve_ac (gc l k) (hl2 k c2)) ?_
  refine aX hTT 1 [] tI ?_; refine aops_nil (xt_n (hK _ ?_)); clear hK K; refine aw_seq_k fun K hK => wR 5 ?_; refine aX hTT 2 [] tI ?_; refine aops_nil (xt_n (hK _ ?_)); clear hK K
  refine w_cond (t := !decide (cvE (gc l k) = (0 : Int))) kR (fun c3 => ?_) (fun c3 => ?_)
  ·
   simp at c3
   refine aw_seq_k fun K hK => wR 6 ?_; refine aX hTT 2 [] tI ?_; refine aops_nil (xt_n (hK _ ?_)); clear hK K
   refine aw_ret ?_
   refine xb_r ?_
   refine xt_r ?_; refine xt_r ?_
   refine xb_r ?_
   refine xt_r ?_
   rw [fChE_first oM c2 c3 hb]
   refine rP (V.i (cvE (gc l k)))
  ·
   simp at c3
   refine aw_skip ?_
   refine xb_n ?_; refine xt_n (hK _ ?_); clear hK K; refine wR 6 ?_; refine aX hTT 2 [(0, .i ((↑k : Int) + (1 : Int)))] ⟨oM, tI⟩ ?_; refine aops_nil ?_; refine xt_n ?_
   refine ⟨k + 1, ⟨by omega, fun j hj => ?_⟩, by refine le_ren [] (.cons kR (.cons kR (.cons kR .nil))) .nil kR kR, by omega⟩
   by_cases h : j < k
   ·
    exact hb j h
   ·
    obtain rfl : j = k := by omega
    exact c3
 ·
  simp at c2
  refine aw_exit ?_
  refine xt_x ?_; refine xt_x ?_
  refine xb_same ?_
  refine xt_n ?_; clear hK K; refine hK _ ?_; clear hK K; refine aw_seq_k fun K hK => wR 3 ?_; refine aX hTT 1 [] tI ?_; refine aops_nil (xt_n (hK _ ?_)); clear hK K
  refine aw_ret ?_
  rw [fChE_ok.2 ⟨by omega, fun k hk => hb k oM⟩]
  refine rP (V.i 0)
end Go.Proofs.YtplnhbenmgclfaaGreatDoor

namespace Go.Proofs.YtplnhbenmgclfaaGreatDoor
open Go.Ab Go.RowKit Go.Dw Go.Shelf
def ringC (h : List Int) (m : Nat) : List V := [V.i (gi h ((m + 7) % 8)), V.i (gi h ((m + 6) % 8)), V.i (gi h ((m + 5) % 8)), V.i (gi h ((m + 4) % 8)), V.i (gi h ((m + 3) % 8)), V.i (gi h ((m + 2) % 8)), V.i (gi h ((m + 1) % 8)), V.i (gi h (m % 8)), V.i m]
def stD (c : Cv) (hy hx : List Int) (m m' : Nat) : List V := ringC hy m ++ ringC hx m' ++ [V.ints c.feed, V.ints c.back, V.i c.share]
abbrev StO (c : Cv) (hy hx : List Int) (m m' : Nat) : Ob := .box 292 (stD c hy hx m m')
abbrev qFA30 : Prop := (8 : Int) ≠ (0 : Int)
theorem qFA30_ : qFA30 := oM
abbrev qFA31 : Prop := (17 : Nat) ≤ (21 : Nat)
theorem qFA31_ : qFA31 := oM
abbrev qFA32 : Prop := (8 : Nat) ≤ (21 : Nat)
theorem qFA32_ : qFA32 := oM
abbrev yyFA38 (c : Cv) : V := V.sl 1 (List.length (Cv.feed c)) fun (k : Nat) => [V.i (gi (Cv.feed c) k)]
abbrev yyFA39 (c : Cv) : V := V.sl 1 (List.length (Cv.back c)) fun (k : Nat) => [V.i (gi (Cv.back c) k)]
abbrev yyFA30 (c : Cv) (hy : List Int) (hx : List Int) (m : Nat) (n : Int) : Ob := Ob.box 292 [V.i (gi hy ((m + (7 : Nat)) % (8 : Nat))), V.i (gi hy ((m + (6 : Nat)) % (8 : Nat))), V.i (gi hy ((m + (5 : Nat)) % (8 : Nat))), V.i (gi hy ((m + (4 : Nat)) % (8 : Nat))), V.i (gi hy ((m + (3 : Nat)) % (8 : Nat))), V.i (gi hy ((m + (2 : Nat)) % (8 : Nat))), V.i (gi hy ((m + (1 : Nat)) % (8 : Nat))), V.i (gi hy (m % (8 : Nat))), V.i (↑m : Int), V.i (gi hx (((7 : Nat) + (7 : Nat)) % (8 : Nat))), V.i (gi hx (((7 : Nat) + (6 : Nat)) % (8 : Nat))), V.i (gi hx (((7 : Nat) + (5 : Nat)) % (8 : Nat))), V.i (gi hx (((7 : Nat) + (4 : Nat)) % (8 : Nat))), V.i (gi hx (((7 : Nat) + (3 : Nat)) % (8 : Nat))), V.i (gi hx (((7 : Nat) + (2 : Nat)) % (8 : Nat))), V.i (gi hx (((7 : Nat) + (1 : Nat)) % (8 : Nat))), V.i n, V.i 0, (yyFA38 c), (yyFA39 c), V.i (Cv.share c)]
abbrev yyFA31 (c : Cv) (hy : List Int) (hx : List Int) (m : Nat) (n : Int) : Ob := Ob.box 292 [V.i (gi hy ((m + (7 : Nat)) % (8 : Nat))), V.i (gi hy ((m + (6 : Nat)) % (8 : Nat))), V.i (gi hy ((m + (5 : Nat)) % (8 : Nat))), V.i (gi hy ((m + (4 : Nat)) % (8 : Nat))), V.i (gi hy ((m + (3 : Nat)) % (8 : Nat))), V.i (gi hy ((m + (2 : Nat)) % (8 : Nat))), V.i (gi hy ((m + (1 : Nat)) % (8 : Nat))), V.i (gi hy (m % (8 : Nat))), V.i (↑m : Int), V.i n, V.i (gi hx (((0 : Nat) + (6 : Nat)) % (8 : Nat))), V.i (gi hx (((0 : Nat) + (5 : Nat)) % (8 : Nat))), V.i (gi hx (((0 : Nat) + (4 : Nat)) % (8 : Nat))), V.i (gi hx (((0 : Nat) + (3 : Nat)) % (8 : Nat))), V.i (gi hx (((0 : Nat) + (2 : Nat)) % (8 : Nat))), V.i (gi hx (((0 : Nat) + (1 : Nat)) % (8 : Nat))), V.i (gi hx ((0 : Nat) % (8 : Nat))), V.i 1, (yyFA38 c), (yyFA39 c), V.i (Cv.share c)]
abbrev yyFA32 (c : Cv) (hy : List Int) (hx : List Int) (m : Nat) (n : Int) : Ob := Ob.box 292 [V.i (gi hy ((m + (7 : Nat)) % (8 : Nat))), V.i (gi hy ((m + (6 : Nat)) % (8 : Nat))), V.i (gi hy ((m + (5 : Nat)) % (8 : Nat))), V.i (gi hy ((m + (4 : Nat)) % (8 : Nat))), V.i (gi hy ((m + (3 : Nat)) % (8 : Nat))), V.i (gi hy ((m + (2 : Nat)) % (8 : Nat))), V.i (gi hy ((m + (1 : Nat)) % (8 : Nat))), V.i (gi hy (m % (8 : Nat))), V.i (↑m : Int), V.i (gi hx (((1 : Nat) + (7 : Nat)) % (8 : Nat))), V.i n, V.i (gi hx (((1 : Nat) + (5 : Nat)) % (8 : Nat))), V.i (gi hx (((1 : Nat) + (4 : Nat)) % (8 : Nat))), V.i (gi hx (((1 : Nat) + (3 : Nat)) % (8 : Nat))), V.i (gi hx (((1 : Nat) + (2 : Nat)) % (8 : Nat))), V.i (gi hx (((1 : Nat) + (1 : Nat)) % (8 : Nat))), V.i (gi hx ((1 : Nat) % (8 : Nat))), V.i 2, (yyFA38 c), (yyFA39 c), V.i (Cv.share c)]
abbrev yyFA33 (c : Cv) (hy : List Int) (hx : List Int) (m : Nat) (n : Int) : Ob := Ob.box 292 [V.i (gi hy ((m + (7 : Nat)) % (8 : Nat))), V.i (gi hy ((m + (6 : Nat)) % (8 : Nat))), V.i (gi hy ((m + (5 : Nat)) % (8 : Nat))), V.i (gi hy ((m + (4 : Nat)) % (8 : Nat))), V.i (gi hy ((m + (3 : Nat)) % (8 : Nat))), V.i (gi hy ((m + (2 : Nat)) % (8 : Nat))), V.i (gi hy ((m + (1 : Nat)) % (8 : Nat))), V.i (gi hy (m % (8 : Nat))), V.i (↑m : Int), V.i (gi hx (((2 : Nat) + (7 : Nat)) % (8 : Nat))), V.i (gi hx (((2 : Nat) + (6 : Nat)) % (8 : Nat))), V.i n, V.i (gi hx (((2 : Nat) + (4 : Nat)) % (8 : Nat))), V.i (gi hx (((2 : Nat) + (3 : Nat)) % (8 : Nat))), V.i (gi hx (((2 : Nat) + (2 : Nat)) % (8 : Nat))), V.i (gi hx (((2 : Nat) + (1 : Nat)) % (8 : Nat))), V.i (gi hx ((2 : Nat) % (8 : Nat))), V.i 3, (yyFA38 c), (yyFA39 c), V.i (Cv.share c)]
abbrev yyFA34 (c : Cv) (hy : List Int) (hx : List Int) (m : Nat) (n : Int) : Ob := Ob.box 292 [V.i (gi hy ((m + (7 : Nat)) % (8 : Nat))), V.i (gi hy ((m + (6 : Nat)) % (8 : Nat))), V.i (gi hy ((m + (5 : Nat)) % (8 : Nat))), V.i (gi hy ((m + (4 : Nat)) % (8 : Nat))), V.i (gi hy ((m + (3 : Nat)) % (8 : Nat))), V.i (gi hy ((m + (2 : Nat)) % (8 : Nat))), V.i (gi hy ((m + (1 : Nat)) % (8 : Nat))), V.i (gi hy (m % (8 : Nat))), V.i (↑m : Int), V.i (gi hx (((3 : Nat) + (7 : Nat)) % (8 : Nat))), V.i (gi hx (((3 : Nat) + (6 : Nat)) % (8 : Nat))), V.i (gi hx (((3 : Nat) + (5 : Nat)) % (8 : Nat))), V.i n, V.i (gi hx (((3 : Nat) + (3 : Nat)) % (8 : Nat))), V.i (gi hx (((3 : Nat) + (2 : Nat)) % (8 : Nat))), V.i (gi hx (((3 : Nat) + (1 : Nat)) % (8 : Nat))), V.i (gi hx ((3 : Nat) % (8 : Nat))), V.i 4, (yyFA38 c), (yyFA39 c), V.i (Cv.share c)]
abbrev yyFA35 (c : Cv) (hy : List Int) (hx : List Int) (m : Nat) (n : Int) : Ob := Ob.box 292 [V.i (gi hy ((m + (7 : Nat)) % (8 : Nat))), V.i (gi hy ((m + (6 : Nat)) % (8 : Nat))), V.i (gi hy ((m + (5 : Nat)) % (8 : Nat))), V.i (gi hy ((m + (4 : Nat)) % (8 : Nat))), V.i (gi hy ((m + (3 : Nat)) % (8 : Nat))), V.i (gi hy ((m + (2 : Nat)) % (8 : Nat))), V.i (gi hy ((m + (1 : Nat)) % (8 : Nat))), V.i (gi hy (m % (8 : Nat))), V.i (↑m : Int), V.i (gi hx (((4 : Nat) + (7 : Nat)) % (8 : Nat))), V.i (gi hx (((4 : Nat) + (6 : Nat)) % (8 : Nat))), V.i (gi hx (((4 : Nat) + (5 : Nat)) % (8 : Nat))), V.i (gi hx (((4 : Nat) + (4 : Nat)) % (8 : Nat))), V.i n, V.i (gi hx (((4 : Nat) + (2 : Nat)) % (8 : Nat))), V.i (gi hx (((4 : Nat) + (1 : Nat)) % (8 : Nat))), V.i (gi hx ((4 : Nat) % (8 : Nat))), V.i 5, (yyFA38 c), (yyFA39 c), V.i (Cv.share c)]
abbrev yyFA36 (c : Cv) (hy : List Int) (hx : List Int) (m : Nat) (n : Int) : Ob := Ob.box 292 [V.i (gi hy ((m + (7 : Nat)) % (8 : Nat))), V.i (gi hy ((m + (6 : Nat)) % (8 : Nat))), V.i (gi hy ((m + (5 : Nat)) % (8 : Nat))), V.i (gi hy ((m + (4 : Nat)) % (8 : Nat))), V.i (gi hy ((m + (3 : Nat)) % (8 : Nat))), V.i (gi hy ((m + (2 : Nat)) % (8 : Nat))), V.i (gi hy ((m + (1 : Nat)) % (8 : Nat))), V.i (gi hy (m % (8 : Nat))), V.i (↑m : Int), V.i (gi hx (((5 : Nat) + (7 : Nat)) % (8 : Nat))), V.i (gi hx (((5 : Nat) + (6 : Nat)) % (8 : Nat))), V.i (gi hx (((5 : Nat) + (5 : Nat)) % (8 : Nat))), V.i (gi hx (((5 : Nat) + (4 : Nat)) % (8 : Nat))), V.i (gi hx (((5 : Nat) + (3 : Nat)) % (8 : Nat))), V.i n, V.i (gi hx (((5 : Nat) + (1 : Nat)) % (8 : Nat))), V.i (gi hx ((5 : Nat) % (8 : Nat))), V.i 6, (yyFA38 c), (yyFA39 c), V.i (Cv.share c)]
abbrev yyFA37 (c : Cv) (hy : List Int) (hx : List Int) (m : Nat) (n : Int) : Ob := Ob.box 292 [V.i (gi hy ((m + (7 : Nat)) % (8 : Nat))), V.i (gi hy ((m + (6 : Nat)) % (8 : Nat))), V.i (gi hy ((m + (5 : Nat)) % (8 : Nat))), V.i (gi hy ((m + (4 : Nat)) % (8 : Nat))), V.i (gi hy ((m + (3 : Nat)) % (8 : Nat))), V.i (gi hy ((m + (2 : Nat)) % (8 : Nat))), V.i (gi hy ((m + (1 : Nat)) % (8 : Nat))), V.i (gi hy (m % (8 : Nat))), V.i (↑m : Int), V.i (gi hx (((6 : Nat) + (7 : Nat)) % (8 : Nat))), V.i (gi hx (((6 : Nat) + (6 : Nat)) % (8 : Nat))), V.i (gi hx (((6 : Nat) + (5 : Nat)) % (8 : Nat))), V.i (gi hx (((6 : Nat) + (4 : Nat)) % (8 : Nat))), V.i (gi hx (((6 : Nat) + (3 : Nat)) % (8 : Nat))), V.i (gi hx (((6 : Nat) + (2 : Nat)) % (8 : Nat))), V.i n, V.i (gi hx ((6 : Nat) % (8 : Nat))), V.i 7, (yyFA38 c), (yyFA39 c), V.i (Cv.share c)]
set_option maxRecDepth 100000 in
theorem putI_ac (c : Cv) (hy hx : List Int) (m m' : Nat) (n : Int) (hm : m' < 8) : AM Tryz.prog 176 [.ref 500 9, .i n] [StO c hy hx m m'] (.tup []) [some (StO c hy (n :: hx) m ((m' + 1) % 8))] [] := by
 have hm2 : m' = 0 ∨ m' = 1 ∨ m' = 2 ∨ m' = 3 ∨ m' = 4 ∨ m' = 5 ∨ m' = 6 ∨ m' = 7 := by omega
 rcases hm2 with rfl | rfl | rfl | rfl | rfl | rfl | rfl | rfl
 ·
  refine am_intro hTT hMX (fn := Tryz.f176) (N := _) ⟨Tryz.func176, rfl, Tryz.ntmps176, kR⟩ (by simp) rfl (by simp) (by simp) fun C hF => ?_
  refine aw_seq_k fun K hK => wD 2 ?_; refine aX hTT 10 [(4, .c qFA31), (8, .c ((0 : Int) ≤ (0 : Int) ∧ (0 : Int) < (↑(8 : Nat) : Int))), (9, .r (pw ((9 : Nat) + (1 : Nat) ≤ (21 : Nat)) (500 : Nat) (Ob.box 292 [V.i (gi hy ((m + (7 : Nat)) % (8 : Nat))), V.i (gi hy ((m + (6 : Nat)) % (8 : Nat))), V.i (gi hy ((m + (5 : Nat)) % (8 : Nat))), V.i (gi hy ((m + (4 : Nat)) % (8 : Nat))), V.i (gi hy ((m + (3 : Nat)) % (8 : Nat))), V.i (gi hy ((m + (2 : Nat)) % (8 : Nat))), V.i (gi hy ((m + (1 : Nat)) % (8 : Nat))), V.i (gi hy (m % (8 : Nat))), V.i (↑m : Int), V.i n, V.i (gi hx (((0 : Nat) + (6 : Nat)) % (8 : Nat))), V.i (gi hx (((0 : Nat) + (5 : Nat)) % (8 : Nat))), V.i (gi hx (((0 : Nat) + (4 : Nat)) % (8 : Nat))), V.i (gi hx (((0 : Nat) + (3 : Nat)) % (8 : Nat))), V.i (gi hx (((0 : Nat) + (2 : Nat)) % (8 : Nat))), V.i (gi hx (((0 : Nat) + (1 : Nat)) % (8 : Nat))), V.i (gi hx ((0 : Nat) % (8 : Nat))), V.i 0, (yyFA38 c), (yyFA39 c), V.i (Cv.share c)])))] ⟨qFA31_, oM, oM, tI⟩ ?_; refine aops_nil ⟨kR, ?_⟩; refine xt_n (hK _ ?_); clear hK K; refine wR 3 ?_; refine aX hTT 10 [(4, .c qFA31), (5, .i ((0 : Int) + (1 : Int))), (6, .c qFA30), (9, .r (pw ((17 : Nat) + (1 : Nat) ≤ (21 : Nat)) (500 : Nat) ((yyFA31 c hy hx m n))))] ⟨qFA31_, oM, qFA30_, oM, tI⟩ ?_; refine aops_nil ?_
  refine retM (v' := V.tup []) [] [] (.inl rfl) .nil (.cons ⟨(yyFA31 c hy hx m n), kR, .box kR⟩ .nil) kR kR kR kR kR kR kR
 ·
  refine am_intro hTT hMX (fn := Tryz.f176) (N := _) ⟨Tryz.func176, rfl, Tryz.ntmps176, kR⟩ (by simp) rfl (by simp) (by simp) fun C hF => ?_
  refine aw_seq_k fun K hK => wD 2 ?_; refine aX hTT 10 [(4, .c qFA31), (8, .c ((0 : Int) ≤ (1 : Int) ∧ (1 : Int) < (↑(8 : Nat) : Int))), (9, .r (pw ((10 : Nat) + (1 : Nat) ≤ (21 : Nat)) (500 : Nat) (Ob.box 292 [V.i (gi hy ((m + (7 : Nat)) % (8 : Nat))), V.i (gi hy ((m + (6 : Nat)) % (8 : Nat))), V.i (gi hy ((m + (5 : Nat)) % (8 : Nat))), V.i (gi hy ((m + (4 : Nat)) % (8 : Nat))), V.i (gi hy ((m + (3 : Nat)) % (8 : Nat))), V.i (gi hy ((m + (2 : Nat)) % (8 : Nat))), V.i (gi hy ((m + (1 : Nat)) % (8 : Nat))), V.i (gi hy (m % (8 : Nat))), V.i (↑m : Int), V.i (gi hx (((1 : Nat) + (7 : Nat)) % (8 : Nat))), V.i n, V.i (gi hx (((1 : Nat) + (5 : Nat)) % (8 : Nat))), V.i (gi hx (((1 : Nat) + (4 : Nat)) % (8 : Nat))), V.i (gi hx (((1 : Nat) + (3 : Nat)) % (8 : Nat))), V.i (gi hx (((1 : Nat) + (2 : Nat)) % (8 : Nat))), V.i (gi hx (((1 : Nat) + (1 : Nat)) % (8 : Nat))), V.i (gi hx ((1 : Nat) % (8 : Nat))), V.i 1, (yyFA38 c), (yyFA39 c), V.i (Cv.share c)])))] ⟨qFA31_, oM, oM, tI⟩ ?_; refine aops_nil ⟨kR, ?_⟩; refine xt_n (hK _ ?_); clear hK K; refine wR 3 ?_; refine aX hTT 10 [(4, .c qFA31), (5, .i ((1 : Int) + (1 : Int))), (6, .c qFA30), (9, .r (pw ((17 : Nat) + (1 : Nat) ≤ (21 : Nat)) (500 : Nat) ((yyFA32 c hy hx m n))))] ⟨qFA31_, oM, qFA30_, oM, tI⟩ ?_; refine aops_nil ?_
  refine retM (v' := V.tup []) [] [] (.inl rfl) .nil (.cons ⟨(yyFA32 c hy hx m n), kR, .box kR⟩ .nil) kR kR kR kR kR kR kR
 ·
  refine am_intro hTT hMX (fn := Tryz.f176) (N := _) ⟨Tryz.func176, rfl, Tryz.ntmps176, kR⟩ (by simp) rfl (by simp) (by simp) fun C hF => ?_
  refine aw_seq_k fun K hK => wD 2 ?_; refine aX hTT 10 [(4, .c qFA31), (8, .c ((0 : Int) ≤ (2 : Int) ∧ (2 : Int) < (↑(8 : Nat) : Int))), (9, .r (pw ((11 : Nat) + (1 : Nat) ≤ (21 : Nat)) (500 : Nat) (Ob.box 292 [V.i (gi hy ((m + (7 : Nat)) % (8 : Nat))), V.i (gi hy ((m + (6 : Nat)) % (8 : Nat))), V.i (gi hy ((m + (5 : Nat)) % (8 : Nat))), V.i (gi hy ((m + (4 : Nat)) % (8 : Nat))), V.i (gi hy ((m + (3 : Nat)) % (8 : Nat))), V.i (gi hy ((m + (2 : Nat)) % (8 : Nat))), V.i (gi hy ((m + (1 : Nat)) % (8 : Nat))), V.i (gi hy (m % (8 : Nat))), V.i (↑m : Int), V.i (gi hx (((2 : Nat) + (7 : Nat)) % (8 : Nat))), V.i (gi hx (((2 : Nat) + (6 : Nat)) % (8 : Nat))), V.i n, V.i (gi hx (((2 : Nat) + (4 : Nat)) % (8 : Nat))), V.i (gi hx (((2 : Nat) + (3 : Nat)) % (8 : Nat))), V.i (gi hx (((2 : Nat) + (2 : Nat)) % (8 : Nat))), V.i (gi hx (((2 : Nat) + (1 : Nat)) % (8 : Nat))), V.i (gi hx ((2 : Nat) % (8 : Nat))), V.i 2, (yyFA38 c), (yyFA39 c), V.i (Cv.share c)])))] ⟨qFA31_, oM, oM, tI⟩ ?_; refine aops_nil ⟨kR, ?_⟩; refine xt_n (hK _ ?_); clear hK K; refine wR 3 ?_; refine aX hTT 10 [(4, .c qFA31), (5, .i ((2 : Int) + (1 : Int))), (6, .c qFA30), (9, .r (pw ((17 : Nat) + (1 : Nat) ≤ (21 : Nat)) (500 : Nat) ((yyFA33 c hy hx m n))))] ⟨qFA31_, oM, qFA30_, oM, tI⟩ ?_; refine aops_nil ?_
  refine retM (v' := V.tup []) [] [] (.inl rfl) .nil (.cons ⟨(yyFA33 c hy hx m n), kR, .box kR⟩ .nil) kR kR kR kR kR kR kR
 ·
  refine am_intro hTT hMX (fn := Tryz.f176) (N := _) ⟨Tryz.func176, rfl, Tryz.ntmps176, kR⟩ (by simp) rfl (by simp) (by simp) fun C hF => ?_
  refine aw_seq_k fun K hK => wD 2 ?_; refine aX hTT 10 [(4, .c qFA31), (8, .c ((0 : Int) ≤ (3 : Int) ∧ (3 : Int) < (↑(8 : Nat) : Int))), (9, .r (pw ((12 : Nat) + (1 : Nat) ≤ (21 : Nat)) (500 : Nat) (Ob.box 292 [V.i (gi hy ((m + (7 : Nat)) % (8 : Nat))), V.i (gi hy ((m + (6 : Nat)) % (8 : Nat))), V.i (gi hy ((m + (5 : Nat)) % (8 : Nat))), V.i (gi hy ((m + (4 : Nat)) % (8 : Nat))), V.i (gi hy ((m + (3 : Nat)) % (8 : Nat))), V.i (gi hy ((m + (2 : Nat)) % (8 : Nat))), V.i (gi hy ((m + (1 : Nat)) % (8 : Nat))), V.i (gi hy (m % (8 : Nat))), V.i (↑m : Int), V.i (gi hx (((3 : Nat) + (7 : Nat)) % (8 : Nat))), V.i (gi hx (((3 : Nat) + (6 : Nat)) % (8 : Nat))), V.i (gi hx (((3 : Nat) + (5 : Nat)) % (8 : Nat))), V.i n, V.i (gi hx (((3 : Nat) + (3 : Nat)) % (8 : Nat))), V.i (gi hx (((3 : Nat) + (2 : Nat)) % (8 : Nat))), V.i (gi hx (((3 : Nat) + (1 : Nat)) % (8 : Nat))), V.i (gi hx ((3 : Nat) % (8 : Nat))), V.i 3, (yyFA38 c), (yyFA39 c), V.i (Cv.share c)])))] ⟨qFA31_, oM, oM, tI⟩ ?_; refine aops_nil ⟨kR, ?_⟩; refine xt_n (hK _ ?_); clear hK K; refine wR 3 ?_; refine aX hTT 10 [(4, .c qFA31), (5, .i ((3 : Int) + (1 : Int))), (6, .c qFA30), (9, .r (pw ((17 : Nat) + (1 : Nat) ≤ (21 : Nat)) (500 : Nat) ((yyFA34 c hy hx m n))))] ⟨qFA31_, oM, qFA30_, oM, tI⟩ ?_; refine aops_nil ?_
  refine retM (v' := V.tup []) [] [] (.inl rfl) .nil (.cons ⟨(yyFA34 c hy hx m n), kR, .box kR⟩ .nil) kR kR kR kR kR kR kR
 ·
  refine am_intro hTT hMX (fn := Tryz.f176) (N := _) ⟨Tryz.func176, rfl, Tryz.ntmps176, kR⟩ (by simp) rfl (by simp) (by simp) fun C hF => ?_
  refine aw_seq_k fun K hK => wD 2 ?_; refine aX hTT 10 [(4, .c qFA31), (8, .c ((0 : Int) ≤ (4 : Int) ∧ (4 : Int) < (↑(8 : Nat) : Int))), (9, .r (pw ((13 : Nat) + (1 : Nat) ≤ (21 : Nat)) (500 : Nat) (Ob.box 292 [V.i (gi hy ((m + (7 : Nat)) % (8 : Nat))), V.i (gi hy ((m + (6 : Nat)) % (8 : Nat))), V.i (gi hy ((m + (5 : Nat)) % (8 : Nat))), V.i (gi hy ((m + (4 : Nat)) % (8 : Nat))), V.i (gi hy ((m + (3 : Nat)) % (8 : Nat))), V.i (gi hy ((m + (2 : Nat)) % (8 : Nat))), V.i (gi hy ((m + (1 : Nat)) % (8 : Nat))), V.i (gi hy (m % (8 : Nat))), V.i (↑m : Int), V.i (gi hx (((4 : Nat) + (7 : Nat)) % (8 : Nat))), V.i (gi hx (((4 : Nat) + (6 : Nat)) % (8 : Nat))), V.i (gi hx (((4 : Nat) + (5 : Nat)) % (8 : Nat))), V.i (gi hx (((4 : Nat) + (4 : Nat)) % (8 : Nat))), V.i n, V.i (gi hx (((4 : Nat) + (2 : Nat)) % (8 : Nat))), V.i (gi hx (((4 : Nat) + (1 : Nat)) % (8 : Nat))), V.i (gi hx ((4 : Nat) % (8 : Nat))), V.i 4, (yyFA38 c), (yyFA39 c), V.i (Cv.share c)])))] ⟨qFA31_, oM, oM, tI⟩ ?_; refine aops_nil ⟨kR, ?_⟩; refine xt_n (hK _ ?_); clear hK K; refine wR 3 ?_; refine aX hTT 10 [(4, .c qFA31), (5, .i ((4 : Int) + (1 : Int))), (6, .c qFA30), (9, .r (pw ((17 : Nat) + (1 : Nat) ≤ (21 : Nat)) (500 : Nat) ((yyFA35 c hy hx m n))))] ⟨qFA31_, oM, qFA30_, oM, tI⟩ ?_; refine aops_nil ?_
  refine retM (v' := V.tup []) [] [] (.inl rfl) .nil (.cons ⟨(yyFA35 c hy hx m n), kR, .box kR⟩ .nil) kR kR kR kR kR kR kR
 ·
  refine am_intro hTT hMX (fn := Tryz.f176) (N := _) ⟨Tryz.func176, rfl, Tryz.ntmps176, kR⟩ (by simp) rfl (by simp) (by simp) fun C hF => ?_
  refine aw_seq_k fun K hK => wD 2 ?_; refine aX hTT 10 [(4, .c qFA31), (8, .c ((0 : Int) ≤ (5 : Int) ∧ (5 : Int) < (↑(8 : Nat) : Int))), (9, .r (pw ((14 : Nat) + (1 : Nat) ≤ (21 : Nat)) (500 : Nat) (Ob.box 292 [V.i (gi hy ((m + (7 : Nat)) % (8 : Nat))), V.i (gi hy ((m + (6 : Nat)) % (8 : Nat))), V.i (gi hy ((m + (5 : Nat)) % (8 : Nat))), V.i (gi hy ((m + (4 : Nat)) % (8 : Nat))), V.i (gi hy ((m + (3 : Nat)) % (8 : Nat))), V.i (gi hy ((m + (2 : Nat)) % (8 : Nat))), V.i (gi hy ((m + (1 : Nat)) % (8 : Nat))), V.i (gi hy (m % (8 : Nat))), V.i (↑m : Int), V.i (gi hx (((5 : Nat) + (7 : Nat)) % (8 : Nat))), V.i (gi hx (((5 : Nat) + (6 : Nat)) % (8 : Nat))), V.i (gi hx (((5 : Nat) + (5 : Nat)) % (8 : Nat))), V.i (gi hx (((5 : Nat) + (4 : Nat)) % (8 : Nat))), V.i (gi hx (((5 : Nat) + (3 : Nat)) % (8 : Nat))), V.i n, V.i (gi hx (((5 : Nat) + (1 : Nat)) % (8 : Nat))), V.i (gi hx ((5 : Nat) % (8 : Nat))), V.i 5, (yyFA38 c), (yyFA39 c), V.i (Cv.share c)])))] ⟨qFA31_, oM, oM, tI⟩ ?_; refine aops_nil ⟨kR, ?_⟩; refine xt_n (hK _ ?_); clear hK K; refine wR 3 ?_; refine aX hTT 10 [(4, .c qFA31), (5, .i ((5 : Int) + (1 : Int))), (6, .c qFA30), (9, .r (pw ((17 : Nat) + (1 : Nat) ≤ (21 : Nat)) (500 : Nat) ((yyFA36 c hy hx m n))))] ⟨qFA31_, oM, qFA30_, oM, tI⟩ ?_; refine aops_nil ?_
  refine retM (v' := V.tup []) [] [] (.inl rfl) .nil (.cons ⟨(yyFA36 c hy hx m n), kR, .box kR⟩ .nil) kR kR kR kR kR kR kR
 ·
  refine am_intro hTT hMX (fn := Tryz.f176) (N := _) ⟨Tryz.func176, rfl, Tryz.ntmps176, kR⟩ (by simp) rfl (by simp) (by simp) fun C hF => ?_
  refine aw_seq_k fun K hK => wD 2 ?_; refine aX hTT 10 [(4, .c qFA31), (8, .c ((0 : Int) ≤ (6 : Int) ∧ (6 : Int) < (↑(8 : Nat) : Int))), (9, .r (pw ((15 : Nat) + (1 : Nat) ≤ (21 : Nat)) (500 : Nat) (Ob.box 292 [V.i (gi hy ((m + (7 : Nat)) % (8 : Nat))), V.i (gi hy ((m + (6 : Nat)) % (8 : Nat))), V.i (gi hy ((m + (5 : Nat)) % (8 : Nat))), V.i (gi hy ((m + (4 : Nat)) % (8 : Nat))), V.i (gi hy ((m + (3 : Nat)) % (8 : Nat))), V.i (gi hy ((m + (2 : Nat)) % (8 : Nat))), V.i (gi hy ((m + (1 : Nat)) % (8 : Nat))), V.i (gi hy (m % (8 : Nat))), V.i (↑m : Int), V.i (gi hx (((6 : Nat) + (7 : Nat)) % (8 : Nat))), V.i (gi hx (((6 : Nat) + (6 : Nat)) % (8 : Nat))), V.i (gi hx (((6 : Nat) + (5 : Nat)) % (8 : Nat))), V.i (gi hx (((6 : Nat) + (4 : Nat)) % (8 : Nat))), V.i (gi hx (((6 : Nat) + (3 : Nat)) % (8 : Nat))), V.i (gi hx (((6 : Nat) + (2 : Nat)) % (8 : Nat))), V.i n, V.i (gi hx ((6 : Nat) % (8 : Nat))), V.i 6, (yyFA38 c), (yyFA39 c), V.i (Cv.share c)])))] ⟨qFA31_, oM, oM, tI⟩ ?_; refine aops_nil ⟨kR, ?_⟩; refine xt_n (hK _ ?_); clear hK K; refine wR 3 ?_; refine aX hTT 10 [(4, .c qFA31), (5, .i ((6 : Int) + (1 : Int))), (6, .c qFA30), (9, .r (pw ((17 : Nat) + (1 : Nat) ≤ (21 : Nat)) (500 : Nat) ((yyFA37 c hy hx m n))))] ⟨qFA31_, oM, qFA30_, oM, tI⟩ ?_; refine aops_nil ?_
  refine retM (v' := V.tup []) [] [] (.inl rfl) .nil (.cons ⟨(yyFA37 c hy hx m n), kR, .box kR⟩ .nil) kR kR kR kR kR kR kR
 ·
  refine am_intro hTT hMX (fn := Tryz.f176) (N := _) ⟨Tryz.func176, rfl, Tryz.ntmps176, kR⟩ (by simp) rfl (by simp) (by simp) fun C hF => ?_
  refine aw_seq_k fun K hK => wD 2 ?_; refine aX hTT 10 [(4, .c qFA31), (8, .c ((0 : Int) ≤ (7 : Int) ∧ (7 : Int) < (↑(8 : Nat) : Int))), (9, .r (pw ((16 : Nat) + (1 : Nat) ≤ (21 : Nat)) (500 : Nat) (Ob.box 292 [V.i (gi hy ((m + (7 : Nat)) % (8 : Nat))), V.i (gi hy ((m + (6 : Nat)) % (8 : Nat))), V.i (gi hy ((m + (5 : Nat)) % (8 : Nat))), V.i (gi hy ((m + (4 : Nat)) % (8 : Nat))), V.i (gi hy ((m + (3 : Nat)) % (8 : Nat))), V.i (gi hy ((m + (2 : Nat)) % (8 : Nat))), V.i (gi hy ((m + (1 : Nat)) % (8 : Nat))), V.i (gi hy (m % (8 : Nat))), V.i (↑m : Int), V.i (gi hx (((7 : Nat) + (7 : Nat)) % (8 : Nat))), V.i (gi hx (((7 : Nat) + (6 : Nat)) % (8 : Nat))), V.i (gi hx (((7 : Nat) + (5 : Nat)) % (8 : Nat))), V.i (gi hx (((7 : Nat) + (4 : Nat)) % (8 : Nat))), V.i (gi hx (((7 : Nat) + (3 : Nat)) % (8 : Nat))), V.i (gi hx (((7 : Nat) + (2 : Nat)) % (8 : Nat))), V.i (gi hx (((7 : Nat) + (1 : Nat)) % (8 : Nat))), V.i n, V.i 7, (yyFA38 c), (yyFA39 c), V.i (Cv.share c)])))] ⟨qFA31_, oM, oM, tI⟩ ?_; refine aops_nil ⟨kR, ?_⟩; refine xt_n (hK _ ?_); clear hK K; refine wR 3 ?_; refine aX hTT 10 [(4, .c qFA31), (5, .i ((7 : Int) + (1 : Int))), (6, .c qFA30), (9, .r (pw ((17 : Nat) + (1 : Nat) ≤ (21 : Nat)) (500 : Nat) ((yyFA30 c hy hx m n))))] ⟨qFA31_, oM, qFA30_, oM, tI⟩ ?_; refine aops_nil ?_
  refine retM (v' := V.tup []) [] [] (.inl rfl) .nil (.cons ⟨(yyFA30 c hy hx m n), kR, .box kR⟩ .nil) kR kR kR kR kR kR kR
abbrev yyFA310 (c : Cv) (hy : List Int) (hx : List Int) (m' : Nat) (n : Int) : Ob := Ob.box 292 [V.i (gi hy (((7 : Nat) + (7 : Nat)) % (8 : Nat))), V.i (gi hy (((7 : Nat) + (6 : Nat)) % (8 : Nat))), V.i (gi hy (((7 : Nat) + (5 : Nat)) % (8 : Nat))), V.i (gi hy (((7 : Nat) + (4 : Nat)) % (8 : Nat))), V.i (gi hy (((7 : Nat) + (3 : Nat)) % (8 : Nat))), V.i (gi hy (((7 : Nat) + (2 : Nat)) % (8 : Nat))), V.i (gi hy (((7 : Nat) + (1 : Nat)) % (8 : Nat))), V.i n, V.i 0, V.i (gi hx ((m' + (7 : Nat)) % (8 : Nat))), V.i (gi hx ((m' + (6 : Nat)) % (8 : Nat))), V.i (gi hx ((m' + (5 : Nat)) % (8 : Nat))), V.i (gi hx ((m' + (4 : Nat)) % (8 : Nat))), V.i (gi hx ((m' + (3 : Nat)) % (8 : Nat))), V.i (gi hx ((m' + (2 : Nat)) % (8 : Nat))), V.i (gi hx ((m' + (1 : Nat)) % (8 : Nat))), V.i (gi hx (m' % (8 : Nat))), V.i (↑m' : Int), (yyFA38 c), (yyFA39 c), V.i (Cv.share c)]
abbrev yyFA311 (c : Cv) (hy : List Int) (hx : List Int) (m' : Nat) (n : Int) : Ob := Ob.box 292 [V.i n, V.i (gi hy (((0 : Nat) + (6 : Nat)) % (8 : Nat))), V.i (gi hy (((0 : Nat) + (5 : Nat)) % (8 : Nat))), V.i (gi hy (((0 : Nat) + (4 : Nat)) % (8 : Nat))), V.i (gi hy (((0 : Nat) + (3 : Nat)) % (8 : Nat))), V.i (gi hy (((0 : Nat) + (2 : Nat)) % (8 : Nat))), V.i (gi hy (((0 : Nat) + (1 : Nat)) % (8 : Nat))), V.i (gi hy ((0 : Nat) % (8 : Nat))), V.i 1, V.i (gi hx ((m' + (7 : Nat)) % (8 : Nat))), V.i (gi hx ((m' + (6 : Nat)) % (8 : Nat))), V.i (gi hx ((m' + (5 : Nat)) % (8 : Nat))), V.i (gi hx ((m' + (4 : Nat)) % (8 : Nat))), V.i (gi hx ((m' + (3 : Nat)) % (8 : Nat))), V.i (gi hx ((m' + (2 : Nat)) % (8 : Nat))), V.i (gi hx ((m' + (1 : Nat)) % (8 : Nat))), V.i (gi hx (m' % (8 : Nat))), V.i (↑m' : Int), (yyFA38 c), (yyFA39 c), V.i (Cv.share c)]
abbrev yyFA312 (c : Cv) (hy : List Int) (hx : List Int) (m' : Nat) (n : Int) : Ob := Ob.box 292 [V.i (gi hy (((1 : Nat) + (7 : Nat)) % (8 : Nat))), V.i n, V.i (gi hy (((1 : Nat) + (5 : Nat)) % (8 : Nat))), V.i (gi hy (((1 : Nat) + (4 : Nat)) % (8 : Nat))), V.i (gi hy (((1 : Nat) + (3 : Nat)) % (8 : Nat))), V.i (gi hy (((1 : Nat) + (2 : Nat)) % (8 : Nat))), V.i (gi hy (((1 : Nat) + (1 : Nat)) % (8 : Nat))), V.i (gi hy ((1 : Nat) % (8 : Nat))), V.i 2, V.i (gi hx ((m' + (7 : Nat)) % (8 : Nat))), V.i (gi hx ((m' + (6 : Nat)) % (8 : Nat))), V.i (gi hx ((m' + (5 : Nat)) % (8 : Nat))), V.i (gi hx ((m' + (4 : Nat)) % (8 : Nat))), V.i (gi hx ((m' + (3 : Nat)) % (8 : Nat))), V.i (gi hx ((m' + (2 : Nat)) % (8 : Nat))), V.i (gi hx ((m' + (1 : Nat)) % (8 : Nat))), V.i (gi hx (m' % (8 : Nat))), V.i (↑m' : Int), (yyFA38 c), (yyFA39 c), V.i (Cv.share c)]
abbrev yyFA313 (c : Cv) (hy : List Int) (hx : List Int) (m' : Nat) (n : Int) : Ob := Ob.box 292 [V.i (gi hy (((2 : Nat) + (7 : Nat)) % (8 : Nat))), V.i (gi hy (((2 : Nat) + (6 : Nat)) % (8 : Nat))), V.i n, V.i (gi hy (((2 : Nat) + (4 : Nat)) % (8 : Nat))), V.i (gi hy (((2 : Nat) + (3 : Nat)) % (8 : Nat))), V.i (gi hy (((2 : Nat) + (2 : Nat)) % (8 : Nat))), V.i (gi hy (((2 : Nat) + (1 : Nat)) % (8 : Nat))), V.i (gi hy ((2 : Nat) % (8 : Nat))), V.i 3, V.i (gi hx ((m' + (7 : Nat)) % (8 : Nat))), V.i (gi hx ((m' + (6 : Nat)) % (8 : Nat))), V.i (gi hx ((m' + (5 : Nat)) % (8 : Nat))), V.i (gi hx ((m' + (4 : Nat)) % (8 : Nat))), V.i (gi hx ((m' + (3 : Nat)) % (8 : Nat))), V.i (gi hx ((m' + (2 : Nat)) % (8 : Nat))), V.i (gi hx ((m' + (1 : Nat)) % (8 : Nat))), V.i (gi hx (m' % (8 : Nat))), V.i (↑m' : Int), (yyFA38 c), (yyFA39 c), V.i (Cv.share c)]
abbrev yyFA314 (c : Cv) (hy : List Int) (hx : List Int) (m' : Nat) (n : Int) : Ob := Ob.box 292 [V.i (gi hy (((3 : Nat) + (7 : Nat)) % (8 : Nat))), V.i (gi hy (((3 : Nat) + (6 : Nat)) % (8 : Nat))), V.i (gi hy (((3 : Nat) + (5 : Nat)) % (8 : Nat))), V.i n, V.i (gi hy (((3 : Nat) + (3 : Nat)) % (8 : Nat))), V.i (gi hy (((3 : Nat) + (2 : Nat)) % (8 : Nat))), V.i (gi hy (((3 : Nat) + (1 : Nat)) % (8 : Nat))), V.i (gi hy ((3 : Nat) % (8 : Nat))), V.i 4, V.i (gi hx ((m' + (7 : Nat)) % (8 : Nat))), V.i (gi hx ((m' + (6 : Nat)) % (8 : Nat))), V.i (gi hx ((m' + (5 : Nat)) % (8 : Nat))), V.i (gi hx ((m' + (4 : Nat)) % (8 : Nat))), V.i (gi hx ((m' + (3 : Nat)) % (8 : Nat))), V.i (gi hx ((m' + (2 : Nat)) % (8 : Nat))), V.i (gi hx ((m' + (1 : Nat)) % (8 : Nat))), V.i (gi hx (m' % (8 : Nat))), V.i (↑m' : Int), (yyFA38 c), (yyFA39 c), V.i (Cv.share c)]
abbrev yyFA315 (c : Cv) (hy : List Int) (hx : List Int) (m' : Nat) (n : Int) : Ob := Ob.box 292 [V.i (gi hy (((4 : Nat) + (7 : Nat)) % (8 : Nat))), V.i (gi hy (((4 : Nat) + (6 : Nat)) % (8 : Nat))), V.i (gi hy (((4 : Nat) + (5 : Nat)) % (8 : Nat))), V.i (gi hy (((4 : Nat) + (4 : Nat)) % (8 : Nat))), V.i n, V.i (gi hy (((4 : Nat) + (2 : Nat)) % (8 : Nat))), V.i (gi hy (((4 : Nat) + (1 : Nat)) % (8 : Nat))), V.i (gi hy ((4 : Nat) % (8 : Nat))), V.i 5, V.i (gi hx ((m' + (7 : Nat)) % (8 : Nat))), V.i (gi hx ((m' + (6 : Nat)) % (8 : Nat))), V.i (gi hx ((m' + (5 : Nat)) % (8 : Nat))), V.i (gi hx ((m' + (4 : Nat)) % (8 : Nat))), V.i (gi hx ((m' + (3 : Nat)) % (8 : Nat))), V.i (gi hx ((m' + (2 : Nat)) % (8 : Nat))), V.i (gi hx ((m' + (1 : Nat)) % (8 : Nat))), V.i (gi hx (m' % (8 : Nat))), V.i (↑m' : Int), (yyFA38 c), (yyFA39 c), V.i (Cv.share c)]
abbrev yyFA316 (c : Cv) (hy : List Int) (hx : List Int) (m' : Nat) (n : Int) : Ob := Ob.box 292 [V.i (gi hy (((5 : Nat) + (7 : Nat)) % (8 : Nat))), V.i (gi hy (((5 : Nat) + (6 : Nat)) % (8 : Nat))), V.i (gi hy (((5 : Nat) + (5 : Nat)) % (8 : Nat))), V.i (gi hy (((5 : Nat) + (4 : Nat)) % (8 : Nat))), V.i (gi hy (((5 : Nat) + (3 : Nat)) % (8 : Nat))), V.i n, V.i (gi hy (((5 : Nat) + (1 : Nat)) % (8 : Nat))), V.i (gi hy ((5 : Nat) % (8 : Nat))), V.i 6, V.i (gi hx ((m' + (7 : Nat)) % (8 : Nat))), V.i (gi hx ((m' + (6 : Nat)) % (8 : Nat))), V.i (gi hx ((m' + (5 : Nat)) % (8 : Nat))), V.i (gi hx ((m' + (4 : Nat)) % (8 : Nat))), V.i (gi hx ((m' + (3 : Nat)) % (8 : Nat))), V.i (gi hx ((m' + (2 : Nat)) % (8 : Nat))), V.i (gi hx ((m' + (1 : Nat)) % (8 : Nat))), V.i (gi hx (m' % (8 : Nat))), V.i (↑m' : Int), (yyFA38 c), (yyFA39 c), V.i (Cv.share c)]
abbrev yyFA317 (c : Cv) (hy : List Int) (hx : List Int) (m' : Nat) (n : Int) : Ob := Ob.box 292 [V.i (gi hy (((6 : Nat) + (7 : Nat)) % (8 : Nat))), V.i (gi hy (((6 : Nat) + (6 : Nat)) % (8 : Nat))), V.i (gi hy (((6 : Nat) + (5 : Nat)) % (8 : Nat))), V.i (gi hy (((6 : Nat) + (4 : Nat)) % (8 : Nat))), V.i (gi hy (((6 : Nat) + (3 : Nat)) % (8 : Nat))), V.i (gi hy (((6 : Nat) + (2 : Nat)) % (8 : Nat))), V.i n, V.i (gi hy ((6 : Nat) % (8 : Nat))), V.i 7, V.i (gi hx ((m' + (7 : Nat)) % (8 : Nat))), V.i (gi hx ((m' + (6 : Nat)) % (8 : Nat))), V.i (gi hx ((m' + (5 : Nat)) % (8 : Nat))), V.i (gi hx ((m' + (4 : Nat)) % (8 : Nat))), V.i (gi hx ((m' + (3 : Nat)) % (8 : Nat))), V.i (gi hx ((m' + (2 : Nat)) % (8 : Nat))), V.i (gi hx ((m' + (1 : Nat)) % (8 : Nat))), V.i (gi hx (m' % (8 : Nat))), V.i (↑m' : Int), (yyFA38 c), (yyFA39 c), V.i (Cv.share c)]
set_option maxRecDepth 100000 in
theorem putO_ac (c : Cv) (hy hx : List Int) (m m' : Nat) (n : Int) (hm : m < 8) : AM Tryz.prog 176 [.ref 500 0, .i n] [StO c hy hx m m'] (.tup []) [some (StO c (n :: hy) hx ((m + 1) % 8) m')] [] := by
 have hm2 : m = 0 ∨ m = 1 ∨ m = 2 ∨ m = 3 ∨ m = 4 ∨ m = 5 ∨ m = 6 ∨ m = 7 := by omega
 rcases hm2 with rfl | rfl | rfl | rfl | rfl | rfl | rfl | rfl
 ·
  refine am_intro hTT hMX (fn := Tryz.f176) (N := _) ⟨Tryz.func176, rfl, Tryz.ntmps176, kR⟩ (by simp) rfl (by simp) (by simp) fun C hF => ?_
  refine aw_seq_k fun K hK => wD 2 ?_; refine aX hTT 10 [(4, .c qFA32), (8, .c ((0 : Int) ≤ (0 : Int) ∧ (0 : Int) < (↑(8 : Nat) : Int))), (9, .r (pw ((0 : Nat) + (1 : Nat) ≤ (21 : Nat)) (500 : Nat) (Ob.box 292 [V.i n, V.i (gi hy (((0 : Nat) + (6 : Nat)) % (8 : Nat))), V.i (gi hy (((0 : Nat) + (5 : Nat)) % (8 : Nat))), V.i (gi hy (((0 : Nat) + (4 : Nat)) % (8 : Nat))), V.i (gi hy (((0 : Nat) + (3 : Nat)) % (8 : Nat))), V.i (gi hy (((0 : Nat) + (2 : Nat)) % (8 : Nat))), V.i (gi hy (((0 : Nat) + (1 : Nat)) % (8 : Nat))), V.i (gi hy ((0 : Nat) % (8 : Nat))), V.i 0, V.i (gi hx ((m' + (7 : Nat)) % (8 : Nat))), V.i (gi hx ((m' + (6 : Nat)) % (8 : Nat))), V.i (gi hx ((m' + (5 : Nat)) % (8 : Nat))), V.i (gi hx ((m' + (4 : Nat)) % (8 : Nat))), V.i (gi hx ((m' + (3 : Nat)) % (8 : Nat))), V.i (gi hx ((m' + (2 : Nat)) % (8 : Nat))), V.i (gi hx ((m' + (1 : Nat)) % (8 : Nat))), V.i (gi hx (m' % (8 : Nat))), V.i (↑m' : Int), (yyFA38 c), (yyFA39 c), V.i (Cv.share c)])))] ⟨qFA32_, oM, oM, tI⟩ ?_; refine aops_nil ⟨kR, ?_⟩; refine xt_n (hK _ ?_); clear hK K; refine wR 3 ?_; refine aX hTT 10 [(4, .c qFA32), (5, .i ((0 : Int) + (1 : Int))), (6, .c qFA30), (9, .r (pw ((8 : Nat) + (1 : Nat) ≤ (21 : Nat)) (500 : Nat) ((yyFA311 c hy hx m' n))))] ⟨qFA32_, oM, qFA30_, oM, tI⟩ ?_; refine aops_nil ?_
  refine retM (v' := V.tup []) [] [] (.inl rfl) .nil (.cons ⟨(yyFA311 c hy hx m' n), kR, .box kR⟩ .nil) kR kR kR kR kR kR kR
 ·
  refine am_intro hTT hMX (fn := Tryz.f176) (N := _) ⟨Tryz.func176, rfl, Tryz.ntmps176, kR⟩ (by simp) rfl (by simp) (by simp) fun C hF => ?_
  refine aw_seq_k fun K hK => wD 2 ?_; refine aX hTT 10 [(4, .c qFA32), (8, .c ((0 : Int) ≤ (1 : Int) ∧ (1 : Int) < (↑(8 : Nat) : Int))), (9, .r (pw ((1 : Nat) + (1 : Nat) ≤ (21 : Nat)) (500 : Nat) (Ob.box 292 [V.i (gi hy (((1 : Nat) + (7 : Nat)) % (8 : Nat))), V.i n, V.i (gi hy (((1 : Nat) + (5 : Nat)) % (8 : Nat))), V.i (gi hy (((1 : Nat) + (4 : Nat)) % (8 : Nat))), V.i (gi hy (((1 : Nat) + (3 : Nat)) % (8 : Nat))), V.i (gi hy (((1 : Nat) + (2 : Nat)) % (8 : Nat))), V.i (gi hy (((1 : Nat) + (1 : Nat)) % (8 : Nat))), V.i (gi hy ((1 : Nat) % (8 : Nat))), V.i 1, V.i (gi hx ((m' + (7 : Nat)) % (8 : Nat))), V.i (gi hx ((m' + (6 : Nat)) % (8 : Nat))), V.i (gi hx ((m' + (5 : Nat)) % (8 : Nat))), V.i (gi hx ((m' + (4 : Nat)) % (8 : Nat))), V.i (gi hx ((m' + (3 : Nat)) % (8 : Nat))), V.i (gi hx ((m' + (2 : Nat)) % (8 : Nat))), V.i (gi hx ((m' + (1 : Nat)) % (8 : Nat))), V.i (gi hx (m' % (8 : Nat))), V.i (↑m' : Int), (yyFA38 c), (yyFA39 c), V.i (Cv.share c)])))] ⟨qFA32_, oM, oM, tI⟩ ?_; refine aops_nil ⟨kR, ?_⟩; refine xt_n (hK _ ?_); clear hK K; refine wR 3 ?_; refine aX hTT 10 [(4, .c qFA32), (5, .i ((1 : Int) + (1 : Int))), (6, .c qFA30), (9, .r (pw ((8 : Nat) + (1 : Nat) ≤ (21 : Nat)) (500 : Nat) ((yyFA312 c hy hx m' n))))] ⟨qFA32_, oM, qFA30_, oM, tI⟩ ?_; refine aops_nil ?_
  refine retM (v' := V.tup []) [] [] (.inl rfl) .nil (.cons ⟨(yyFA312 c hy hx m' n), kR, .box kR⟩ .nil) kR kR kR kR kR kR kR
 ·
  refine am_intro hTT hMX (fn := Tryz.f176) (N := _) ⟨Tryz.func176, rfl, Tryz.ntmps176, kR⟩ (by simp) rfl (by simp) (by simp) fun C hF => ?_
  refine aw_seq_k fun K hK => wD 2 ?_; refine aX hTT 10 [(4, .c qFA32), (8, .c ((0 : Int) ≤ (2 : Int) ∧ (2 : Int) < (↑(8 : Nat) : Int))), (9, .r (pw ((2 : Nat) + (1 : Nat) ≤ (21 : Nat)) (500 : Nat) (Ob.box 292 [V.i (gi hy (((2 : Nat) + (7 : Nat)) % (8 : Nat))), V.i (gi hy (((2 : Nat) + (6 : Nat)) % (8 : Nat))), V.i n, V.i (gi hy (((2 : Nat) + (4 : Nat)) % (8 : Nat))), V.i (gi hy (((2 : Nat) + (3 : Nat)) % (8 : Nat))), V.i (gi hy (((2 : Nat) + (2 : Nat)) % (8 : Nat))), V.i (gi hy (((2 : Nat) + (1 : Nat)) % (8 : Nat))), V.i (gi hy ((2 : Nat) % (8 : Nat))), V.i 2, V.i (gi hx ((m' + (7 : Nat)) % (8 : Nat))), V.i (gi hx ((m' + (6 : Nat)) % (8 : Nat))), V.i (gi hx ((m' + (5 : Nat)) % (8 : Nat))), V.i (gi hx ((m' + (4 : Nat)) % (8 : Nat))), V.i (gi hx ((m' + (3 : Nat)) % (8 : Nat))), V.i (gi hx ((m' + (2 : Nat)) % (8 : Nat))), V.i (gi hx ((m' + (1 : Nat)) % (8 : Nat))), V.i (gi hx (m' % (8 : Nat))), V.i (↑m' : Int), (yyFA38 c), (yyFA39 c), V.i (Cv.share c)])))] ⟨qFA32_, oM, oM, tI⟩ ?_; refine aops_nil ⟨kR, ?_⟩; refine xt_n (hK _ ?_); clear hK K; refine wR 3 ?_; refine aX hTT 10 [(4, .c qFA32), (5, .i ((2 : Int) + (1 : Int))), (6, .c qFA30), (9, .r (pw ((8 : Nat) + (1 : Nat) ≤ (21 : Nat)) (500 : Nat) ((yyFA313 c hy hx m' n))))] ⟨qFA32_, oM, qFA30_, oM, tI⟩ ?_; refine aops_nil ?_
  refine retM (v' := V.tup []) [] [] (.inl rfl) .nil (.cons ⟨(yyFA313 c hy hx m' n), kR, .box kR⟩ .nil) kR kR kR kR kR kR kR
 ·
  refine am_intro hTT hMX (fn := Tryz.f176) (N := _) ⟨Tryz.func176, rfl, Tryz.ntmps176, kR⟩ (by simp) rfl (by simp) (by simp) fun C hF => ?_
  refine aw_seq_k fun K hK => wD 2 ?_; refine aX hTT 10 [(4, .c qFA32), (8, .c ((0 : Int) ≤ (3 : Int) ∧ (3 : Int) < (↑(8 : Nat) : Int))), (9, .r (pw ((3 : Nat) + (1 : Nat) ≤ (21 : Nat)) (500 : Nat) (Ob.box 292 [V.i (gi hy (((3 : Nat) + (7 : Nat)) % (8 : Nat))), V.i (gi hy (((3 : Nat) + (6 : Nat)) % (8 : Nat))), V.i (gi hy (((3 : Nat) + (5 : Nat)) % (8 : Nat))), V.i n, V.i (gi hy (((3 : Nat) + (3 : Nat)) % (8 : Nat))), V.i (gi hy (((3 : Nat) + (2 : Nat)) % (8 : Nat))), V.i (gi hy (((3 : Nat) + (1 : Nat)) % (8 : Nat))), V.i (gi hy ((3 : Nat) % (8 : Nat))), V.i 3, V.i (gi hx ((m' + (7 : Nat)) % (8 : Nat))), V.i (gi hx ((m' + (6 : Nat)) % (8 : Nat))), V.i (gi hx ((m' + (5 : Nat)) % (8 : Nat))), V.i (gi hx ((m' + (4 : Nat)) % (8 : Nat))), V.i (gi hx ((m' + (3 : Nat)) % (8 : Nat))), V.i (gi hx ((m' + (2 : Nat)) % (8 : Nat))), V.i (gi hx ((m' + (1 : Nat)) % (8 : Nat))), V.i (gi hx (m' % (8 : Nat))), V.i (↑m' : Int), (yyFA38 c), (yyFA39 c), V.i (Cv.share c)])))] ⟨qFA32_, oM, oM, tI⟩ ?_; refine aops_nil ⟨kR, ?_⟩; refine xt_n (hK _ ?_); clear hK K; refine wR 3 ?_; refine aX hTT 10 [(4, .c qFA32), (5, .i ((3 : Int) + (1 : Int))), (6, .c qFA30), (9, .r (pw ((8 : Nat) + (1 : Nat) ≤ (21 : Nat)) (500 : Nat) ((yyFA314 c hy hx m' n))))] ⟨qFA32_, oM, qFA30_, oM, tI⟩ ?_; refine aops_nil ?_
  refine retM (v' := V.tup []) [] [] (.inl rfl) .nil (.cons ⟨(yyFA314 c hy hx m' n), kR, .box kR⟩ .nil) kR kR kR kR kR kR kR
 ·
  refine am_intro hTT hMX (fn := Tryz.f176) (N := _) ⟨Tryz.func176, rfl, Tryz.ntmps176, kR⟩ (by simp) rfl (by simp) (by simp) fun C hF => ?_
  refine aw_seq_k fun K hK => wD 2 ?_; refine aX hTT 10 [(4, .c qFA32), (8, .c ((0 : Int) ≤ (4 : Int) ∧ (4 : Int) < (↑(8 : Nat) : Int))), (9, .r (pw ((4 : Nat) + (1 : Nat) ≤ (21 : Nat)) (500 : Nat) (Ob.box 292 [V.i (gi hy (((4 : Nat) + (7 : Nat)) % (8 : Nat))), V.i (gi hy (((4 : Nat) + (6 : Nat)) % (8 : Nat))), V.i (gi hy (((4 : Nat) + (5 : Nat)) % (8 : Nat))), V.i (gi hy (((4 : Nat) + (4 : Nat)) % (8 : Nat))), V.i n, V.i (gi hy (((4 : Nat) + (2 : Nat)) % (8 : Nat))), V.i (gi hy (((4 : Nat) + (1 : Nat)) % (8 : Nat))), V.i (gi hy ((4 : Nat) % (8 : Nat))), V.i 4, V.i (gi hx ((m' + (7 : Nat)) % (8 : Nat))), V.i (gi hx ((m' + (6 : Nat)) % (8 : Nat))), V.i (gi hx ((m' + (5 : Nat)) % (8 : Nat))), V.i (gi hx ((m' + (4 : Nat)) % (8 : Nat))), V.i (gi hx ((m' + (3 : Nat)) % (8 : Nat))), V.i (gi hx ((m' + (2 : Nat)) % (8 : Nat))), V.i (gi hx ((m' + (1 : Nat)) % (8 : Nat))), V.i (gi hx (m' % (8 : Nat))), V.i (↑m' : Int), (yyFA38 c), (yyFA39 c), V.i (Cv.share c)])))] ⟨qFA32_, oM, oM, tI⟩ ?_; refine aops_nil ⟨kR, ?_⟩; refine xt_n (hK _ ?_); clear hK K; refine wR 3 ?_; refine aX hTT 10 [(4, .c qFA32), (5, .i ((4 : Int) + (1 : Int))), (6, .c qFA30), (9, .r (pw ((8 : Nat) + (1 : Nat) ≤ (21 : Nat)) (500 : Nat) ((yyFA315 c hy hx m' n))))] ⟨qFA32_, oM, qFA30_, oM, tI⟩ ?_; refine aops_nil ?_
  refine retM (v' := V.tup []) [] [] (.inl rfl) .nil (.cons ⟨(yyFA315 c hy hx m' n), kR, .box kR⟩ .nil) kR kR kR kR kR kR kR
 ·
  refine am_intro hTT hMX (fn := Tryz.f176) (N := _) ⟨Tryz.func176, rfl, Tryz.ntmps176, kR⟩ (by simp) rfl (by simp) (by simp) fun C hF => ?_
  refine aw_seq_k fun K hK => wD 2 ?_; refine aX hTT 10 [(4, .c qFA32), (8, .c ((0 : Int) ≤ (5 : Int) ∧ (5 : Int) < (↑(8 : Nat) : Int))), (9, .r (pw ((5 : Nat) + (1 : Nat) ≤ (21 : Nat)) (500 : Nat) (Ob.box 292 [V.i (gi hy (((5 : Nat) + (7 : Nat)) % (8 : Nat))), V.i (gi hy (((5 : Nat) + (6 : Nat)) % (8 : Nat))), V.i (gi hy (((5 : Nat) + (5 : Nat)) % (8 : Nat))), V.i (gi hy (((5 : Nat) + (4 : Nat)) % (8 : Nat))), V.i (gi hy (((5 : Nat) + (3 : Nat)) % (8 : Nat))), V.i n, V.i (gi hy (((5 : Nat) + (1 : Nat)) % (8 : Nat))), V.i (gi hy ((5 : Nat) % (8 : Nat))), V.i 5, V.i (gi hx ((m' + (7 : Nat)) % (8 : Nat))), V.i (gi hx ((m' + (6 : Nat)) % (8 : Nat))), V.i (gi hx ((m' + (5 : Nat)) % (8 : Nat))), V.i (gi hx ((m' + (4 : Nat)) % (8 : Nat))), V.i (gi hx ((m' + (3 : Nat)) % (8 : Nat))), V.i (gi hx ((m' + (2 : Nat)) % (8 : Nat))), V.i (gi hx ((m' + (1 : Nat)) % (8 : Nat))), V.i (gi hx (m' % (8 : Nat))), V.i (↑m' : Int), (yyFA38 c), (yyFA39 c), V.i (Cv.share c)])))] ⟨qFA32_, oM, oM, tI⟩ ?_; refine aops_nil ⟨kR, ?_⟩; refine xt_n (hK _ ?_); clear hK K; refine wR 3 ?_; refine aX hTT 10 [(4, .c qFA32), (5, .i ((5 : Int) + (1 : Int))), (6, .c qFA30), (9, .r (pw ((8 : Nat) + (1 : Nat) ≤ (21 : Nat)) (500 : Nat) ((yyFA316 c hy hx m' n))))] ⟨qFA32_, oM, qFA30_, oM, tI⟩ ?_; refine aops_nil ?_
  refine retM (v' := V.tup []) [] [] (.inl rfl) .nil (.cons ⟨(yyFA316 c hy hx m' n), kR, .box kR⟩ .nil) kR kR kR kR kR kR kR
 ·
  refine am_intro hTT hMX (fn := Tryz.f176) (N := _) ⟨Tryz.func176, rfl, Tryz.ntmps176, kR⟩ (by simp) rfl (by simp) (by simp) fun C hF => ?_
  refine aw_seq_k fun K hK => wD 2 ?_; refine aX hTT 10 [(4, .c qFA32), (8, .c ((0 : Int) ≤ (6 : Int) ∧ (6 : Int) < (↑(8 : Nat) : Int))), (9, .r (pw ((6 : Nat) + (1 : Nat) ≤ (21 : Nat)) (500 : Nat) (Ob.box 292 [V.i (gi hy (((6 : Nat) + (7 : Nat)) % (8 : Nat))), V.i (gi hy (((6 : Nat) + (6 : Nat)) % (8 : Nat))), V.i (gi hy (((6 : Nat) + (5 : Nat)) % (8 : Nat))), V.i (gi hy (((6 : Nat) + (4 : Nat)) % (8 : Nat))), V.i (gi hy (((6 : Nat) + (3 : Nat)) % (8 : Nat))), V.i (gi hy (((6 : Nat) + (2 : Nat)) % (8 : Nat))), V.i n, V.i (gi hy ((6 : Nat) % (8 : Nat))), V.i 6, V.i (gi hx ((m' + (7 : Nat)) % (8 : Nat))), V.i (gi hx ((m' + (6 : Nat)) % (8 : Nat))), V.i (gi hx ((m' + (5 : Nat)) % (8 : Nat))), V.i (gi hx ((m' + (4 : Nat)) % (8 : Nat))), V.i (gi hx ((m' + (3 : Nat)) % (8 : Nat))), V.i (gi hx ((m' + (2 : Nat)) % (8 : Nat))), V.i (gi hx ((m' + (1 : Nat)) % (8 : Nat))), V.i (gi hx (m' % (8 : Nat))), V.i (↑m' : Int), (yyFA38 c), (yyFA39 c), V.i (Cv.share c)])))] ⟨qFA32_, oM, oM, tI⟩ ?_; refine aops_nil ⟨kR, ?_⟩; refine xt_n (hK _ ?_); clear hK K; refine wR 3 ?_; refine aX hTT 10 [(4, .c qFA32), (5, .i ((6 : Int) + (1 : Int))), (6, .c qFA30), (9, .r (pw ((8 : Nat) + (1 : Nat) ≤ (21 : Nat)) (500 : Nat) ((yyFA317 c hy hx m' n))))] ⟨qFA32_, oM, qFA30_, oM, tI⟩ ?_; refine aops_nil ?_
  refine retM (v' := V.tup []) [] [] (.inl rfl) .nil (.cons ⟨(yyFA317 c hy hx m' n), kR, .box kR⟩ .nil) kR kR kR kR kR kR kR
 ·
  refine am_intro hTT hMX (fn := Tryz.f176) (N := _) ⟨Tryz.func176, rfl, Tryz.ntmps176, kR⟩ (by simp) rfl (by simp) (by simp) fun C hF => ?_
  refine aw_seq_k fun K hK => wD 2 ?_; refine aX hTT 10 [(4, .c qFA32), (8, .c ((0 : Int) ≤ (7 : Int) ∧ (7 : Int) < (↑(8 : Nat) : Int))), (9, .r (pw ((7 : Nat) + (1 : Nat) ≤ (21 : Nat)) (500 : Nat) (Ob.box 292 [V.i (gi hy (((7 : Nat) + (7 : Nat)) % (8 : Nat))), V.i (gi hy (((7 : Nat) + (6 : Nat)) % (8 : Nat))), V.i (gi hy (((7 : Nat) + (5 : Nat)) % (8 : Nat))), V.i (gi hy (((7 : Nat) + (4 : Nat)) % (8 : Nat))), V.i (gi hy (((7 : Nat) + (3 : Nat)) % (8 : Nat))), V.i (gi hy (((7 : Nat) + (2 : Nat)) % (8 : Nat))), V.i (gi hy (((7 : Nat) + (1 : Nat)) % (8 : Nat))), V.i n, V.i 7, V.i (gi hx ((m' + (7 : Nat)) % (8 : Nat))), V.i (gi hx ((m' + (6 : Nat)) % (8 : Nat))), V.i (gi hx ((m' + (5 : Nat)) % (8 : Nat))), V.i (gi hx ((m' + (4 : Nat)) % (8 : Nat))), V.i (gi hx ((m' + (3 : Nat)) % (8 : Nat))), V.i (gi hx ((m' + (2 : Nat)) % (8 : Nat))), V.i (gi hx ((m' + (1 : Nat)) % (8 : Nat))), V.i (gi hx (m' % (8 : Nat))), V.i (↑m' : Int), (yyFA38 c), (yyFA39 c), V.i (Cv.share c)])))] ⟨qFA32_, oM, oM, tI⟩ ?_; refine aops_nil ⟨kR, ?_⟩; refine xt_n (hK _ ?_); clear hK K; refine wR 3 ?_; refine aX hTT 10 [(4, .c qFA32), (5, .i ((7 : Int) + (1 : Int))), (6, .c qFA30), (9, .r (pw ((8 : Nat) + (1 : Nat) ≤ (21 : Nat)) (500 : Nat) ((yyFA310 c hy hx m' n))))] ⟨qFA32_, oM, qFA30_, oM, tI⟩ ?_; refine aops_nil ?_
  refine retM (v' := V.tup []) [] [] (.inl rfl) .nil (.cons ⟨(yyFA310 c hy hx m' n), kR, .box kR⟩ .nil) kR kR kR kR kR kR kR
abbrev yyFA319 (c : Cv) (hy : List Int) (hx : List Int) (m : Nat) (m' : Nat) : Ob := Ob.box 292 [V.i (gi hy ((m + (7 : Nat)) % (8 : Nat))), V.i (gi hy ((m + (6 : Nat)) % (8 : Nat))), V.i (gi hy ((m + (5 : Nat)) % (8 : Nat))), V.i (gi hy ((m + (4 : Nat)) % (8 : Nat))), V.i (gi hy ((m + (3 : Nat)) % (8 : Nat))), V.i (gi hy ((m + (2 : Nat)) % (8 : Nat))), V.i (gi hy ((m + (1 : Nat)) % (8 : Nat))), V.i (gi hy (m % (8 : Nat))), V.i (↑m : Int), V.i (gi hx ((m' + (7 : Nat)) % (8 : Nat))), V.i (gi hx ((m' + (6 : Nat)) % (8 : Nat))), V.i (gi hx ((m' + (5 : Nat)) % (8 : Nat))), V.i (gi hx ((m' + (4 : Nat)) % (8 : Nat))), V.i (gi hx ((m' + (3 : Nat)) % (8 : Nat))), V.i (gi hx ((m' + (2 : Nat)) % (8 : Nat))), V.i (gi hx ((m' + (1 : Nat)) % (8 : Nat))), V.i (gi hx (m' % (8 : Nat))), V.i (↑m' : Int), (yyFA38 c), (yyFA39 c), V.i (Cv.share c)]
abbrev yyFA318 (c : Cv) (hy : List Int) (hx : List Int) (m : Nat) (m' : Nat) := (500, (yyFA319 c hy hx m m'))
set_option maxRecDepth 100000 in
theorem weighI_ac (c : Cv) (hy hx : List Int) (m m' : Nat) (w : List Int) (n : Int) (hm : m' < 8) (hw : AllLe 4096 w) (hl : w.length ≤ 8) (hn : 0 ≤ n ∧ n ≤ 131072) (hh : AllLe n hx) : AM Tryz.prog 186 [.ref 500 9, V.ints w] [StO c hy hx m m'] (.i (dot w hx w.length)) [some (StO c hy hx m m')] [] := by
 refine am_intro hTT hMX (fn := Tryz.f186) (N := _) ⟨Tryz.func186, rfl, Tryz.ntmps186, kR⟩ (by simp) rfl (by simp) (by simp) fun C hF => ?_
 refine aw_seq_k fun K hK => wR 2 ?_; refine aX hTT 1 [] tI ?_; refine aops_nil (xt_n (hK _ ?_)); clear hK K; refine aw_seq_k fun K hK => wR 3 ?_; refine aX hTT 1 [] tI ?_; refine aops_nil (xt_n (hK _ ?_)); clear hK K; refine aw_seq_k fun K hK => ?_; refine aw_seq_k fun K hK => wR 4 ?_; refine aX hTT 3 [] tI ?_; refine aops_nil (xt_n (hK _ ?_)); clear hK K
 refine aw_block ?_
 refine w_loop (ι := Nat) (fun k => [(0, .ref 500 9), (5, .i (dot w hx k)), (8, V.ints w), (9, .i w.length), (10, .i k)]) (fun _ => [(500, StO c hy hx m m')]) (fun k => k ≤ w.length) (fun k => w.length - k) 0 (Nat.zero_le _) ?_ ?_
 ·
  refine le_ren (sl := [(yyFA318 c hy hx m m')]) [] (.cons kR (.cons kR (.cons kR (.cons kR (.cons kR .nil))))) (.cons ⟨(yyFA319 c hy hx m m'), kR, .box kR⟩ .nil) kR kR
 intro k hk
 have d1 := dot_bd (by decide) hn.1 hw hh k
 have d2 := mul_bd (hw.gi (by decide) k) (hh.gi hn.1 k)
 have e1 : (k : Int) * (4096 * n) ≤ 8 * (4096 * n) := Int.mul_le_mul_of_nonneg_right oM oM
 refine aw_seq_k fun K hK => wR 2 ?_; refine aX hTT 1 [] tI ?_; refine aops_nil (xt_n (hK _ ?_)); clear hK K; refine aw_seq_k fun K hK => ?_
 refine w_cond (t := decide ((↑k : Int) < (↑(List.length w) : Int))) kR (fun c1 => ?_) (fun c1 => ?_)
 ·
  simp at c1
  have hj : (((m' : Nat) : Int) + 8 - 1 - (k : Int)).tmod 8 = ((m' + 7 - k) % 8 : Nat) := by
   rw [Int.tmod_eq_emod_of_nonneg oM]
   omega
  have hi : (m' + (7 - (m' + 7 - k) % 8)) % 8 = k := by omega
  have hlt : (m' + 7 - k) % 8 < 8 := by omega
  rw [show gi hx k = gi hx ((m' + (7 - (m' + 7 - k) % 8)) % 8) by rw [hi]] at d2
  have hd : dot w hx (k + 1) = dot w hx k + gi w k * gi hx ((m' + (7 - (m' + 7 - k) % 8)) % 8) := by rw [hi]; rfl
  clear hi
  generalize (m' + 7 - k) % 8 = j at hj hlt hd d2
  have hj8 : j = 0 ∨ j = 1 ∨ j = 2 ∨ j = 3 ∨ j = 4 ∨ j = 5 ∨ j = 6 ∨ j = 7 := by omega
  refine aw_skip ?_
  refine xt_n (hK _ ?_); clear hK K; refine aw_seq_k fun K hK => ?_
  refine aw_block ?_
  refine aw_seq_k fun K hK => wR 3 ?_; refine aX hTT 5 [(1, .c ((0 : Int) ≤ (↑k : Int) ∧ (↑k : Int) < (↑(List.length w) : Int)))] ⟨oM, tI⟩ ?_; refine aops_nil (xt_n (hK _ ?_)); clear hK K; refine wD 4 ?_
  refine aops_n hTT (M := []) (n := 15) [pv 15 (V.i (dot w hx k)), pv 16 (V.i (gi w k)), pv 17 (V.ref 500 9), pv 18 (V.ref 500 9), pv 19 (V.ref 500 9), pv 20 (V.ref 500 17), pc 21 ((17 : Nat) ≤ (21 : Nat)) (V.i (↑m' : Int)), pc 22 ((-9223372036854775808 : Int) ≤ (↑m' : Int) + (8 : Int) ∧ (↑m' : Int) + (8 : Int) ≤ (9223372036854775807 : Int)) (V.i ((↑m' : Int) + (8 : Int))), pc 23 ((-9223372036854775808 : Int) ≤ (↑m' : Int) + (8 : Int) - (1 : Int) ∧ (↑m' : Int) + (8 : Int) - (1 : Int) ≤ (9223372036854775807 : Int)) (V.i ((↑m' : Int) + (8 : Int) - (1 : Int))), pv 24 (V.i (↑k : Int)), pc 25 ((-9223372036854775808 : Int) ≤ (↑m' : Int) + (8 : Int) - (1 : Int) - (↑k : Int) ∧ (↑m' : Int) + (8 : Int) - (1 : Int) - (↑k : Int) ≤ (9223372036854775807 : Int)) (V.i ((↑m' : Int) + (8 : Int) - (1 : Int) - (↑k : Int))), pc 26 ((8 : Int) ≠ (0 : Int)) (V.i (Int.tmod ((↑m' : Int) + (8 : Int) - (1 : Int) - (↑k : Int)) (8 : Int))), pv 27 (V.ref 500 9), pv 28 (V.ref 500 9), pc 29 ((0 : Int) ≤ Int.tmod ((↑m' : Int) + (8 : Int) - (1 : Int) - (↑k : Int)) (8 : Int) ∧ Int.tmod ((↑m' : Int) + (8 : Int) - (1 : Int) - (↑k : Int)) (8 : Int) < (↑(8 : Nat) : Int)) (V.ref 500 ((9 : Nat) + Int.toNat (Int.tmod ((↑m' : Int) + (8 : Int) - (1 : Int) - (↑k : Int)) (8 : Int)) * (1 : Nat)))] kR kR ⟨oM, oM, oM, oM, oM, oM, tI⟩ ?_
  rcases hj8 with rfl | rfl | rfl | rfl | rfl | rfl | rfl | rfl
  ·
   simp only [Nat.reduceSub] at d2 hd
   skip
   rw [hj]
   refine aops_n hTT (M := []) (n := 4) [pc 30 ((9 : Nat) + (0 : Nat) * (1 : Nat) ≤ (21 : Nat)) (V.i (gi hx ((m' + (7 : Nat)) % (8 : Nat)))), pc 31 ((-9223372036854775808 : Int) ≤ gi w k * gi hx ((m' + (7 : Nat)) % (8 : Nat)) ∧ gi w k * gi hx ((m' + (7 : Nat)) % (8 : Nat)) ≤ (9223372036854775807 : Int)) (V.i (gi w k * gi hx ((m' + (7 : Nat)) % (8 : Nat)))), pc 32 ((-9223372036854775808 : Int) ≤ dot w hx k + gi w k * gi hx ((m' + (7 : Nat)) % (8 : Nat)) ∧ dot w hx k + gi w k * gi hx ((m' + (7 : Nat)) % (8 : Nat)) ≤ (9223372036854775807 : Int)) (V.i (dot w hx k + gi w k * gi hx ((m' + (7 : Nat)) % (8 : Nat)))), pv 5 (V.i (dot w hx k + gi w k * gi hx ((m' + (7 : Nat)) % (8 : Nat))))] kR kR ⟨oM, oM, oM, tI⟩ ?_
   refine aops_nil ⟨kR, ?_⟩; refine xb_n ?_; refine xt_n (hK _ ?_); clear hK K; refine wR 5 ?_; refine aX hTT 2 [(0, .i ((↑k : Int) + (1 : Int)))] ⟨oM, tI⟩ ?_; refine aops_nil ?_; refine xt_n ?_
   refine ⟨k + 1, by omega, ?_, by omega⟩
   rw [hd]
   refine le_ren (sl := [(yyFA318 c hy hx m m')]) [] (.cons kR (.cons kR (.cons kR (.cons kR (.cons kR .nil))))) (.cons ⟨(yyFA319 c hy hx m m'), kR, .box kR⟩ .nil) kR kR
  ·
   simp only [Nat.reduceSub] at d2 hd
   skip
   rw [hj]
   refine aX hTT 4 [(0, .c ((9 : Nat) + (1 : Nat) * (1 : Nat) ≤ (21 : Nat))), (1, .i (gi w k * gi hx ((m' + (6 : Nat)) % (8 : Nat)))), (2, .i (dot w hx k + gi w k * gi hx ((m' + (6 : Nat)) % (8 : Nat))))] ⟨oM, oM, oM, tI⟩ ?_; refine aops_nil ⟨kR, ?_⟩; refine xb_n ?_; refine xt_n (hK _ ?_); clear hK K; refine wR 5 ?_; refine aX hTT 2 [(0, .i ((↑k : Int) + (1 : Int)))] ⟨oM, tI⟩ ?_; refine aops_nil ?_; refine xt_n ?_
   refine ⟨k + 1, by omega, ?_, by omega⟩
   rw [hd]
   refine le_ren (sl := [(yyFA318 c hy hx m m')]) [] (.cons kR (.cons kR (.cons kR (.cons kR (.cons kR .nil))))) (.cons ⟨(yyFA319 c hy hx m m'), kR, .box kR⟩ .nil) kR kR
  ·
   simp only [Nat.reduceSub] at d2 hd
   skip
   rw [hj]
   refine aX hTT 4 [(0, .c ((9 : Nat) + (2 : Nat) * (1 : Nat) ≤ (21 : Nat))), (1, .i (gi w k * gi hx ((m' + (5 : Nat)) % (8 : Nat)))), (2, .i (dot w hx k + gi w k * gi hx ((m' + (5 : Nat)) % (8 : Nat))))] ⟨oM, oM, oM, tI⟩ ?_; refine aops_nil ⟨kR, ?_⟩; refine xb_n ?_; refine xt_n (hK _ ?_); clear hK K; refine wR 5 ?_; refine aX hTT 2 [(0, .i ((↑k : Int) + (1 : Int)))] ⟨oM, tI⟩ ?_; refine aops_nil ?_; refine xt_n ?_
   refine ⟨k + 1, by omega, ?_, by omega⟩
   rw [hd]
   refine le_ren (sl := [(yyFA318 c hy hx m m')]) [] (.cons kR (.cons kR (.cons kR (.cons kR (.cons kR .nil))))) (.cons ⟨(yyFA319 c hy hx m m'), kR, .box kR⟩ .nil) kR kR
  ·
   simp only [Nat.reduceSub] at d2 hd
   skip
   rw [hj]
   refine aX hTT 4 [(0, .c ((9 : Nat) + (3 : Nat) * (1 : Nat) ≤ (21 : Nat))), (1, .i (gi w k * gi hx ((m' + (4 : Nat)) % (8 : Nat)))), (2, .i (dot w hx k + gi w k * gi hx ((m' + (4 : Nat)) % (8 : Nat))))] ⟨oM, oM, oM, tI⟩ ?_; refine aops_nil ⟨kR, ?_⟩; refine xb_n ?_; refine xt_n (hK _ ?_); clear hK K; refine wR 5 ?_; refine aX hTT 2 [(0, .i ((↑k : Int) + (1 : Int)))] ⟨oM, tI⟩ ?_; refine aops_nil ?_; refine xt_n ?_
   refine ⟨k + 1, by omega, ?_, by omega⟩
   rw [hd]
   refine le_ren (sl := [(yyFA318 c hy hx m m')]) [] (.cons kR (.cons kR (.cons kR (.cons kR (.cons kR .nil))))) (.cons ⟨(yyFA319 c hy hx m m'), kR, .box kR⟩ .nil) kR kR
  ·
   simp only [Nat.reduceSub] at d2 hd
   skip
   rw [hj]
   refine aX hTT 4 [(0, .c ((9 : Nat) + (4 : Nat) * (1 : Nat) ≤ (21 : Nat))), (1, .i (gi w k * gi hx ((m' + (3 : Nat)) % (8 : Nat)))), (2, .i (dot w hx k + gi w k * gi hx ((m' + (3 : Nat)) % (8 : Nat))))] ⟨oM, oM, oM, tI⟩ ?_; refine aops_nil ⟨kR, ?_⟩; refine xb_n ?_; refine xt_n (hK _ ?_); clear hK K; refine wR 5 ?_; refine aX hTT 2 [(0, .i ((↑k : Int) + (1 : Int)))] ⟨oM, tI⟩ ?_; refine aops_nil ?_; refine xt_n ?_
   refine ⟨k + 1, by omega, ?_, by omega⟩
   rw [hd]
   refine le_ren (sl := [(yyFA318 c hy hx m m')]) [] (.cons kR (.cons kR (.cons kR (.cons kR (.cons kR .nil))))) (.cons ⟨(yyFA319 c hy hx m m'), kR, .box kR⟩ .nil) kR kR
  ·
   simp only [Nat.reduceSub] at d2 hd
   skip
   rw [hj]
   refine aX hTT 4 [(0, .c ((9 : Nat) + (5 : Nat) * (1 : Nat) ≤ (21 : Nat))), (1, .i (gi w k * gi hx ((m' + (2 : Nat)) % (8 : Nat)))), (2, .i (dot w hx k + gi w k * gi hx ((m' + (2 : Nat)) % (8 : Nat))))] ⟨oM, oM, oM, tI⟩ ?_; refine aops_nil ⟨kR, ?_⟩; refine xb_n ?_; refine xt_n (hK _ ?_); clear hK K; refine wR 5 ?_; refine aX hTT 2 [(0, .i ((↑k : Int) + (1 : Int)))] ⟨oM, tI⟩ ?_; refine aops_nil ?_; refine xt_n ?_
   refine ⟨k + 1, by omega, ?_, by omega⟩
   rw [hd]
   refine le_ren (sl := [(yyFA318 c hy hx m m')]) [] (.cons kR (.cons kR (.cons kR (.cons kR (.cons kR .nil))))) (.cons ⟨(yyFA319 c hy hx m m'), kR, .box kR⟩ .nil) kR kR
  ·
   simp only [Nat.reduceSub] at d2 hd
   skip
   rw [hj]
   refine aX hTT 4 [(0, .c ((9 : Nat) + (6 : Nat) * (1 : Nat) ≤ (21 : Nat))), (1, .i (gi w k * gi hx ((m' + (1 : Nat)) % (8 : Nat)))), (2, .i (dot w hx k + gi w k * gi hx ((m' + (1 : Nat)) % (8 : Nat))))] ⟨oM, oM, oM, tI⟩ ?_; refine aops_nil ⟨kR, ?_⟩; refine xb_n ?_; refine xt_n (hK _ ?_); clear hK K; refine wR 5 ?_; refine aX hTT 2 [(0, .i ((↑k : Int) + (1 : Int)))] ⟨oM, tI⟩ ?_; refine aops_nil ?_; refine xt_n ?_
   refine ⟨k + 1, by omega, ?_, by omega⟩
   rw [hd]
   refine le_ren (sl := [(yyFA318 c hy hx m m')]) [] (.cons kR (.cons kR (.cons kR (.cons kR (.cons kR .nil))))) (.cons ⟨(yyFA319 c hy hx m m'), kR, .box kR⟩ .nil) kR kR
  ·
   simp only [Nat.reduceSub, Nat.add_zero] at d2 hd
   skip
   rw [hj]
   refine aX hTT 4 [(0, .c ((9 : Nat) + (7 : Nat) * (1 : Nat) ≤ (21 : Nat))), (1, .i (gi w k * gi hx (m' % (8 : Nat)))), (2, .i (dot w hx k + gi w k * gi hx (m' % (8 : Nat))))] ⟨oM, oM, oM, tI⟩ ?_; refine aops_nil ⟨kR, ?_⟩; refine xb_n ?_; refine xt_n (hK _ ?_); clear hK K; refine wR 5 ?_; refine aX hTT 2 [(0, .i ((↑k : Int) + (1 : Int)))] ⟨oM, tI⟩ ?_; refine aops_nil ?_; refine xt_n ?_
   refine ⟨k + 1, by omega, ?_, by omega⟩
   rw [hd]
   refine le_ren (sl := [(yyFA318 c hy hx m m')]) [] (.cons kR (.cons kR (.cons kR (.cons kR (.cons kR .nil))))) (.cons ⟨(yyFA319 c hy hx m m'), kR, .box kR⟩ .nil) kR kR
 ·
  simp at c1
  obtain rfl : k = w.length := by omega
  refine aw_exit ?_
  refine xt_x ?_; refine xt_x ?_
  refine xb_same ?_
  refine xt_n ?_; clear hK K; refine hK _ ?_; clear hK K; refine aw_seq_k fun K hK => wR 3 ?_; refine aX hTT 2 [] tI ?_; refine aops_nil (xt_n (hK _ ?_)); clear hK K
  refine aw_ret ?_
  refine retM (v' := V.i (dot w hx (List.length w))) [] [(4, V.i (dot w hx (List.length w)))] (.inr rfl) (.cons kR .nil) (.cons ⟨(yyFA319 c hy hx m m'), kR, .box kR⟩ .nil) kR kR kR kR kR kR kR
set_option maxRecDepth 100000 in
theorem weighO_ac (c : Cv) (hy hx : List Int) (m m' : Nat) (w : List Int) (n : Int) (hm : m < 8) (hw : AllLe 4096 w) (hl : w.length ≤ 8) (hn : 0 ≤ n ∧ n ≤ 131072) (hh : AllLe n hy) : AM Tryz.prog 186 [.ref 500 0, V.ints w] [StO c hy hx m m'] (.i (dot w hy w.length)) [some (StO c hy hx m m')] [] := by
 refine am_intro hTT hMX (fn := Tryz.f186) (N := _) ⟨Tryz.func186, rfl, Tryz.ntmps186, kR⟩ (by simp) rfl (by simp) (by simp) fun C hF => ?_
 refine aw_seq_k fun K hK => wR 2 ?_; refine aX hTT 1 [] tI ?_; refine aops_nil (xt_n (hK _ ?_)); clear hK K; refine aw_seq_k fun K hK => wR 3 ?_; refine aX hTT 1 [] tI ?_; refine aops_nil (xt_n (hK _ ?_)); clear hK K; refine aw_seq_k fun K hK => ?_; refine aw_seq_k fun K hK => wR 4 ?_; refine aX hTT 3 [] tI ?_; refine aops_nil (xt_n (hK _ ?_)); clear hK K
 refine aw_block ?_
 refine w_loop (ι := Nat) (fun k => [(0, .ref 500 0), (5, .i (dot w hy k)), (8, V.ints w), (9, .i w.length), (10, .i k)]) (fun _ => [(500, StO c hy hx m m')]) (fun k => k ≤ w.length) (fun k => w.length - k) 0 (Nat.zero_le _) ?_ ?_
 ·
  refine le_ren (sl := [(yyFA318 c hy hx m m')]) [] (.cons kR (.cons kR (.cons kR (.cons kR (.cons kR .nil))))) (.cons ⟨(yyFA319 c hy hx m m'), kR, .box kR⟩ .nil) kR kR
 intro k hk
 have d1 := dot_bd (by decide) hn.1 hw hh k
 have d2 := mul_bd (hw.gi (by decide) k) (hh.gi hn.1 k)
 have e1 : (k : Int) * (4096 * n) ≤ 8 * (4096 * n) := Int.mul_le_mul_of_nonneg_right oM oM
 refine aw_seq_k fun K hK => wR 2 ?_; refine aX hTT 1 [] tI ?_; refine aops_nil (xt_n (hK _ ?_)); clear hK K; refine aw_seq_k fun K hK => ?_
 refine w_cond (t := decide ((↑k : Int) < (↑(List.length w) : Int))) kR (fun c1 => ?_) (fun c1 => ?_)
 ·
  simp at c1
  have hj : (((m : Nat) : Int) + 8 - 1 - (k : Int)).tmod 8 = ((m + 7 - k) % 8 : Nat) := by
   rw [Int.tmod_eq_emod_of_nonneg oM]
   omega
  have hi : (m + (7 - (m + 7 - k) % 8)) % 8 = k := by omega
  have hlt : (m + 7 - k) % 8 < 8 := by omega
  rw [show gi hy k = gi hy ((m + (7 - (m + 7 - k) % 8)) % 8) by rw [hi]] at d2
  have hd : dot w hy (k + 1) = dot w hy k + gi w k * gi hy ((m + (7 - (m + 7 - k) % 8)) % 8) := by rw [hi]; rfl
  clear hi
  generalize (m + 7 - k) % 8 = j at hj hlt hd d2
  have hj8 : j = 0 ∨ j = 1 ∨ j = 2 ∨ j = 3 ∨ j = 4 ∨ j = 5 ∨ j = 6 ∨ j = 7 := by omega
  refine aw_skip ?_
  refine xt_n (hK _ ?_); clear hK K; refine aw_seq_k fun K hK => ?_
  refine aw_block ?_
  refine aw_seq_k fun K hK => wR 3 ?_; refine aX hTT 5 [(1, .c ((0 : Int) ≤ (↑k : Int) ∧ (↑k : Int) < (↑(List.length w) : Int)))] ⟨oM, tI⟩ ?_; refine aops_nil (xt_n (hK _ ?_)); clear hK K; refine wD 4 ?_
  refine aops_n hTT (M := []) (n := 15) [pv 15 (V.i (dot w hy k)), pv 16 (V.i (gi w k)), pv 17 (V.ref 500 0), pv 18 (V.ref 500 0), pv 19 (V.ref 500 0), pv 20 (V.ref 500 8), pc 21 ((8 : Nat) ≤ (21 : Nat)) (V.i (↑m : Int)), pc 22 ((-9223372036854775808 : Int) ≤ (↑m : Int) + (8 : Int) ∧ (↑m : Int) + (8 : Int) ≤ (9223372036854775807 : Int)) (V.i ((↑m : Int) + (8 : Int))), pc 23 ((-9223372036854775808 : Int) ≤ (↑m : Int) + (8 : Int) - (1 : Int) ∧ (↑m : Int) + (8 : Int) - (1 : Int) ≤ (9223372036854775807 : Int)) (V.i ((↑m : Int) + (8 : Int) - (1 : Int))), pv 24 (V.i (↑k : Int)), pc 25 ((-9223372036854775808 : Int) ≤ (↑m : Int) + (8 : Int) - (1 : Int) - (↑k : Int) ∧ (↑m : Int) + (8 : Int) - (1 : Int) - (↑k : Int) ≤ (9223372036854775807 : Int)) (V.i ((↑m : Int) + (8 : Int) - (1 : Int) - (↑k : Int))), pc 26 ((8 : Int) ≠ (0 : Int)) (V.i (Int.tmod ((↑m : Int) + (8 : Int) - (1 : Int) - (↑k : Int)) (8 : Int))), pv 27 (V.ref 500 0), pv 28 (V.ref 500 0), pc 29 ((0 : Int) ≤ Int.tmod ((↑m : Int) + (8 : Int) - (1 : Int) - (↑k : Int)) (8 : Int) ∧ Int.tmod ((↑m : Int) + (8 : Int) - (1 : Int) - (↑k : Int)) (8 : Int) < (↑(8 : Nat) : Int)) (V.ref 500 ((0 : Nat) + Int.toNat (Int.tmod ((↑m : Int) + (8 : Int) - (1 : Int) - (↑k : Int)) (8 : Int)) * (1 : Nat)))] kR kR ⟨oM, oM, oM, oM, oM, oM, tI⟩ ?_
  rcases hj8 with rfl | rfl | rfl | rfl | rfl | rfl | rfl | rfl
  ·
   simp only [Nat.reduceSub] at d2 hd
   skip
   rw [hj]
   refine aops_n hTT (M := []) (n := 4) [pc 30 ((0 : Nat) + (0 : Nat) * (1 : Nat) ≤ (21 : Nat)) (V.i (gi hy ((m + (7 : Nat)) % (8 : Nat)))), pc 31 ((-9223372036854775808 : Int) ≤ gi w k * gi hy ((m + (7 : Nat)) % (8 : Nat)) ∧ gi w k * gi hy ((m + (7 : Nat)) % (8 : Nat)) ≤ (9223372036854775807 : Int)) (V.i (gi w k * gi hy ((m + (7 : Nat)) % (8 : Nat)))), pc 32 ((-9223372036854775808 : Int) ≤ dot w hy k + gi w k * gi hy ((m + (7 : Nat)) % (8 : Nat)) ∧ dot w hy k + gi w k * gi hy ((m + (7 : Nat)) % (8 : Nat)) ≤ (9223372036854775807 : Int)) (V.i (dot w hy k + gi w k * gi hy ((m + (7 : Nat)) % (8 : Nat)))), pv 5 (V.i (dot w hy k + gi w k * gi hy ((m + (7 : Nat)) % (8 : Nat))))] kR kR ⟨oM, oM, oM, tI⟩ ?_
   refine aops_nil ⟨kR, ?_⟩; refine xb_n ?_; refine xt_n (hK _ ?_); clear hK K; refine wR 5 ?_; refine aX hTT 2 [(0, .i ((↑k : Int) + (1 : Int)))] ⟨oM, tI⟩ ?_; refine aops_nil ?_; refine xt_n ?_
   refine ⟨k + 1, by omega, ?_, by omega⟩
   rw [hd]
   refine le_ren (sl := [(yyFA318 c hy hx m m')]) [] (.cons kR (.cons kR (.cons kR (.cons kR (.cons kR .nil))))) (.cons ⟨(yyFA319 c hy hx m m'), kR, .box kR⟩ .nil) kR kR
  ·
   simp only [Nat.reduceSub] at d2 hd
   skip
   rw [hj]
   refine aX hTT 4 [(0, .c ((0 : Nat) + (1 : Nat) * (1 : Nat) ≤ (21 : Nat))), (1, .i (gi w k * gi hy ((m + (6 : Nat)) % (8 : Nat)))), (2, .i (dot w hy k + gi w k * gi hy ((m + (6 : Nat)) % (8 : Nat))))] ⟨oM, oM, oM, tI⟩ ?_; refine aops_nil ⟨kR, ?_⟩; refine xb_n ?_; refine xt_n (hK _ ?_); clear hK K; refine wR 5 ?_; refine aX hTT 2 [(0, .i ((↑k : Int) + (1 : Int)))] ⟨oM, tI⟩ ?_; refine aops_nil ?_; refine xt_n ?_
   refine ⟨k + 1, by omega, ?_, by omega⟩
   rw [hd]
   refine le_ren (sl := [(yyFA318 c hy hx m m')]) [] (.cons kR (.cons kR (.cons kR (.cons kR (.cons kR .nil))))) (.cons ⟨(yyFA319 c hy hx m m'), kR, .box kR⟩ .nil) kR kR
  ·
   simp only [Nat.reduceSub] at d2 hd
   skip
   rw [hj]
   refine aX hTT 4 [(0, .c ((0 : Nat) + (2 : Nat) * (1 : Nat) ≤ (21 : Nat))), (1, .i (gi w k * gi hy ((m + (5 : Nat)) % (8 : Nat)))), (2, .i (dot w hy k + gi w k * gi hy ((m + (5 : Nat)) % (8 : Nat))))] ⟨oM, oM, oM, tI⟩ ?_; refine aops_nil ⟨kR, ?_⟩; refine xb_n ?_; refine xt_n (hK _ ?_); clear hK K; refine wR 5 ?_; refine aX hTT 2 [(0, .i ((↑k : Int) + (1 : Int)))] ⟨oM, tI⟩ ?_; refine aops_nil ?_; refine xt_n ?_
   refine ⟨k + 1, by omega, ?_, by omega⟩
   rw [hd]
   refine le_ren (sl := [(yyFA318 c hy hx m m')]) [] (.cons kR (.cons kR (.cons kR (.cons kR (.cons kR .nil))))) (.cons ⟨(yyFA319 c hy hx m m'), kR, .box kR⟩ .nil) kR kR
  ·
   simp only [Nat.reduceSub] at d2 hd
   skip
   rw [hj]
   refine aX hTT 4 [(0, .c ((0 : Nat) + (3 : Nat) * (1 : Nat) ≤ (21 : Nat))), (1, .i (gi w k * gi hy ((m + (4 : Nat)) % (8 : Nat)))), (2, .i (dot w hy k + gi w k * gi hy ((m + (4 : Nat)) % (8 : Nat))))] ⟨oM, oM, oM, tI⟩ ?_; refine aops_nil ⟨kR, ?_⟩; refine xb_n ?_; refine xt_n (hK _ ?_); clear hK K; refine wR 5 ?_; refine aX hTT 2 [(0, .i ((↑k : Int) + (1 : Int)))] ⟨oM, tI⟩ ?_; refine aops_nil ?_; refine xt_n ?_
   refine ⟨k + 1, by omega, ?_, by omega⟩
   rw [hd]
   refine le_ren (sl := [(yyFA318 c hy hx m m')]) [] (.cons kR (.cons kR (.cons kR (.cons kR (.cons kR .nil))))) (.cons ⟨(yyFA319 c hy hx m m'), kR, .box kR⟩ .nil) kR kR
  ·
   simp only [Nat.reduceSub] at d2 hd
   skip
   rw [hj]
   refine aX hTT 4 [(0, .c ((0 : Nat) + (4 : Nat) * (1 : Nat) ≤ (21 : Nat))), (1, .i (gi w k * gi hy ((m + (3 : Nat)) % (8 : Nat)))), (2, .i (dot w hy k + gi w k * gi hy ((m + (3 : Nat)) % (8 : Nat))))] ⟨oM, oM, oM, tI⟩ ?_; refine aops_nil ⟨kR, ?_⟩; refine xb_n ?_; refine xt_n (hK _ ?_); clear hK K; refine wR 5 ?_; refine aX hTT 2 [(0, .i ((↑k : Int) + (1 : Int)))] ⟨oM, tI⟩ ?_; refine aops_nil ?_; refine xt_n ?_
   refine ⟨k + 1, by omega, ?_, by omega⟩
   rw [hd]
   refine le_ren (sl := [(yyFA318 c hy hx m m')]) [] (.cons kR (.cons kR (.cons kR (.cons kR (.cons kR .nil))))) (.cons ⟨(yyFA319 c hy hx m m'), kR, .box kR⟩ .nil) kR kR
  ·
   simp only [Nat.reduceSub] at d2 hd
   skip
   rw [hj]
   refine aX hTT 4 [(0, .c ((0 : Nat) + (5 : Nat) * (1 : Nat) ≤ (21 : Nat))), (1, .i (gi w k * gi hy ((m + (2 : Nat)) % (8 : Nat)))), (2, .i (dot w hy k + gi w k * gi hy ((m + (2 : Nat)) % (8 : Nat))))] ⟨oM, oM, oM, tI⟩ ?_; refine aops_nil ⟨kR, ?_⟩; refine xb_n ?_; refine xt_n (hK _ ?_); clear hK K; refine wR 5 ?_; refine aX hTT 2 [(0, .i ((↑k : Int) + (1 : Int)))] ⟨oM, tI⟩ ?_; refine aops_nil ?_; refine xt_n ?_
   refine ⟨k + 1, by omega, ?_, by omega⟩
   rw [hd]
   refine le_ren (sl := [(yyFA318 c hy hx m m')]) [] (.cons kR (.cons kR (.cons kR (.cons kR (.cons kR .nil))))) (.cons ⟨(yyFA319 c hy hx m m'), kR, .box kR⟩ .nil) kR kR
  ·
   simp only [Nat.reduceSub] at d2 hd
   skip
   rw [hj]
   refine aX hTT 4 [(0, .c ((0 : Nat) + (6 : Nat) * (1 : Nat) ≤ (21 : Nat))), (1, .i (gi w k * gi hy ((m + (1 : Nat)) % (8 : Nat)))), (2, .i (dot w hy k + gi w k * gi hy ((m + (1 : Nat)) % (8 : Nat))))] ⟨oM, oM, oM, tI⟩ ?_; refine aops_nil ⟨kR, ?_⟩; refine xb_n ?_; refine xt_n (hK _ ?_); clear hK K; refine wR 5 ?_; refine aX hTT 2 [(0, .i ((↑k : Int) + (1 : Int)))] ⟨oM, tI⟩ ?_; refine aops_nil ?_; refine xt_n ?_
   refine ⟨k + 1, by omega, ?_, by omega⟩
   rw [hd]
   refine le_ren (sl := [(yyFA318 c hy hx m m')]) [] (.cons kR (.cons kR (.cons kR (.cons kR (.cons kR .nil))))) (.cons ⟨(yyFA319 c hy hx m m'), kR, .box kR⟩ .nil) kR kR
  ·
   simp only [Nat.reduceSub, Nat.add_zero] at d2 hd
   skip
   rw [hj]
   refine aX hTT 4 [(0, .c ((0 : Nat) + (7 : Nat) * (1 : Nat) ≤ (21 : Nat))), (1, .i (gi w k * gi hy (m % (8 : Nat)))), (2, .i (dot w hy k + gi w k * gi hy (m % (8 : Nat))))] ⟨oM, oM, oM, tI⟩ ?_; refine aops_nil ⟨kR, ?_⟩; refine xb_n ?_; refine xt_n (hK _ ?_); clear hK K; refine wR 5 ?_; refine aX hTT 2 [(0, .i ((↑k : Int) + (1 : Int)))] ⟨oM, tI⟩ ?_; refine aops_nil ?_; refine xt_n ?_
   refine ⟨k + 1, by omega, ?_, by omega⟩
   rw [hd]
   refine le_ren (sl := [(yyFA318 c hy hx m m')]) [] (.cons kR (.cons kR (.cons kR (.cons kR (.cons kR .nil))))) (.cons ⟨(yyFA319 c hy hx m m'), kR, .box kR⟩ .nil) kR kR
 ·
  simp at c1
  obtain rfl : k = w.length := by omega
  refine aw_exit ?_
  refine xt_x ?_; refine xt_x ?_
  refine xb_same ?_
  refine xt_n ?_; clear hK K; refine hK _ ?_; clear hK K; refine aw_seq_k fun K hK => wR 3 ?_; refine aX hTT 2 [] tI ?_; refine aops_nil (xt_n (hK _ ?_)); clear hK K
  refine aw_ret ?_
  refine retM (v' := V.i (dot w hy (List.length w))) [] [(4, V.i (dot w hy (List.length w)))] (.inr rfl) (.cons kR .nil) (.cons ⟨(yyFA319 c hy hx m m'), kR, .box kR⟩ .nil) kR kR kR kR kR kR kR
end Go.Proofs.YtplnhbenmgclfaaGreatDoor

namespace Go.Proofs.YtplnhbenmgclfaaGreatDoor
open Go.Ab Go.RowKit Go.Dw Go.Shelf
abbrev St (c : Cv) (hy hx : List Int) (m : Nat) : Ob := StO c hy hx m m
abbrev yyFA40 (c : Cv) (hy : List Int) (hx : List Int) (m : Nat) : Ob := Ob.box 292 [V.i (gi hy ((m + (7 : Nat)) % (8 : Nat))), V.i (gi hy ((m + (6 : Nat)) % (8 : Nat))), V.i (gi hy ((m + (5 : Nat)) % (8 : Nat))), V.i (gi hy ((m + (4 : Nat)) % (8 : Nat))), V.i (gi hy ((m + (3 : Nat)) % (8 : Nat))), V.i (gi hy ((m + (2 : Nat)) % (8 : Nat))), V.i (gi hy ((m + (1 : Nat)) % (8 : Nat))), V.i (gi hy (m % (8 : Nat))), V.i (↑m : Int), V.i (gi hx ((m + (7 : Nat)) % (8 : Nat))), V.i (gi hx ((m + (6 : Nat)) % (8 : Nat))), V.i (gi hx ((m + (5 : Nat)) % (8 : Nat))), V.i (gi hx ((m + (4 : Nat)) % (8 : Nat))), V.i (gi hx ((m + (3 : Nat)) % (8 : Nat))), V.i (gi hx ((m + (2 : Nat)) % (8 : Nat))), V.i (gi hx ((m + (1 : Nat)) % (8 : Nat))), V.i (gi hx (m % (8 : Nat))), V.i (↑m : Int), V.sl 1 (List.length (Cv.feed c)) fun (k : Nat) => [V.i (gi (Cv.feed c) k)], V.sl 1 (List.length (Cv.back c)) fun (k : Nat) => [V.i (gi (Cv.back c) k)], V.i (Cv.share c)]
abbrev yyFA41 (c : Cv) (hy : List Int) (hx : List Int) := (dot (Cv.feed c) hx (List.length (Cv.feed c)) + dot (Cv.back c) hy (List.length (Cv.back c)))
set_option maxRecDepth 100000 in
theorem correction_ac (c : Cv) (hy hx : List Int) (m : Nat) (n : Int) (hc : cvOk c) (hm : m < 8) (hn : 0 ≤ n ∧ n ≤ 131072) (h1 : AllLe n hx) (h2 : AllLe n hy) : AM Tryz.prog 175 [.ref 500 0] [St c hy hx m] (.i (corr c hx hy)) [some (St c hy hx m)] [] := by
 have b := corr_bd hc hn.1 h1 h2
 obtain ⟨l1, l2, a1, a2, s1, s2⟩ := hc
 refine am_intro hTT hMX (fn := Tryz.f175) (N := _) ⟨Tryz.func175, rfl, Tryz.ntmps175, kR⟩ (by simp) rfl (by simp) (by simp) fun C hF => ?_
 refine aw_seq_k fun K hK => wR 2 ?_; refine aX hTT 1 [] tI ?_; refine aops_nil (xt_n (hK _ ?_)); clear hK K; refine aw_seq_k fun K hK => wD 3 ?_; refine aX hTT 8 [(7, .c ((18 : Nat) ≤ (21 : Nat)))] ⟨oM, tI⟩ ?_
 refine aops_callR [500] (first := []) (caps := []) (ins' := [(yyFA40 c hy hx m)]) (v' := V.i (dot (Cv.feed c) hx (List.length (Cv.feed c)))) (δ := []) (kp := [500]) (weighI_ac c hy hx m m c.feed n hm a1 l1 hn h1) kR kR kR kR kR kR kR rfl kR kR ⟨kR, tI⟩ kR kR kR ?_
 refine aX hTT 8 [(7, .c ((19 : Nat) ≤ (21 : Nat)))] ⟨oM, tI⟩ ?_
 refine aops_callR [500] (first := []) (caps := []) (ins' := [(yyFA40 c hy hx m)]) (v' := V.i (dot (Cv.back c) hy (List.length (Cv.back c)))) (δ := []) (kp := [500]) (weighO_ac c hy hx m m c.back n hm a2 l2 hn h2) kR kR kR kR kR kR kR rfl kR kR ⟨kR, tI⟩ kR kR kR ?_
 refine aops_n hTT (M := []) (n := 6) [pc 21 ((-9223372036854775808 : Int) ≤ dot (Cv.feed c) hx (List.length (Cv.feed c)) + dot (Cv.back c) hy (List.length (Cv.back c)) ∧ dot (Cv.feed c) hx (List.length (Cv.feed c)) + dot (Cv.back c) hy (List.length (Cv.back c)) ≤ (9223372036854775807 : Int)) (V.i (yyFA41 c hy hx)), pv 22 (V.ref 500 0), pv 23 (V.ref 500 0), pv 24 (V.ref 500 18), pv 25 (V.ref 500 20), pc 26 ((20 : Nat) ≤ (21 : Nat)) (V.i (Cv.share c))] kR kR ⟨oM, oM, tI⟩ ?_
 refine eC (down_ac (dot c.feed hx c.feed.length + dot c.back hy c.back.length) c.share oM s1) ?_
 refine aX hTT 1 [] tI ?_; refine aops_nil ⟨kR, ?_⟩; refine xt_n (hK _ ?_); clear hK K
 refine aw_ret ?_
 refine retM (v' := V.i ((yyFA41 c hy hx) / Cv.share c)) [] [(2, V.i ((yyFA41 c hy hx) / Cv.share c))] (.inr rfl) (.cons kR .nil) (.cons ⟨(yyFA40 c hy hx m), kR, .box kR⟩ .nil) kR kR kR kR kR kR kR
abbrev PB (k : Nat) : Ob := .box 287 [.ref k 0]
abbrev qFA40 : Prop := (0 : Nat) ≤ (1 : Nat)
theorem qFA40_ : qFA40 := oM
abbrev yyFA48 (m : Nat) := (((m + (1 : Nat)) % (8 : Nat) + (7 : Nat)) % (8 : Nat))
abbrev yyFA49 (m : Nat) := (((m + (1 : Nat)) % (8 : Nat) + (6 : Nat)) % (8 : Nat))
abbrev yyFA410 (m : Nat) := (((m + (1 : Nat)) % (8 : Nat) + (5 : Nat)) % (8 : Nat))
abbrev yyFA411 (m : Nat) := (((m + (1 : Nat)) % (8 : Nat) + (4 : Nat)) % (8 : Nat))
abbrev yyFA412 (m : Nat) := (((m + (1 : Nat)) % (8 : Nat) + (3 : Nat)) % (8 : Nat))
abbrev yyFA413 (m : Nat) := (((m + (1 : Nat)) % (8 : Nat) + (2 : Nat)) % (8 : Nat))
abbrev yyFA414 (m : Nat) := (((m + (1 : Nat)) % (8 : Nat) + (1 : Nat)) % (8 : Nat))
abbrev yyFA46 (c : Cv) : V := V.sl 1 (List.length (Cv.feed c)) fun (k : Nat) => [V.i (gi (Cv.feed c) k)]
abbrev yyFA47 (c : Cv) : V := V.sl 1 (List.length (Cv.back c)) fun (k : Nat) => [V.i (gi (Cv.back c) k)]
abbrev yyFA42 (c : Cv) (hy : List Int) (hx : List Int) (m : Nat) (g : Int) : Ob := Ob.box 292 [V.i (gi (g :: hy) (yyFA48 m)), V.i (gi (g :: hy) (yyFA49 m)), V.i (gi (g :: hy) (yyFA410 m)), V.i (gi (g :: hy) (yyFA411 m)), V.i (gi (g :: hy) (yyFA412 m)), V.i (gi (g :: hy) (yyFA413 m)), V.i (gi (g :: hy) (yyFA414 m)), V.i (gi (g :: hy) ((m + (1 : Nat)) % (8 : Nat) % (8 : Nat))), V.i (↑((m + (1 : Nat)) % (8 : Nat)) : Int), V.i (gi ((g - corr c hx hy) :: hx) (yyFA48 m)), V.i (gi ((g - corr c hx hy) :: hx) (yyFA49 m)), V.i (gi ((g - corr c hx hy) :: hx) (yyFA410 m)), V.i (gi ((g - corr c hx hy) :: hx) (yyFA411 m)), V.i (gi ((g - corr c hx hy) :: hx) (yyFA412 m)), V.i (gi ((g - corr c hx hy) :: hx) (yyFA413 m)), V.i (gi ((g - corr c hx hy) :: hx) (yyFA414 m)), V.i (gi ((g - corr c hx hy) :: hx) ((m + (1 : Nat)) % (8 : Nat) % (8 : Nat))), V.i (↑((m + (1 : Nat)) % (8 : Nat)) : Int), (yyFA46 c), (yyFA47 c), V.i (Cv.share c)]
abbrev yyFA43 (c : Cv) (hy : List Int) (hx : List Int) (m : Nat) (g : Int) : Ob := Ob.box 292 [V.i (gi ((g + corr c hx hy) :: hy) (yyFA48 m)), V.i (gi ((g + corr c hx hy) :: hy) (yyFA49 m)), V.i (gi ((g + corr c hx hy) :: hy) (yyFA410 m)), V.i (gi ((g + corr c hx hy) :: hy) (yyFA411 m)), V.i (gi ((g + corr c hx hy) :: hy) (yyFA412 m)), V.i (gi ((g + corr c hx hy) :: hy) (yyFA413 m)), V.i (gi ((g + corr c hx hy) :: hy) (yyFA414 m)), V.i (gi ((g + corr c hx hy) :: hy) ((m + (1 : Nat)) % (8 : Nat) % (8 : Nat))), V.i (↑((m + (1 : Nat)) % (8 : Nat)) : Int), V.i (gi (g :: hx) (yyFA48 m)), V.i (gi (g :: hx) (yyFA49 m)), V.i (gi (g :: hx) (yyFA410 m)), V.i (gi (g :: hx) (yyFA411 m)), V.i (gi (g :: hx) (yyFA412 m)), V.i (gi (g :: hx) (yyFA413 m)), V.i (gi (g :: hx) (yyFA414 m)), V.i (gi (g :: hx) ((m + (1 : Nat)) % (8 : Nat) % (8 : Nat))), V.i (↑((m + (1 : Nat)) % (8 : Nat)) : Int), (yyFA46 c), (yyFA47 c), V.i (Cv.share c)]
abbrev yyFA44 (c : Cv) (hy : List Int) (hx : List Int) (m : Nat) (g : Int) : Ob := Ob.box 292 [V.i (gi hy ((m + (7 : Nat)) % (8 : Nat))), V.i (gi hy ((m + (6 : Nat)) % (8 : Nat))), V.i (gi hy ((m + (5 : Nat)) % (8 : Nat))), V.i (gi hy ((m + (4 : Nat)) % (8 : Nat))), V.i (gi hy ((m + (3 : Nat)) % (8 : Nat))), V.i (gi hy ((m + (2 : Nat)) % (8 : Nat))), V.i (gi hy ((m + (1 : Nat)) % (8 : Nat))), V.i (gi hy (m % (8 : Nat))), V.i (↑m : Int), V.i (gi ((g - corr c hx hy) :: hx) (yyFA48 m)), V.i (gi ((g - corr c hx hy) :: hx) (yyFA49 m)), V.i (gi ((g - corr c hx hy) :: hx) (yyFA410 m)), V.i (gi ((g - corr c hx hy) :: hx) (yyFA411 m)), V.i (gi ((g - corr c hx hy) :: hx) (yyFA412 m)), V.i (gi ((g - corr c hx hy) :: hx) (yyFA413 m)), V.i (gi ((g - corr c hx hy) :: hx) (yyFA414 m)), V.i (gi ((g - corr c hx hy) :: hx) ((m + (1 : Nat)) % (8 : Nat) % (8 : Nat))), V.i (↑((m + (1 : Nat)) % (8 : Nat)) : Int), (yyFA46 c), (yyFA47 c), V.i (Cv.share c)]
abbrev yyFA45 (c : Cv) (hy : List Int) (hx : List Int) (m : Nat) (g : Int) : Ob := Ob.box 292 [V.i (gi hy ((m + (7 : Nat)) % (8 : Nat))), V.i (gi hy ((m + (6 : Nat)) % (8 : Nat))), V.i (gi hy ((m + (5 : Nat)) % (8 : Nat))), V.i (gi hy ((m + (4 : Nat)) % (8 : Nat))), V.i (gi hy ((m + (3 : Nat)) % (8 : Nat))), V.i (gi hy ((m + (2 : Nat)) % (8 : Nat))), V.i (gi hy ((m + (1 : Nat)) % (8 : Nat))), V.i (gi hy (m % (8 : Nat))), V.i (↑m : Int), V.i (gi (g :: hx) (yyFA48 m)), V.i (gi (g :: hx) (yyFA49 m)), V.i (gi (g :: hx) (yyFA410 m)), V.i (gi (g :: hx) (yyFA411 m)), V.i (gi (g :: hx) (yyFA412 m)), V.i (gi (g :: hx) (yyFA413 m)), V.i (gi (g :: hx) (yyFA414 m)), V.i (gi (g :: hx) ((m + (1 : Nat)) % (8 : Nat) % (8 : Nat))), V.i (↑((m + (1 : Nat)) % (8 : Nat)) : Int), (yyFA46 c), (yyFA47 c), V.i (Cv.share c)]
set_option maxRecDepth 100000 in
theorem step1_ac (c : Cv) (u : Bool) (hy hx : List Int) (m : Nat) (n g : Int) (hc : cvOk c) (hm : m < 8) (hn : 0 ≤ n ∧ n ≤ 131072) (h1 : AllLe n hx) (h2 : AllLe n hy) (hg : -n ≤ g ∧ g ≤ n) :
  AM Tryz.prog 174 [.i g, .ptr [.b u], .ref 500 0] [PB 501, St c hy hx m] (.i (if u then g - corr c hx hy else g + corr c hx hy)) [some (PB 501), some (St c ((if u then g else g + corr c hx hy) :: hy) ((if u then g - corr c hx hy else g) :: hx) ((m + 1) % 8))] [] := by
 have b := corr_bd hc hn.1 h1 h2
 refine am_intro hTT hMX (fn := Tryz.f174) (N := _) ⟨Tryz.func174, rfl, Tryz.ntmps174, kR⟩ (by simp) rfl (by simp) (by simp) fun C hF => ?_
 refine aw_seq_k fun K hK => wR 2 ?_; refine aX hTT 1 [] tI ?_; refine aops_nil (xt_n (hK _ ?_)); clear hK K; refine aw_seq_k fun K hK => wR 3 ?_; refine aX hTT 4 [] tI ?_; refine aops_nil (xt_n (hK _ ?_)); clear hK K; refine aw_seq_k fun K hK => ?_; refine aw_seq_k fun K hK => wR 4 ?_; refine aX hTT 1 [] tI ?_; refine aops_nil (xt_n (hK _ ?_)); clear hK K
 refine w_cond (t := u) kR (fun c1 => ?_) (fun c1 => ?_)
 ·
  subst c1
  refine aw_seq_k fun K hK => wR 5 ?_; refine aX hTT 2 [(1, .c qFA40)] ⟨qFA40_, tI⟩ ?_
  refine aops_callR [501] (first := []) (caps := []) (ins' := [(yyFA40 c hy hx m)]) (v' := V.i (corr c hx hy)) (δ := []) (kp := [501]) (correction_ac c hy hx m n hc hm hn h1 h2) kR kR kR kR kR kR kR rfl kR kR ⟨kR, tI⟩ kR kR kR ?_
  refine aX hTT 2 [(0, .i (g - corr c hx hy))] ⟨oM, tI⟩ ?_; refine aops_nil (xt_n (hK _ ?_)); clear hK K; refine aw_seq_k fun K hK => wR 6 ?_; refine aX hTT 4 [(0, .c qFA40)] ⟨qFA40_, tI⟩ ?_
  refine aops_callM [501] (first := []) (caps := []) (ins' := [(yyFA40 c hy hx m)]) (v' := V.tup []) (δ := [(501, Option.some ((yyFA44 c hy hx m g)))]) (kp := [501]) (putI_ac c hy hx m m (g - corr c hx hy) hm) kR kR kR kR kR kR rfl rfl kR (.box kR kR .nil) kR kR kR ?_
  refine aops_nil (xt_n (hK _ ?_)); clear hK K; refine aw_seq_k fun K hK => wR 7 ?_; refine aX hTT 4 [(0, .c qFA40)] ⟨qFA40_, tI⟩ ?_
  refine aops_callM [501] (first := []) (caps := []) (ins' := [(yyFA44 c hy hx m g)]) (v' := V.tup []) (δ := [(501, Option.some ((yyFA42 c hy hx m g)))]) (kp := [501]) (putO_ac c hy ((g - corr c hx hy) :: hx) m ((m + 1) % 8) g hm) kR kR kR kR kR kR rfl rfl kR (.box kR kR .nil) kR kR kR ?_
  refine aops_nil (xt_n (hK _ ?_)); clear hK K; refine aw_seq_k fun K hK => wR 8 ?_; refine aX hTT 2 [] tI ?_; refine aops_nil (xt_n (hK _ ?_)); clear hK K
  refine aw_ret ?_
  refine xt_r ?_
  refine retM (v' := V.i (g - corr c hx hy)) [] [(4, V.i (g - corr c hx hy))] (.inr rfl) (.cons kR .nil) (.cons ⟨Ob.box 287 [V.ref 501 0], kR, .box kR⟩ (.cons ⟨(yyFA42 c hy hx m g), kR, .box kR⟩ .nil)) kR kR kR kR kR kR kR
 ·
  subst c1
  refine aw_skip ?_
  refine xt_n (hK _ ?_); clear hK K; refine aw_seq_k fun K hK => wR 5 ?_; refine aX hTT 2 [(1, .c qFA40)] ⟨qFA40_, tI⟩ ?_
  refine aops_callR [501] (first := []) (caps := []) (ins' := [(yyFA40 c hy hx m)]) (v' := V.i (corr c hx hy)) (δ := []) (kp := [501]) (correction_ac c hy hx m n hc hm hn h1 h2) kR kR kR kR kR kR kR rfl kR kR ⟨kR, tI⟩ kR kR kR ?_
  refine aX hTT 2 [(0, .i (g + corr c hx hy))] ⟨oM, tI⟩ ?_; refine aops_nil (xt_n (hK _ ?_)); clear hK K; refine aw_seq_k fun K hK => wR 6 ?_; refine aX hTT 4 [(0, .c qFA40)] ⟨qFA40_, tI⟩ ?_
  refine aops_callM [501] (first := []) (caps := []) (ins' := [(yyFA40 c hy hx m)]) (v' := V.tup []) (δ := [(501, Option.some ((yyFA45 c hy hx m g)))]) (kp := [501]) (putI_ac c hy hx m m g hm) kR kR kR kR kR kR rfl rfl kR (.box kR kR .nil) kR kR kR ?_
  refine aops_nil (xt_n (hK _ ?_)); clear hK K; refine aw_seq_k fun K hK => wR 7 ?_; refine aX hTT 4 [(0, .c qFA40)] ⟨qFA40_, tI⟩ ?_
  refine aops_callM [501] (first := []) (caps := []) (ins' := [(yyFA45 c hy hx m g)]) (v' := V.tup []) (δ := [(501, Option.some ((yyFA43 c hy hx m g)))]) (kp := [501]) (putO_ac c hy (g :: hx) m ((m + 1) % 8) (g + corr c hx hy) hm) kR kR kR kR kR kR rfl rfl kR (.box kR kR .nil) kR kR kR ?_
  refine aops_nil (xt_n (hK _ ?_)); clear hK K; refine aw_seq_k fun K hK => wR 8 ?_; refine aX hTT 2 [] tI ?_; refine aops_nil (xt_n (hK _ ?_)); clear hK K
  refine aw_ret ?_
  refine retM (v' := V.i (g + corr c hx hy)) [] [(4, V.i (g + corr c hx hy))] (.inr rfl) (.cons kR .nil) (.cons ⟨Ob.box 287 [V.ref 501 0], kR, .box kR⟩ (.cons ⟨(yyFA43 c hy hx m g), kR, .box kR⟩ .nil)) kR kR kR kR kR kR kR
abbrev FStep (u : Bool) (k : Nat) : V := .fn (.func 174) [] [.ptr [.b u], .ref k 0]
abbrev FIn (m : Int) : V := .fn (.func 177) [] [.ptr [.i m]]
abbrev yyFA415 (c : Cv) : Ob := Ob.box 292 [V.i 0, V.i 0, V.i 0, V.i 0, V.i 0, V.i 0, V.i 0, V.i 0, V.i 0, V.i 0, V.i 0, V.i 0, V.i 0, V.i 0, V.i 0, V.i 0, V.i 0, V.i 0, (yyFA46 c), (yyFA47 c), V.i (Cv.share c)]
set_option maxRecDepth 100000 in
theorem fStep_ac (c : Cv) (u : Bool) : AC Tryz.prog 162 [V.cv c, .b u] (FStep u 0) [PB 1, St c [] [] 0] := by
 refine acI hTT hMX Tryz.func162 Tryz.ntmps162 fun C hC hF => ?_
 refine aw_seq_k fun K hK => wR 2 ?_
 refine aops_x (M := [8]) hTT 3 [] tI ?_
 refine aops_nil (xt_n (hK _ ?_)); clear hK K; refine aw_seq_k fun K hK => wR 3 ?_
 refine aops_x (M := [8]) hTT 5 [(2, .r (pn 8 (V.ref 200008 0) (200008 : Nat) ((yyFA415 c)))), (3, .r (pn 5 (V.ref 200005 0) (200005 : Nat) (Ob.box 287 [V.c (Value.pointer none)]))), (4, .r (pw ((0 : Nat) + (1 : Nat) ≤ (1 : Nat)) (200005 : Nat) (Ob.box 287 [V.ref 200008 0])))] ⟨oM, tI⟩ ?_
 refine aops_nil (xt_n (hK _ ?_)); clear hK K; refine aw_seq_k fun K hK => wR 4 ?_
 refine aops_x (M := [8]) hTT 2 [] tI ?_
 refine aops_nil (xt_n (hK _ ?_)); clear hK K
 refine aw_ret ?_
 refine ret_of_M ?_
 refine retM (v' := V.fn (Fn.func (174 : Nat)) [] [V.ptr [V.b u], V.ref 0 0]) [(0, 200005), (1, 200008)] [(4, V.fn (Fn.func (174 : Nat)) [] [V.ptr [V.b u], V.ref 0 0])] (.inr rfl) (.cons kR .nil) (.cons ⟨Ob.box 287 [V.ref 200008 0], kR, .box kR⟩ (.cons ⟨(yyFA415 c), kR, .box kR⟩ .nil)) kR kR kR kR kR kR kR
set_option maxRecDepth 100000 in
theorem within_ac (m : Int) : AC Tryz.prog 163 [.i m] (FIn m) [] := by
 refine acI hTT hMX Tryz.func163 Tryz.ntmps163 fun C hC hF => ?_
 refine aw_seq_k fun K hK => wR 2 ?_; refine aX hTT 2 [] tI ?_; refine aops_nil (xt_n (hK _ ?_)); clear hK K; refine aw_seq_k fun K hK => wR 3 ?_; refine aX hTT 2 [] tI ?_; refine aops_nil (xt_n (hK _ ?_)); clear hK K
 refine aw_ret ?_
 refine rP (V.fn (Fn.func (177 : Nat)) [] [V.ptr [V.i m]])
set_option maxRecDepth 100000 in
theorem within1_ac (n m : Int) (hm : 0 ≤ m ∧ m ≤ 4611686018427387904) : AC Tryz.prog 177 [.i n, .ptr [.i m]] (.b (!bey n m)) [] := by
 refine acI hTT hMX Tryz.func177 Tryz.ntmps177 fun C hC hF => ?_
 refine aw_seq_k fun K hK => wR 2 ?_; refine aX hTT 1 [] tI ?_; refine aops_nil (xt_n (hK _ ?_)); clear hK K; refine aw_seq_k fun K hK => wR 3 ?_; refine aX hTT 2 [] tI ?_
 refine eC (beyond_ac n m hm) ?_
 refine aX hTT 2 [] tI ?_; refine aops_nil (xt_n (hK _ ?_)); clear hK K
 refine aw_ret ?_
 refine rP (V.b !bey n m)
end Go.Proofs.YtplnhbenmgclfaaGreatDoor
