/-
  Several texts in one: Needs and gains: both copies. Condition: as many elements as a slice can have. .. Cuts of limited programmes: no bend is greater than 8 times the gain of the ceiling. Conditions: told in each theorem.
-/
import Derived.OwnWalk
import Derived.Test.YtepkjobndmmejaaGreatDoorAbs42
import Derived.Test.YtepkjobndmmejaaGreatDoorX07
import Derived.Test.YtepkjobndmmejaaGreatDoorX04
import Derived.Test.YtepkjobndmmejaaGreatDoorX02
import Derived.Test.YtepkjobndmmejaaGreatDoorX06
namespace Go.Proofs.YtepkjobndmmejaaGreatDoor
open Go.Ab Go.RowKit Go.Dw Go.Shelf
def needE (p : List Pt) (c : Int) : Int := if progE p ≠ 0 then progE p else if c < 1 ∨ 32767 < c then 3 else 0
theorem needE_1 {p : List Pt} {c : Int} (h : ¬ progE p = 0) : needE p c = progE p := by rw [needE, if_pos h]
theorem needE_2 {p : List Pt} {c : Int} (h : progE p = 0) (h2 : c < 1 ∨ 32767 < c) : needE p c = 3 := by rw [needE, if_neg (by simp [h]), if_pos h2]
theorem needE_ok {p : List Pt} {c : Int} : needE p c = 0 ↔ progE p = 0 ∧ 1 ≤ c ∧ c ≤ 32767 := by
 by_cases h : progE p = 0
 ·
  by_cases h2 : c < 1 ∨ 32767 < c
  ·
   rw [needE_2 h h2]; simp [h]; omega
  ·
   rw [needE, if_neg (by simp [h]), if_neg h2]; simp [h]; omega
 ·
  rw [needE_1 h]; simp [h]
def needL (p : List Pt) (c : Int) : List Int := (List.range p.length).map fun k => needI (gp p k) c
theorem needL_len (p : List Pt) (c : Int) : (needL p c).length = p.length := by simp [needL]
theorem needL_gi {p : List Pt} {c : Int} {k : Nat} (h : k < p.length) : gi (needL p c) k = needI (gp p k) c := by simp [needL, gi, h]
set_option maxRecDepth 100000 in
theorem Needs_ok (p : List Pt) (c : Int) (hp : progE p = 0) (hc : 1 ≤ c ∧ c ≤ 32767) : AC Tryz.prog 78 [V.pts p, .i c] (.tup [.own 0, .i 0]) [RowI p.length fun k => needI (gp p k) c] := by
 obtain ⟨g1, g2⟩ := progE_ok.1 hp
 refine acI hTT hMX Tryz.func78 Tryz.ntmps78 fun C hC hF => ?_
 refine aw_seq_k fun K hK => wR 2 ?_; refine aX hTT 2 [] True.intro ?_; refine aops_nil (xt_n (hK _ ?_)); clear hK K; refine aw_seq_k fun K hK => ?_; refine aw_seq_k fun K hK => wR 3 ?_; refine aX hTT 1 [] True.intro ?_
 refine eC (checkProgramme_ac p (by unfold bigL; omega)) ?_
 refine aX hTT 1 [] True.intro ?_; refine aops_nil (xt_n (hK _ ?_)); clear hK K; refine aw_seq_k fun K hK => wR 4 ?_; refine aX hTT 2 [] True.intro ?_; refine aops_nil (xt_n (hK _ ?_)); clear hK K
 refine w_cond (t := !decide (progE p = (0 : Int))) (by kernel_rfl) (fun c1 => ?_) (fun c1 => ?_)
 ·
  simp [hp] at c1
 refine aw_skip ?_
 refine xt_n (hK _ ?_); clear hK K; refine aw_seq_k fun K hK => ?_; refine aw_seq_k fun K hK => wR 5 ?_; refine aX hTT 6 [(3, .c (gA (decide (c < (1 : Int)) == false) True)), (4, .c (gD (decide (c < (1 : Int)) == false) True)), (5, .c (True ∧ (decide (c < (1 : Int)) = false → (decide (c < (1 : Int)) == false) = true)))] ⟨⟨⟨True.intro, True.intro⟩, (fun _ => True.intro)⟩, ⟨⟨(by (exact fun h => h)), ⟨True.intro, True.intro⟩⟩, (fun _ => True.intro)⟩, ⟨True.intro, (by (intro h; rw [h]; rfl))⟩, True.intro⟩ ?_; refine aops_nil (xt_n (hK _ ?_)); clear hK K
 refine w_cond (t := decide (c < (1 : Int)) || decide ((32767 : Int) < c)) (by kernel_rfl) (fun c2 => ?_) (fun c2 => ?_)
 ·
  simp at c2
  omega
 refine aw_skip ?_
 refine xt_n (hK _ ?_); clear hK K; refine aw_seq_k fun K hK => wR 6 ?_; refine aX hTT 1 [] True.intro ?_; refine aops_nil (xt_n (hK _ ?_)); clear hK K; refine aw_seq_k fun K hK => ?_; refine aw_seq_k fun K hK => wR 7 ?_; refine aX hTT 3 [] True.intro ?_; refine aops_nil (xt_n (hK _ ?_)); clear hK K
 refine aw_block ?_
 refine w_le (le_open 7 2 1 (fun k => [.i (needI (gp p k) c)]) (by kernel_rfl) rfl) ?_
 skip
 refine w_loop (ι := Nat) (fun k => [(1, .i c), (7, .own 7), (21, V.pts p), (22, .i p.length), (23, .i k)]) (fun k => [(7, RowI k fun k => needI (gp p k) c)]) (fun k => k ≤ p.length) (fun k => p.length - k) 0 (Nat.zero_le _) ?_ ?_
 ·
  refine le_ren (sl := [(7, Ob.row 2 1 0 fun (j : Nat) => [V.i (needI (gp p j) c)])]) [(7, 700007)] (.cons (by kernel_rfl) (.cons (by kernel_rfl) (.cons (by kernel_rfl) (.cons (by kernel_rfl) (.cons (by kernel_rfl) .nil))))) (.cons ⟨Ob.row 2 1 0 fun (k : Nat) => [V.i (needI (gp p k) c)], (by kernel_rfl), .row (by kernel_rfl) (fun _ _ => rfl)⟩ .nil) (by kernel_rfl) (by kernel_rfl)
 intro k hk
 refine aw_seq_k fun K hK => wR 2 ?_; refine aX hTT 1 [] True.intro ?_; refine aops_nil (xt_n (hK _ ?_)); clear hK K; refine aw_seq_k fun K hK => ?_
 refine w_cond (t := decide ((↑k : Int) < (↑(List.length p) : Int))) (by kernel_rfl) (fun c3 => ?_) (fun c3 => ?_)
 ·
  simp at c3
  refine aw_skip ?_
  refine xt_n (hK _ ?_); clear hK K; refine aw_seq_k fun K hK => ?_
  refine aw_block ?_
  refine aw_seq_k fun K hK => wR 3 ?_; refine aX hTT 4 [(0, .c ((0 : Int) ≤ (↑k : Int) ∧ (↑k : Int) < (↑(List.length p) : Int))), (2, .r (pn 9 (V.ref 200009 0) (200009 : Nat) (Ob.box 46 [V.i 0, V.i 0]))), (3, .r (pw ((0 : Nat) + (2 : Nat) ≤ (2 : Nat)) (200009 : Nat) (Ob.box 46 [V.i (Prod.fst (gp p k)), V.i (Prod.snd (gp p k))])))] ⟨(by omega), (by omega), True.intro⟩ ?_; refine aops_nil (xt_n (hK _ ?_)); clear hK K; refine wR 4 ?_; refine aX hTT 3 [(1, .c ((0 : Nat) ≤ (2 : Nat)))] ⟨(by omega), True.intro⟩ ?_
  refine eC (need_ac (gp p k) c (g2 k c3) hc) ?_
  refine aX hTT 3 [(1, .r (PR.mk (some (32 : Nat)) (some (k + (1 : Nat) ≤ (1099511627776 : Nat))) (V.own 300032) [((7 : Nat), none), ((300032 : Nat), some (Ob.row 2 1 (k + (1 : Nat)) (appRow k (fun (j : Nat) => [V.i (needI (gp p j) c)]) fun (i : Nat) => List.take (1 : Nat) (List.drop (i * (1 : Nat)) [V.i (needI (gp p k) c)]))))] false))] ⟨(by omega), True.intro⟩ ?_; refine aops_nil ?_; refine xb_n ?_; refine xt_n (hK _ ?_); clear hK K; refine wR 5 ?_; refine aX hTT 2 [(0, .i ((↑k : Int) + (1 : Int)))] ⟨(by omega), True.intro⟩ ?_; refine aops_nil ?_; refine xt_n ?_
  refine ⟨k + 1, by omega, ?_, by omega⟩
  refine le_ren (tl := [(1, V.i c), (7, V.own 7), (21, V.sl 2 (List.length p) fun (k : Nat) => [V.i (Prod.fst (gp p k)), V.i (Prod.snd (gp p k))]), (22, V.i (↑(List.length p) : Int)), (23, V.i (↑(k + (1 : Nat)) : Int))]) (sl := [(7, Ob.row 2 1 (k + (1 : Nat)) fun (j : Nat) => [V.i (needI (gp p j) c)])]) [(7, 300032)] (.cons (by kernel_rfl) (.cons (by kernel_rfl) (.cons (by kernel_rfl) (.cons (by kernel_rfl) (.cons (by kernel_rfl) .nil))))) (.cons ⟨Ob.row 2 1 (k + (1 : Nat)) (appRow k (fun (j : Nat) => [V.i (needI (gp p j) c)]) fun (i : Nat) => List.take (1 : Nat) (List.drop (i * (1 : Nat)) [V.i (needI (gp p k) c)])), (by kernel_rfl), .row (by kernel_rfl) ?_⟩ .nil) (by kernel_rfl) (by kernel_rfl)
  intro i hi
  by_cases h : i < k
  ·
   rw [appRow, if_pos h]
   rfl
  ·
   obtain rfl : i = k := by omega
   rw [appRow, if_neg h, Nat.sub_self]
   rfl
 ·
  simp at c3
  obtain rfl : k = p.length := by omega
  refine aw_exit ?_
  refine xt_x ?_; refine xt_x ?_
  refine xb_same ?_
  refine xt_n ?_; clear hK K; refine hK _ ?_; clear hK K; refine aw_seq_k fun K hK => wR 3 ?_; refine aX hTT 3 [] True.intro ?_; refine aops_nil (xt_n (hK _ ?_)); clear hK K
  refine aw_ret ?_
  refine ret_own [(0, 7)] [(4, V.own 0), (5, V.i 0)] (.inr rfl) (.cons (by kernel_rfl) (.cons (by kernel_rfl) .nil)) (.cons ⟨Ob.row 2 1 (List.length p) fun (j : Nat) => [V.i (needI (gp p j) c)], (by kernel_rfl), .row (by kernel_rfl) (fun _ _ => rfl)⟩ .nil) (by kernel_rfl) (by kernel_rfl) (by kernel_rfl) (by kernel_rfl)
abbrev zzFA100 : V := V.tup [V.sl 1 0 fun (k : Nat) => [V.i (gi [] k)], V.i 3]
abbrev qFA100 : Prop := (0 : Nat) ≤ (1 : Nat)
theorem qFA100_ : qFA100 := (by omega)
set_option maxRecDepth 100000 in
theorem Needs_no (p : List Pt) (c : Int) (hl : p.length ≤ bigL) (h : ¬ needE p c = 0) : AC Tryz.prog 78 [V.pts p, .i c] (.tup [V.ints [], .i (needE p c)]) [] := by
 refine acI hTT hMX Tryz.func78 Tryz.ntmps78 fun C hC hF => ?_
 refine aw_seq_k fun K hK => wR 2 ?_; refine aX hTT 2 [] True.intro ?_; refine aops_nil (xt_n (hK _ ?_)); clear hK K; refine aw_seq_k fun K hK => ?_; refine aw_seq_k fun K hK => wR 3 ?_; refine aX hTT 1 [] True.intro ?_
 refine eC (checkProgramme_ac p hl) ?_
 refine aX hTT 1 [] True.intro ?_; refine aops_nil (xt_n (hK _ ?_)); clear hK K; refine aw_seq_k fun K hK => wR 4 ?_; refine aX hTT 2 [] True.intro ?_; refine aops_nil (xt_n (hK _ ?_)); clear hK K
 refine w_cond (t := !decide (progE p = (0 : Int))) (by kernel_rfl) (fun c1 => ?_) (fun c1 => ?_)
 ·
  simp at c1
  refine aw_seq_k fun K hK => wR 5 ?_; refine aX hTT 3 [] True.intro ?_; refine aops_nil (xt_n (hK _ ?_)); clear hK K
  refine aw_ret ?_
  refine xt_r ?_
  rw [needE_1 c1]
  refine ret_of_le (le_nil 4 (sz := 1) 0 (fun k => [.i (gi [] k)]) (by kernel_rfl) ?_) ?_
  ·
   rfl
  refine rP (V.tup [V.sl 1 0 fun (k : Nat) => [V.i (gi [] k)], V.i (progE p)])
 simp at c1
 refine aw_skip ?_
 refine xt_n (hK _ ?_); clear hK K; refine aw_seq_k fun K hK => ?_; refine aw_seq_k fun K hK => wR 5 ?_; refine aX hTT 6 [(3, .c (gA (decide (c < (1 : Int)) == false) True)), (4, .c (gD (decide (c < (1 : Int)) == false) True)), (5, .c (True ∧ (decide (c < (1 : Int)) = false → (decide (c < (1 : Int)) == false) = true)))] ⟨⟨⟨True.intro, True.intro⟩, (fun _ => True.intro)⟩, ⟨⟨(by (exact fun h => h)), ⟨True.intro, True.intro⟩⟩, (fun _ => True.intro)⟩, ⟨True.intro, (by (intro h; rw [h]; rfl))⟩, True.intro⟩ ?_; refine aops_nil (xt_n (hK _ ?_)); clear hK K
 refine w_cond (t := decide (c < (1 : Int)) || decide ((32767 : Int) < c)) (by kernel_rfl) (fun c2 => ?_) (fun c2 => ?_)
 ·
  simp at c2
  refine aw_seq_k fun K hK => wR 6 ?_; refine aX hTT 2 [] True.intro ?_; refine aops_nil (xt_n (hK _ ?_)); clear hK K
  refine aw_ret ?_
  refine xt_r ?_
  rw [needE_2 c1 c2]
  refine ret_of_le (le_nil 4 (sz := 1) 0 (fun k => [.i (gi [] k)]) (by kernel_rfl) ?_) ?_
  ·
   rfl
  refine rP (zzFA100)
 ·
  simp at c2
  exact absurd (needE_ok.2 ⟨c1, by omega⟩) h
def gainE (p : List Pt) (c s : Int) : Int := if needE p c ≠ 0 then needE p c else if s < 0 ∨ 256 < s then 3 else 0
def gainR (p : List Pt) (c s : Int) : List Int := if gainE p c s = 0 then gainL (needL p c) s else []
theorem gain_1 {p : List Pt} {c s : Int} (h : ¬ needE p c = 0) : gainE p c s = needE p c ∧ gainR p c s = [] := by
 have e : gainE p c s = needE p c := by rw [gainE, if_pos h]
 exact ⟨e, by rw [gainR, e, if_neg h]⟩
theorem gain_2 {p : List Pt} {c s : Int} (h : needE p c = 0) (h2 : s < 0 ∨ 256 < s) : gainE p c s = 3 ∧ gainR p c s = [] := by
 have e : gainE p c s = 3 := by rw [gainE, if_neg (by simp [h]), if_pos h2]
 exact ⟨e, by rw [gainR, e, if_neg (by decide)]⟩
theorem gain_3 {p : List Pt} {c s : Int} (h : needE p c = 0) (h2 : 0 ≤ s ∧ s ≤ 256) : gainE p c s = 0 ∧ gainR p c s = gainL (needL p c) s := by
 have e : gainE p c s = 0 := by rw [gainE, if_neg (by simp [h]), if_neg (by omega)]
 exact ⟨e, by rw [gainR, e, if_pos rfl]⟩
theorem needL_bd {p : List Pt} {c : Int} (h : needE p c = 0) (k : Nat) : 0 ≤ gi (needL p c) k ∧ gi (needL p c) k ≤ 256 := by
 obtain ⟨h1, h2⟩ := needE_ok.1 h
 by_cases hk : k < p.length
 ·
  rw [needL_gi hk]
  exact needI_bd h2.1 (amtS_bd ((progE_ok.1 h1).2 k hk)).1
 ·
  rw [gi_out (by rw [needL_len]; omega)]; omega
theorem way_lt {n k : Nat} (h : k < 2 * n - 2) : wayAt n k < n ∧ wayB n k < n := by
 unfold wayAt wayB
 split <;> omega
theorem wayF_bd {n : List Int} {s : Int} (hs : 0 ≤ s) (hn : ∀ k, 0 ≤ gi n k ∧ gi n k ≤ 256) : ∀ k j, 0 ≤ wayF n s k j ∧ wayF n s k j ≤ 256
 | 0, j => hn j
 | k + 1, j => by
  have h1 := wayF_bd hs hn k j
  have h2 := wayF_bd hs hn k (wayB n.length k)
  simp only [wayF]
  split
  ·
   omega
  ·
   exact h1
set_option maxRecDepth 100000 in
theorem Gains_ac (p : List Pt) (c s : Int) (hl : p.length ≤ bigL) : AC Tryz.prog 48 [V.pts p, .i c, .i s] (.tup [V.ints (gainR p c s), .i (gainE p c s)]) [] := by
 by_cases h : needE p c = 0
 ·
  obtain ⟨h1, h2⟩ := needE_ok.1 h
  have h3 := (progE_ok.1 h1).1
  refine acI hTT hMX Tryz.func48 Tryz.ntmps48 fun C hC hF => ?_
  refine aw_seq_k fun K hK => wR 2 ?_; refine aX hTT 3 [] True.intro ?_; refine aops_nil (xt_n (hK _ ?_)); clear hK K; refine aw_seq_k fun K hK => wR 3 ?_; refine aX hTT 2 [] True.intro ?_
  refine e_callO (first := []) (caps := []) (k := 200015) (v' := V.tup [V.own 200015, V.i 0]) (ob' := Ob.row 2 1 (List.length p) fun (i : Nat) => V.renL (callG (2 : Nat) (some 15)) [V.i (needI (gp p i) c)]) (Needs_ok p c h1 h2) (by kernel_rfl) (by kernel_rfl) (by kernel_rfl) (by kernel_rfl) (by kernel_rfl) (by kernel_rfl) (by kernel_rfl) ?_
  refine aX hTT 6 [(3, .r (pn 8 (V.ref 200008 0) (200008 : Nat) (Ob.box 25 [V.nil]))), (4, .r (pw ((0 : Nat) + (1 : Nat) ≤ (1 : Nat)) (200008 : Nat) (Ob.box 25 [V.own 200015])))] ⟨(by omega), True.intro⟩ ?_; refine aops_nil (xt_n (hK _ ?_)); clear hK K; refine aw_seq_k fun K hK => ?_; refine aw_seq_k fun K hK => wR 4 ?_; refine aX hTT 2 [] True.intro ?_; refine aops_nil (xt_n (hK _ ?_)); clear hK K; refine w_false (t := false) (by kernel_rfl) rfl ?_
  refine aw_skip ?_
  refine xt_n (hK _ ?_); clear hK K; refine aw_seq_k fun K hK => ?_; refine aw_seq_k fun K hK => wR 5 ?_; refine aX hTT 6 [(3, .c (gA (decide (s < (0 : Int)) == false) True)), (4, .c (gD (decide (s < (0 : Int)) == false) True)), (5, .c (True ∧ (decide (s < (0 : Int)) = false → (decide (s < (0 : Int)) == false) = true)))] ⟨⟨⟨True.intro, True.intro⟩, (fun _ => True.intro)⟩, ⟨⟨(by (exact fun h => h)), ⟨True.intro, True.intro⟩⟩, (fun _ => True.intro)⟩, ⟨True.intro, (by (intro h; rw [h]; rfl))⟩, True.intro⟩ ?_; refine aops_nil (xt_n (hK _ ?_)); clear hK K
  refine w_cond (t := decide (s < (0 : Int)) || decide ((256 : Int) < s)) (by kernel_rfl) (fun c1 => ?_) (fun c1 => ?_)
  ·
   simp at c1
   refine aw_seq_k fun K hK => wR 6 ?_; refine aX hTT 2 [] True.intro ?_; refine aops_nil (xt_n (hK _ ?_)); clear hK K
   refine aw_ret ?_
   refine xt_r ?_
   rw [(gain_2 h c1).1, (gain_2 h c1).2]
   refine ret_of_le (le_nil 6 (sz := 1) 0 (fun k => [.i (gi [] k)]) (by kernel_rfl) ?_) ?_
   ·
    rfl
   refine rP (zzFA100)
  simp at c1
  refine aw_skip ?_
  refine xt_n (hK _ ?_); clear hK K; refine aw_seq_k fun K hK => ?_; refine aw_seq_k fun K hK => wR 6 ?_; refine aX hTT 2 [(0, .c qFA100)] ⟨qFA100_, True.intro⟩ ?_
  refine eC (ways_ac p.length) ?_
  refine aops_nil (xt_n (hK _ ?_)); clear hK K
  refine aw_block ?_
  have hnl := needL_len p c
  have hbd := needL_bd h
  have hwl : (wayV p.length).length = 2 * p.length - 2 := by simp [wayV]
  refine w_rangeN (caps := [V.ptr [V.i (↑(List.length p) : Int)]]) hF hC ((ways_aiter p.length (by omega))) (by kernel_rfl) (by kernel_rfl) ?_ (by kernel_rfl) [500, 501] [(500, 200008), (501, 200015)] [(5, .ptr [.i s]), (8, .ref 500 0)] (fun _ => True) (fun k => [.box 25 [.own 501], RowI p.length (wayF (needL p c) s k)]) (fun _ _ _ => False) ?_ (by kernel_rfl) (by kernel_rfl) (by kernel_rfl) (.cons (by kernel_rfl) (.cons (by kernel_rfl) .nil)) (.cons ⟨Ob.box 25 [V.own 200015], (by kernel_rfl), .box (by kernel_rfl)⟩ (.cons ⟨Ob.row 2 1 (List.length p) fun (i : Nat) => V.renL (callG (2 : Nat) (some (15 : Tmp))) [V.i (needI (gp p i) c)], (by kernel_rfl), .row (by kernel_rfl) ?_⟩ .nil)) (by kernel_rfl) ?_ ?_ ?_ ?_ ?_
  ·
   intro x hx
   simp only [wayV, List.mem_map] at hx
   obtain ⟨j, _, rfl⟩ := hx
   rfl
  ·
   trivial
  ·
   intro i hi
   show _ = [V.i (gi (needL p c) i)]
   rw [needL_gi hi]
   rfl
  ·
   intro j o ho
   simp at ho
   rcases ho with rfl | rfl
   ·
    rfl
   ·
    exact fun _ _ => rfl
  ·
   intro _ _ _ h
   exact h.elim
  ·
   rintro C' ⟨lx, hF'⟩ j x hx _
   obtain ⟨hk, rfl⟩ : j < 2 * p.length - 2 ∧ [V.i (wayAt p.length j : Nat), V.i (wayB p.length j : Nat)] = x := by
    unfold wayV at hx
    rw [List.getElem?_map] at hx
    by_cases hk : j < 2 * p.length - 2
    ·
     rw [List.getElem?_range hk] at hx
     exact ⟨hk, by simpa using hx⟩
    ·
     rw [List.getElem?_eq_none (by simpa using hk)] at hx; cases hx
   obtain ⟨w1, w2⟩ := way_lt hk
   have b1 := wayF_bd c1.1 hbd j (wayAt p.length j)
   have b2 := wayF_bd c1.1 hbd j (wayB p.length j)
   refine aw_seq_k fun K hK => wR 2 ?_; refine aX hTT 1 [] True.intro ?_; refine aops_nil (xt_n (hK _ ?_)); clear hK K; refine wR 3 ?_; refine aX hTT 1 [] True.intro ?_; refine aops_nil ?_; refine xt_n ?_
   refine aw_block ?_
   refine wD 4 ?_; refine aX hTT 15 [(0, .c qFA100), (2, .c qFA100), (4, .c ((0 : Int) ≤ (↑(wayAt (List.length p) j) : Int) ∧ (↑(wayAt (List.length p) j) : Int) < (↑(List.length p) : Int))), (5, .c (wayAt (List.length p) j < List.length p ∧ (0 : Nat) ≤ (1 : Nat))), (6, .c qFA100), (8, .c ((0 : Int) ≤ (↑(wayB (List.length p) j) : Int) ∧ (↑(wayB (List.length p) j) : Int) < (↑(List.length p) : Int))), (9, .c (wayB (List.length p) j < List.length p ∧ (0 : Nat) ≤ (1 : Nat))), (11, .i (wayF (needL p c) s j (wayB (List.length p) j) + s)), (13, .c ((0 : Int) ≤ (↑(wayAt (List.length p) j) : Int) ∧ (↑(wayAt (List.length p) j) : Int) < (↑(List.length p) : Int))), (14, .r (pw (wayAt (List.length p) j < List.length p ∧ (0 : Nat) + (1 : Nat) ≤ (1 : Nat)) (501 : Nat) (Ob.row 2 1 (List.length p) fun (j_1 : Nat) => if j_1 = wayAt (List.length p) j then [V.i (min (wayF (needL p c) s j (wayAt (List.length p) j)) (wayF (needL p c) s j (wayB (List.length p) j) + s))] else [V.i (wayF (needL p c) s j j_1)])))] ⟨qFA100_, qFA100_, (by omega), (by omega), qFA100_, (by omega), (by omega), (by omega), (by omega), (by omega), True.intro⟩ ?_; refine aops_nil ⟨by kernel_rfl, ?_⟩; refine xb_n ?_
   refine ⟨trivial, ?_⟩
   refine le_ren (sl := [(500, Ob.box 25 [V.own 501]), (501, Ob.row 2 1 (List.length p) fun (j_1 : Nat) => [V.i (wayF (needL p c) s (j + (1 : Nat)) j_1)])]) [] .nil (.cons ⟨Ob.box 25 [V.own 501], (by kernel_rfl), .box (by kernel_rfl)⟩ (.cons ⟨Ob.row 2 1 (List.length p) fun (j_1 : Nat) => if j_1 = wayAt (List.length p) j then [V.i (min (wayF (needL p c) s j (wayAt (List.length p) j)) (wayF (needL p c) s j (wayB (List.length p) j) + s))] else [V.i (wayF (needL p c) s j j_1)], (by kernel_rfl), .row (by kernel_rfl) ?_⟩ .nil)) (by kernel_rfl) (by kernel_rfl)
   intro i hi
   simp only [wayF, hnl]
   by_cases hi2 : i = wayAt p.length j
   ·
    subst hi2
    simp
    rfl
   ·
    simp [hi2]
    rfl
  ·
   intro _
   rw [hwl]
   refine xb_n ?_; refine xt_n (hK _ ?_); clear hK K; refine aw_seq_k fun K hK => wR 2 ?_; refine aX hTT 3 [(0, .c qFA100)] ⟨qFA100_, True.intro⟩ ?_; refine aops_nil (xt_n (hK _ ?_)); clear hK K
   refine aw_ret ?_
   refine ret_of_le (le_shut 6 501 (e := (2 : Nat)) (sz := (1 : Nat)) (n := List.length p) (n' := (gainL (needL p c) s).length) (row := fun (j : Nat) => [V.i (wayF (needL p c) s ((2 : Nat) * List.length p - (2 : Nat)) j)]) (row' := (fun k => [.i (gi (gainL (needL p c) s) k)])) (by kernel_rfl) (by kernel_rfl) (fun _ _ => rfl) ?_ ?_) ?_
   ·
    rw [gainL_len, hnl]
   ·
    intro i hi
    rw [gainL_gi (by rw [hnl]; exact hi), ← wayF_gain c1.1 (by rw [hnl]; exact hi), hnl]
   rw [(gain_3 h c1).1, (gain_3 h c1).2]
   refine rP (V.tup [V.sl 1 (List.length (gainL (needL p c) s)) fun (k : Nat) => [V.i (gi (gainL (needL p c) s) k)], V.i 0])
  ·
   intro _ _ _ _ h
   exact h.elim
 ·
  refine acI hTT hMX Tryz.func48 Tryz.ntmps48 fun C hC hF => ?_
  refine aw_seq_k fun K hK => wR 2 ?_; refine aX hTT 3 [] True.intro ?_; refine aops_nil (xt_n (hK _ ?_)); clear hK K; refine aw_seq_k fun K hK => wR 3 ?_; refine aX hTT 2 [] True.intro ?_
  refine eC (Needs_no p c hl h) ?_
  refine aX hTT 6 [(3, .r (pn 8 (V.ref 200008 0) (200008 : Nat) (Ob.box 25 [V.nil]))), (4, .r (pw ((0 : Nat) + (1 : Nat) ≤ (1 : Nat)) (200008 : Nat) (Ob.box 25 [V.sl 1 0 fun (k : Nat) => [V.i (gi [] k)]])))] ⟨(by omega), True.intro⟩ ?_; refine aops_nil (xt_n (hK _ ?_)); clear hK K; refine aw_seq_k fun K hK => ?_; refine aw_seq_k fun K hK => wR 4 ?_; refine aX hTT 2 [] True.intro ?_; refine aops_nil (xt_n (hK _ ?_)); clear hK K
  refine w_cond (t := !decide (needE p c = (0 : Int))) (by kernel_rfl) (fun c1 => ?_) (fun c1 => ?_)
  ·
   refine aw_seq_k fun K hK => ?_
   refine wR 5 ?_; refine aX hTT 3 [] True.intro ?_; refine aops_nil (xt_n (hK _ ?_)); clear hK K
   refine aw_ret ?_
   refine xt_r ?_
   rw [(gain_1 h).1, (gain_1 h).2]
   refine ret_of_le (le_nil 6 (sz := 1) 0 (fun k => [.i (gi [] k)]) (by kernel_rfl) ?_) ?_
   ·
    rfl
   refine rP (V.tup [V.sl 1 0 fun (k : Nat) => [V.i (gi [] k)], V.i (needE p c)])
  ·
   simp at c1
   exact absurd c1 h
end Go.Proofs.YtepkjobndmmejaaGreatDoor

namespace Go.Proofs.YtepkjobndmmejaaGreatDoor
open Go.Ab Go.RowKit Go.Dw Go.Shelf
theorem RImp.agg {us' us : List V} (h : A2 us' us) : RImp (.agg us') (.agg us) := by
  intro w L x hx
  obtain ⟨xs, rfl, hl⟩ := hx.agg_inv
  have hv := h.rv hl.rv
  exact .agg' ⟨hv.1, fun i u x hu hx => ⟨hv.2 i u x hu hx, hl.one x (List.mem_of_getElem? hx)⟩⟩
theorem RImp.lit1 (l : List Int) : RImp (.sl 1 l.length fun i => ((l.map V.i).drop (i * 1)).take 1) (V.ints l) := by
  refine .rows rfl fun i hi => ?_
  rw [Nat.mul_one, List.drop_eq_getElem_cons (by simpa using hi)]
  simp [gi_eq hi]
end Go.Proofs.YtepkjobndmmejaaGreatDoor

namespace Go.Proofs.YtepkjobndmmejaaGreatDoor
open Go.Ab Go.RowKit Go.Dw Go.Shelf
def ckAt (p : List Pt) (c s : Int) (g : List Int) (i : Nat) : Int :=
 if gi g i < 0 ∨ 256 < gi g i then 3 else if needI (gp p i) c < gi g i then 14 else if 0 < i ∧ s < absI (gi g i - gi g (i - 1)) then 20 else 0
def ckI (p : List Pt) (c s : Int) (g : List Int) : Int × Int :=
 if gainE p c s ≠ 0 then (0, gainE p c s) else if g.length ≠ p.length then (0, 17) else match (List.range g.length).find? fun i => decide (ckAt p c s g i ≠ 0) with
  | some i => ((i : Int), ckAt p c s g i)
  | none => ((g.length : Int), 0)
theorem ck_2 {p : List Pt} {c s : Int} {g : List Int} (h : gainE p c s = 0) (h2 : ¬ g.length = p.length) : ckI p c s g = (0, 17) := by rw [ckI, if_neg (by simp [h]), if_pos h2]
theorem ck_3 {p : List Pt} {c s : Int} {g : List Int} (h : gainE p c s = 0) (h2 : g.length = p.length) {i : Nat} (hi : i < g.length) (ha : ckAt p c s g i ≠ 0) (hb : ∀ j, j < i → ckAt p c s g j = 0) : ckI p c s g = ((i : Int), ckAt p c s g i) := by
 have : (List.range g.length).find? (fun i => decide (ckAt p c s g i ≠ 0)) = some i := by
  rw [List.find?_range_eq_some]
  exact ⟨by simpa using ha, by simpa using hi, fun j hj => by simp [hb j hj]⟩
 rw [ckI, if_neg (by simp [h]), if_neg (by simp [h2]), this]
theorem ck_4 {p : List Pt} {c s : Int} {g : List Int} (h : gainE p c s = 0) (h2 : g.length = p.length) (hb : ∀ j, j < g.length → ckAt p c s g j = 0) : ckI p c s g = ((g.length : Int), 0) := by
 have : (List.range g.length).find? (fun i => decide (ckAt p c s g i ≠ 0)) = none := by
  rw [List.find?_eq_none]
  intro x hx
  simp [hb x (by simpa using hx)]
 rw [ckI, if_neg (by simp [h]), if_neg (by simp [h2]), this]
theorem gainE_ok {p : List Pt} {c s : Int} : gainE p c s = 0 ↔ needE p c = 0 ∧ 0 ≤ s ∧ s ≤ 256 := by
 by_cases h : needE p c = 0
 ·
  by_cases h2 : s < 0 ∨ 256 < s
  ·
   rw [(gain_2 h h2).1]; simp [h]; omega
  ·
   rw [(gain_3 h (by omega)).1]; simp [h]; omega
 ·
  rw [(gain_1 h).1]; simp [h]
def limL (p : List Pt) (g : List Int) : List Pt := (List.range p.length).map fun k => (withI (gp p k).1 (gi g k), withI (gp p k).2 (gi g k))
def limR (p : List Pt) (c s : Int) : List Pt := if gainE p c s = 0 then limL p (gainR p c s) else []
theorem limL_len (p : List Pt) (g : List Int) : (limL p g).length = p.length := by simp [limL]
theorem limL_gp {p : List Pt} {g : List Int} {k : Nat} (h : k < p.length) : gp (limL p g) k = (withI (gp p k).1 (gi g k), withI (gp p k).2 (gi g k)) := by simp [limL, gp, h]
theorem gainAt_bd {n : List Int} {s : Int} (hs : 0 ≤ s) (hn : ∀ k, 0 ≤ gi n k ∧ gi n k ≤ 256) (t : Nat) : 0 ≤ gainAt n s t ∧ gainAt n s t ≤ 256 := by
 refine ⟨?_, Int.le_trans (gUp_le _ _ _ _).1 (hn t).2⟩
 unfold gainAt
 rcases gUp_eq (n := n) (s := s) (t := t) n.length with e | ⟨v, _, e⟩
 ·
  rw [e]; exact (hn t).1
 ·
  rw [e]
  have h5 := (hn v).1
  have h6 := Int.mul_nonneg hs (absI_nonneg ((t : Int) - (v : Int)))
  omega
theorem gainR_bd {p : List Pt} {c s : Int} (h : gainE p c s = 0) (k : Nat) : 0 ≤ gi (gainR p c s) k ∧ gi (gainR p c s) k ≤ 256 := by
 obtain ⟨h1, h2⟩ := gainE_ok.1 h
 rw [(gain_3 h1 h2).2]
 by_cases hk : k < (needL p c).length
 ·
  rw [gainL_gi hk]; exact gainAt_bd h2.1 (needL_bd h1) k
 ·
  rw [gi_out (by rw [gainL_len]; omega)]; omega
theorem gainR_len {p : List Pt} {c s : Int} (h : gainE p c s = 0) : (gainR p c s).length = p.length := by
 obtain ⟨h1, h2⟩ := gainE_ok.1 h
 rw [(gain_3 h1 h2).2, gainL_len, needL_len]
abbrev yyFA130 (p : List Pt) (c : Int) (s : Int) : Ob := Ob.row 46 2 0 fun (k : Nat) => [V.i (withI (Prod.fst (gp p k)) (gi (gainR p c s) k)), V.i (withI (Prod.snd (gp p k)) (gi (gainR p c s) k))]
set_option maxRecDepth 100000 in
theorem Limit_ac (p : List Pt) (c s : Int) (hl : p.length ≤ bigL) : AC Tryz.prog 21 [V.pts p, .i c, .i s] (.tup [V.pts (limR p c s), .i (gainE p c s)]) [] := by
 refine acI hTT hMX Tryz.func21 Tryz.ntmps21 fun C hC hF => ?_
 refine aw_seq_k fun K hK => wR 2 ?_; refine aX hTT 2 [] True.intro ?_; refine aops_nil (xt_n (hK _ ?_)); clear hK K; refine aw_seq_k fun K hK => wR 3 ?_; refine aX hTT 3 [] True.intro ?_
 refine eC (Gains_ac p c s hl) ?_
 refine aX hTT 5 [] True.intro ?_; refine aops_nil (xt_n (hK _ ?_)); clear hK K; refine aw_seq_k fun K hK => ?_; refine aw_seq_k fun K hK => wR 4 ?_; refine aX hTT 2 [] True.intro ?_; refine aops_nil (xt_n (hK _ ?_)); clear hK K
 refine w_cond (t := !decide (gainE p c s = (0 : Int))) (by kernel_rfl) (fun c1 => ?_) (fun c1 => ?_)
 ·
  simp at c1
  refine aw_seq_k fun K hK => wR 5 ?_; refine aX hTT 3 [] True.intro ?_; refine aops_nil (xt_n (hK _ ?_)); clear hK K
  refine aw_ret ?_
  refine xt_r ?_
  rw [show limR p c s = [] by unfold limR; rw [if_neg c1]]
  refine ret_of_le (le_nil 6 (sz := 2) 0 (fun k => [.i (gp [] k).1, .i (gp [] k).2]) (by kernel_rfl) ?_) ?_
  ·
   rfl
  refine rP (V.tup [V.sl 2 0 fun (k : Nat) => [V.i (Prod.fst (gp [] k)), V.i (Prod.snd (gp [] k))], V.i (gainE p c s)])
 simp at c1
 obtain ⟨h1, h2⟩ := gainE_ok.1 c1
 obtain ⟨h3, h4⟩ := progE_ok.1 (needE_ok.1 h1).1
 have hgl := gainR_len c1
 refine aw_skip ?_
 refine xt_n (hK _ ?_); clear hK K; refine aw_seq_k fun K hK => wR 5 ?_; refine aX hTT 1 [] True.intro ?_; refine aops_nil (xt_n (hK _ ?_)); clear hK K; refine aw_seq_k fun K hK => ?_; refine aw_seq_k fun K hK => wR 6 ?_; refine aX hTT 3 [] True.intro ?_; refine aops_nil (xt_n (hK _ ?_)); clear hK K
 refine aw_block ?_
 refine w_le (le_open 10 46 2 (fun k => [.i (withI (gp p k).1 (gi (gainR p c s) k)), .i (withI (gp p k).2 (gi (gainR p c s) k))]) (by kernel_rfl) rfl) ?_
 skip
 refine w_loop (ι := Nat) (fun k => [(8, V.ints (gainR p c s)), (10, .own 10), (23, V.pts p), (24, .i p.length), (25, .i k)]) (fun k => [(10, .row 46 2 k fun k => [.i (withI (gp p k).1 (gi (gainR p c s) k)), .i (withI (gp p k).2 (gi (gainR p c s) k))])]) (fun k => k ≤ p.length) (fun k => p.length - k) 0 (Nat.zero_le _) ?_ ?_
 ·
  refine le_ren (sl := [(10, (yyFA130 p c s))]) [(10, 600010)] (.cons (by kernel_rfl) (.cons (by kernel_rfl) (.cons (by kernel_rfl) (.cons (by kernel_rfl) (.cons (by kernel_rfl) .nil))))) (.cons ⟨(yyFA130 p c s), (by kernel_rfl), .row (by kernel_rfl) (fun _ _ => rfl)⟩ .nil) (by kernel_rfl) (by kernel_rfl)
 intro k hk
 refine aw_seq_k fun K hK => wR 2 ?_; refine aX hTT 1 [] True.intro ?_; refine aops_nil (xt_n (hK _ ?_)); clear hK K; refine aw_seq_k fun K hK => ?_
 refine w_cond (t := decide ((↑k : Int) < (↑(List.length p) : Int))) (by kernel_rfl) (fun c2 => ?_) (fun c2 => ?_)
 ·
  simp at c2
  have hb := gainR_bd c1 k
  have w1 := with_bd (h4 k c2).1 hb
  have w2 := with_bd (h4 k c2).2 hb
  refine aw_skip ?_
  refine xt_n (hK _ ?_); clear hK K; refine aw_seq_k fun K hK => ?_
  refine aw_block ?_
  refine aw_seq_k fun K hK => wR 3 ?_; refine aX hTT 6 [(1, .c ((0 : Int) ≤ (↑k : Int) ∧ (↑k : Int) < (↑(List.length p) : Int))), (3, .r (pn 12 (V.ref 200012 0) (200012 : Nat) (Ob.box 46 [V.i 0, V.i 0]))), (5, .r (pw ((0 : Nat) + (2 : Nat) ≤ (2 : Nat)) (200012 : Nat) (Ob.box 46 [V.i (Prod.fst (gp p k)), V.i (Prod.snd (gp p k))])))] ⟨(by omega), (by omega), True.intro⟩ ?_; refine aops_nil (xt_n (hK _ ?_)); clear hK K; refine wD 4 ?_; refine aX hTT 21 [(2, .c ((0 : Nat) ≤ (2 : Nat))), (5, .c ((0 : Int) ≤ (↑k : Int) ∧ (↑k : Int) < (↑(List.length (gainR p c s)) : Int))), (7, .i (Prod.fst (gp p k) * gi (gainR p c s) k)), (8, .c ((0 : Int) < (256 : Int) ∧ (-9223372036854775808 : Int) ≤ Prod.fst (gp p k) * gi (gainR p c s) k ∧ Prod.fst (gp p k) * gi (gainR p c s) k ≤ (9223372036854775807 : Int))), (10, .c ((1 : Nat) ≤ (2 : Nat))), (13, .c ((0 : Int) ≤ (↑k : Int) ∧ (↑k : Int) < (↑(List.length (gainR p c s)) : Int))), (15, .i (Prod.snd (gp p k) * gi (gainR p c s) k)), (16, .c ((0 : Int) < (256 : Int) ∧ (-9223372036854775808 : Int) ≤ Prod.snd (gp p k) * gi (gainR p c s) k ∧ Prod.snd (gp p k) * gi (gainR p c s) k ≤ (9223372036854775807 : Int))), (19, .r (PR.mk (some (49 : Nat)) (some (k + (1 : Nat) ≤ (1099511627776 : Nat))) (V.own 300049) [((10 : Nat), none), ((300049 : Nat), some (Ob.row 46 2 (k + (1 : Nat)) (appRow k (fun (k : Nat) => [V.i (withI (Prod.fst (gp p k)) (gi (gainR p c s) k)), V.i (withI (Prod.snd (gp p k)) (gi (gainR p c s) k))]) fun (i : Nat) => List.take (2 : Nat) (List.drop (i * (2 : Nat)) [V.i (Int.tdiv (Prod.fst (gp p k) * gi (gainR p c s) k) (256 : Int)), V.i (Int.tdiv (Prod.snd (gp p k) * gi (gainR p c s) k) (256 : Int))]))))] false))] ⟨(by omega), (by omega), (by omega), ⟨(by omega), (by omega)⟩, (by omega), (by omega), (by omega), ⟨(by omega), (by omega)⟩, (by omega), True.intro⟩ ?_; refine aops_nil ⟨by kernel_rfl, ?_⟩; refine xb_n ?_; refine xt_n (hK _ ?_); clear hK K; refine wR 5 ?_; refine aX hTT 2 [(0, .i ((↑k : Int) + (1 : Int)))] ⟨(by omega), True.intro⟩ ?_; refine aops_nil ?_; refine xt_n ?_
  refine ⟨k + 1, by omega, ?_, by omega⟩
  refine le_ren (tl := [(8, V.sl 1 (List.length (gainR p c s)) fun (k : Nat) => [V.i (gi (gainR p c s) k)]), (10, V.own 10), (23, V.sl 2 (List.length p) fun (k : Nat) => [V.i (Prod.fst (gp p k)), V.i (Prod.snd (gp p k))]), (24, V.i (↑(List.length p) : Int)), (25, V.i (↑(k + (1 : Nat)) : Int))]) (sl := [(10, Ob.row 46 2 (k + (1 : Nat)) fun (k : Nat) => [V.i (withI (Prod.fst (gp p k)) (gi (gainR p c s) k)), V.i (withI (Prod.snd (gp p k)) (gi (gainR p c s) k))])]) [(10, 300049)] (.cons (by kernel_rfl) (.cons (by kernel_rfl) (.cons (by kernel_rfl) (.cons (by kernel_rfl) (.cons (by kernel_rfl) .nil))))) (.cons ⟨Ob.row 46 2 (k + (1 : Nat)) (appRow k (fun (k : Nat) => [V.i (withI (Prod.fst (gp p k)) (gi (gainR p c s) k)), V.i (withI (Prod.snd (gp p k)) (gi (gainR p c s) k))]) fun (i : Nat) => List.take (2 : Nat) (List.drop (i * (2 : Nat)) [V.i (Int.tdiv (Prod.fst (gp p k) * gi (gainR p c s) k) (256 : Int)), V.i (Int.tdiv (Prod.snd (gp p k) * gi (gainR p c s) k) (256 : Int))])), (by kernel_rfl), .row (by kernel_rfl) ?_⟩ .nil) (by kernel_rfl) (by kernel_rfl)
  intro i hi
  by_cases h : i < k
  ·
   rw [appRow, if_pos h]
   rfl
  ·
   obtain rfl : i = k := by omega
   rw [appRow, if_neg h, Nat.sub_self]
   rfl
 ·
  simp at c2
  obtain rfl : k = p.length := by omega
  refine aw_exit ?_
  refine xt_x ?_; refine xt_x ?_
  refine xb_same ?_
  refine xt_n ?_; clear hK K; refine hK _ ?_; clear hK K; refine aw_seq_k fun K hK => wR 3 ?_; refine aX hTT 3 [] True.intro ?_; refine aops_nil (xt_n (hK _ ?_)); clear hK K
  refine aw_ret ?_
  rw [show limR p c s = limL p (gainR p c s) by unfold limR; rw [if_pos c1], c1]
  refine ret_of_le (le_shut 6 10 (e := (46 : Nat)) (sz := (2 : Nat)) (n := List.length p) (n' := (limL p (gainR p c s)).length) (row := fun (k : Nat) => [V.i (withI (Prod.fst (gp p k)) (gi (gainR p c s) k)), V.i (withI (Prod.snd (gp p k)) (gi (gainR p c s) k))]) (row' := (fun k => [.i (gp (limL p (gainR p c s)) k).1, .i (gp (limL p (gainR p c s)) k).2])) (by kernel_rfl) (by kernel_rfl) (fun _ _ => rfl) ?_ ?_) ?_
  ·
   rw [limL_len]
  ·
   intro i hi
   rw [limL_gp hi]
  refine rP (V.tup [V.sl 2 (List.length (limL p (gainR p c s))) fun (k : Nat) => [V.i (Prod.fst (gp (limL p (gainR p c s)) k)), V.i (Prod.snd (gp (limL p (gainR p c s)) k))], V.i 0])
end Go.Proofs.YtepkjobndmmejaaGreatDoor

namespace Go.Proofs.YtepkjobndmmejaaGreatDoor
open Go.Ab Go.RowKit Go.Dw Go.Shelf
end Go.Proofs.YtepkjobndmmejaaGreatDoor

namespace Go.Proofs.YtepkjobndmmejaaGreatDoor
open Go.Ab Go.RowKit Go.Dw Go.Shelf
theorem gainAt_need {n : List Int} {s : Int} {t : Nat} : gainAt n s t ≤ gi n t := (gUp_le n s t n.length).1
theorem ckAt_ok {p : List Pt} {c s : Int} {g : List Int} {i : Nat} : ckAt p c s g i = 0 ↔ (0 ≤ gi g i ∧ gi g i ≤ 256) ∧ gi g i ≤ needI (gp p i) c ∧ (0 < i → absI (gi g i - gi g (i - 1)) ≤ s) := by
  unfold ckAt
  split
  · rename_i h; simp; omega
  · split
    · rename_i h; simp; omega
    · split
      · rename_i h1 h2 h; simp; intro _ _ _; exact ⟨h.1, h.2⟩
      · rename_i h1 h2 h; simp; refine ⟨by omega, by omega, fun h0 => ?_⟩; omega
theorem fair_gains {p : List Pt} {c s : Int} (h : gainE p c s = 0) : ckI p c s (gainR p c s) = ((p.length : Int), 0) := by
  obtain ⟨h1, h2⟩ := gainE_ok.1 h
  have hr := (gain_3 h1 h2).2
  have hl := gainR_len h
  rw [ck_4 h hl (fun j hj => ?_), hl]
  rw [hl] at hj
  have hj' : j < (needL p c).length := by rw [needL_len]; exact hj
  have b := gainR_bd h j
  refine ckAt_ok.2 ⟨b, ?_, fun h0 => ?_⟩
  · rw [hr, gainL_gi hj', ← needL_gi hj]; exact gainAt_need
  · rw [hr, gainL_gi hj', gainL_gi (by omega)]
    have a1 := gain_step (n := needL p c) h2.1 (t := j) (t' := j - 1) hj' (by omega)
    have a2 := gain_step (n := needL p c) h2.1 (t := j - 1) (t' := j) (by omega) (by omega)
    unfold absI
    omega
theorem ck_fair {p : List Pt} {c s : Int} {g : List Int} (h : gainE p c s = 0) (h2 : (ckI p c s g).2 = 0) : g.length = p.length ∧ (ckI p c s g).1 = (g.length : Int) ∧ ∀ j, j < g.length → ckAt p c s g j = 0 := by
  by_cases hl : g.length = p.length
  · by_cases hc : ∃ i, i < g.length ∧ ckAt p c s g i ≠ 0
    · obtain ⟨i, ⟨h3, h4⟩, h5⟩ := least _ hc
      rw [ck_3 h hl h3 h4 fun j hj => by
        by_cases e : ckAt p c s g j = 0
        · exact e
        · have := h5 j ⟨by omega, e⟩; omega] at h2
      exact absurd h2 h4
    · have hall : ∀ j, j < g.length → ckAt p c s g j = 0 := fun j hj => by
        by_cases e : ckAt p c s g j = 0
        · exact e
        · exact absurd ⟨j, hj, e⟩ hc
      refine ⟨hl, ?_, hall⟩
      rw [ck_4 h hl hall]
  · rw [ck_2 h hl] at h2; cases h2
theorem limited {p : Pt} {c g : Int} (hc : 1 ≤ c) (h0 : 0 ≤ amtS p) (hg : 0 ≤ g ∧ g ≤ 256) (h : g ≤ needI p c) : absI (withI p.1 g) ≤ c ∧ absI (withI p.2 g) ≤ c := by
  have := (needI_iff hc h0 hg).2 h
  unfold okG at this
  simp at this
  omega
end Go.Proofs.YtepkjobndmmejaaGreatDoor

namespace Go.Proofs.YtepkjobndmmejaaGreatDoor
open Go.RowKit Go.Dw
end Go.Proofs.YtepkjobndmmejaaGreatDoor

namespace Go.Proofs.YtepkjobndmmejaaGreatDoor
open Go.RowKit Go.Dw
theorem maxTo_mem {l : List Int} : ∀ k, ∃ j, j ≤ k ∧ maxTo l k = gi l j
  | 0 => ⟨0, Nat.le_refl _, rfl⟩
  | k + 1 => by
    obtain ⟨j, hj, e⟩ := maxTo_mem (l := l) k
    simp only [maxTo]
    rcases Int.le_total (maxTo l k) (gi l (k + 1)) with h | h
    · exact ⟨k + 1, Nat.le_refl _, by omega⟩
    · exact ⟨j, by omega, by omega⟩
theorem minTo_mem {l : List Int} : ∀ k, ∃ j, j ≤ k ∧ minTo l k = gi l j
  | 0 => ⟨0, Nat.le_refl _, rfl⟩
  | k + 1 => by
    obtain ⟨j, hj, e⟩ := minTo_mem (l := l) k
    simp only [minTo]
    rcases Int.le_total (minTo l k) (gi l (k + 1)) with h | h
    · exact ⟨j, by omega, by omega⟩
    · exact ⟨k + 1, Nat.le_refl _, by omega⟩
end Go.Proofs.YtepkjobndmmejaaGreatDoor

namespace Go.Proofs.YtepkjobndmmejaaGreatDoor
open Go.Ab Go.RowKit Go.Dw Go.Shelf
theorem td_pm {x a : Int} (h : -a ≤ x ∧ x ≤ a) : -(a.tdiv 1000) ≤ x.tdiv 1000 ∧ x.tdiv 1000 ≤ a.tdiv 1000 := by
 have ha : 0 ≤ a := by omega
 rw [Int.tdiv_eq_ediv_of_nonneg ha]
 by_cases hx : 0 ≤ x
 ·
  rw [Int.tdiv_eq_ediv_of_nonneg hx]; omega
 ·
  have e : x.tdiv 1000 = -((-x) / 1000) := by
   have := Int.neg_tdiv (a := -x) (b := 1000)
   rw [Int.neg_neg] at this
   rw [this, Int.tdiv_eq_ediv_of_nonneg (by omega)]
  rw [e]; omega
theorem chE_pm {g n m : Int} (hg : 0 ≤ g) (h : -m ≤ n ∧ n ≤ m) : -(chE g m) ≤ chE g n ∧ chE g n ≤ chE g m := by
 have h1 := Int.mul_le_mul_of_nonneg_right h.1 hg
 have h2 := Int.mul_le_mul_of_nonneg_right h.2 hg
 rw [Int.neg_mul] at h1
 exact td_pm ⟨h1, h2⟩
def AmtL (q : List Pt) (t : Int) : Prop := ∀ k, k < q.length → (-t ≤ (gp q k).1 ∧ (gp q k).1 ≤ t) ∧ -t ≤ (gp q k).2 ∧ (gp q k).2 ≤ t
theorem sChkA_ok {q : List Pt} : sChk q = 0 ↔ q.length ≤ 4096 ∧ AmtL q 32767 := by
 unfold sChk AmtL
 constructor
 ·
  intro h
  split at h
  ·
   cases h
  ·
   split at h
   ·
    rename_i h1 h2
    exact ⟨by omega, fun k hk => sE_iff.1 (all_gp.1 h2 k hk)⟩
   ·
    cases h
 ·
  rintro ⟨h1, h2⟩
  rw [if_neg (by omega), if_pos (all_gp.2 fun k hk => sE_iff.2 (h2 k hk))]
theorem AmtL.mono {q : List Pt} {t t' : Int} (h : AmtL q t) (ht : t ≤ t') : AmtL q t' := fun k hk => by have := h k hk; omega
theorem progE_sChk {q : List Pt} (h : sChk q = 0) : progE q = 0 := by
 obtain ⟨h1, h2⟩ := sChkA_ok.1 h
 exact progE_ok.2 ⟨by omega, fun k hk => by have := h2 k hk; omega⟩
theorem wall_pts {c : Cut} {q : List Pt} (hc : cutE c = 0) (hs : sChk q = 0) : checkPts (q.map (wallP c)) = 0 := by
 obtain ⟨h1, h2⟩ := sChkA_ok.1 hs
 refine checkPts_good (by simpa using h1) (List.all_eq_true.2 fun x hx => ?_)
 obtain ⟨y, hy, rfl⟩ := List.mem_map.1 hx
 obtain ⟨k, hk, rfl⟩ := List.getElem_of_mem hy
 have e : q[k] = gp q k := by simp [gp, List.getD_eq_getElem?_getD, List.getElem?_eq_getElem hk]
 rw [e]
 have := gE_iff.1 (wallP_gE hc (sE_iff.2 (h2 k hk)))
 exact (edgeB_iff _).2 ⟨this.1.1, this.1.2, this.2.1, this.2.2⟩
theorem wall_bend {c : Cut} {q : List Pt} {t : Int} (hc : cutE c = 0) (hq : AmtL q t) {k : Nat} (hk : k + 2 < q.length) : -(8 * chE c.gain t) ≤ bendAt (q.map (wallP c)) (k + 1) ∧ bendAt (q.map (wallP c)) (k + 1) ≤ 8 * chE c.gain t := by
 have hg := (cutE_ok.1 hc).2.1.1
 unfold bendAt
 rw [show k + 1 - 1 = k by omega, gp_map (by omega), gp_map (by omega), gp_map (by omega)]
 have a := hq k (by omega)
 have b := hq (k + 1) (by omega)
 have d := hq (k + 1 + 1) (by omega)
 have a1 := chE_pm hg a.1
 have a2 := chE_pm hg a.2
 have b1 := chE_pm hg b.1
 have b2 := chE_pm hg b.2
 have d1 := chE_pm hg d.1
 have d2 := chE_pm hg d.2
 simp only [wallP]
 omega
theorem held_jump {c : Cut} {q : List Pt} {t : Int} (hc : cutE c = 0) (hs : sChk q = 0) (ht : 0 ≤ t ∧ t ≤ 32767) (hq : AmtL q t) : jumpI (8 * chE c.gain t) 0 (q.map (wallP c)) = (0, 0, 5) := by
 have hg := (cutE_ok.1 hc).2.1
 have b := chE_bd (n := t) hg (by omega)
 have b0 := chE_ge0 hg.1 ht.1
 refine jumpI_none (armB_iff.2 ⟨by omega, by omega, by omega, by omega⟩) (wall_pts hc hs) fun j hj => ?_
 rw [List.length_map] at hj
 have := wall_bend hc hq (k := j) (by omega)
 unfold outB
 simp
 omega
theorem held_bal {c : Cut} {q : List Pt} {t : Int} (hc : cutE c = 0) (hs : sChk q = 0) (ht : 0 ≤ t) (hq : AmtL q t) : (balArm (q.map (wallP c))).1 ≤ 8 * chE c.gain t := by
 have hg := (cutE_ok.1 hc).2.1
 have b0 := chE_ge0 hg.1 ht
 unfold balArm
 split
 ·
  rename_i h
  obtain ⟨h1, h2⟩ := h
  rw [List.length_map] at h2
  obtain ⟨i, hi, e1⟩ := maxTo_mem (l := bendsL (q.map (wallP c))) ((q.map (wallP c)).length - 3)
  obtain ⟨j, hj, e2⟩ := minTo_mem (l := bendsL (q.map (wallP c))) ((q.map (wallP c)).length - 3)
  rw [List.length_map] at hi hj
  have b1 := wall_bend hc hq (k := i) (by omega)
  have b2 := wall_bend hc hq (k := j) (by omega)
  simp only [balHi, balLo]
  rw [e1, e2, bendsL_gi (by rw [List.length_map]; omega), bendsL_gi (by rw [List.length_map]; omega)]
  omega
 ·
  exact Int.mul_nonneg (by decide) b0
theorem lim_amt {p : List Pt} {c s : Int} (h : gainE p c s = 0) : (limR p c s).length = p.length ∧ AmtL (limR p c s) c := by
 obtain ⟨n1, n2⟩ := gainE_ok.1 h
 obtain ⟨m1, m2⟩ := needE_ok.1 n1
 obtain ⟨h3, h4⟩ := progE_ok.1 m1
 have e : limR p c s = limL p (gainR p c s) := by rw [limR, if_pos h]
 rw [e]
 refine ⟨limL_len _ _, fun k hk => ?_⟩
 rw [limL_len] at hk
 have hb := gainR_bd h k
 have hneed : gi (gainR p c s) k ≤ needI (gp p k) c := by
  have h := ck_fair (g := gainR p c s) h (by rw [fair_gains h])
  have := (ckAt_ok (p := p) (c := c) (s := s) (g := gainR p c s) (i := k)).1 (h.2.2 k (by rw [h.1]; exact hk))
  exact this.2.1
 have hlim := limited m2.1 (amtS_bd (h4 k hk)).1 hb hneed
 rw [limL_gp hk]
 simp only [absI] at hlim
 omega
end Go.Proofs.YtepkjobndmmejaaGreatDoor
