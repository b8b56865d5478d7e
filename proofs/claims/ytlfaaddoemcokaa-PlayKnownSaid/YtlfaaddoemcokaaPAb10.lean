/-
  What can be heard: the walks of both copies. Conditions: told in each theorem.
-/
import Derived.Test.YtlfaaddoemcokaaPAb9
namespace Go.Proofs.Ytlfaaddoemcokaa
open Go.Ab Go.RowKit Go.Dw Go.Shelf

abbrev Hd := Int × Int × Int × Int
def hs (a b : List Pt) (h : Hd) (u : Nat) : Hd := (min h.1 (gp b u).1, max h.2.1 (gp a u).1, min h.2.2.1 (gp a u).2, max h.2.2.2 (gp b u).2)
def hear0 (a b : List Pt) (t : Nat) : Hd := ((gp b t).1, (gp a t).1, (gp a t).2, (gp b t).2)
/-- over the samples from lo on -/
def hearN (a b : List Pt) (t lo j : Nat) : Hd := (List.range j).foldl (fun h i => hs a b h (lo + i)) (hear0 a b t)
/-- over the samples below k that are near -/
def hearK (a b : List Pt) (t r k : Nat) : Hd := ((List.range k).filter fun u => decide (dist u t < r)).foldl (hs a b) (hear0 a b t)
theorem hearN_succ (a b : List Pt) (t lo j : Nat) : hearN a b t lo (j + 1) = hs a b (hearN a b t lo j) (lo + j) := by simp [hearN, List.range_succ]
theorem near_filter (t r : Nat) : ∀ n, t < n → 0 < r → ((List.range n).filter fun u => decide (dist u t < r)) = (List.range (nearN t n r)).map (nearLo t r + ·) := by
  have key : ∀ n, ((List.range n).filter fun u => decide (dist u t < r)) = (List.range (min n (t + r) - nearLo t r)).map (nearLo t r + ·) := by
    intro n
    induction n with
    | zero => simp
    | succ n ih =>
      rw [List.range_succ, List.filter_append, ih]
      by_cases h : dist n t < r
      · have e : min (n + 1) (t + r) - nearLo t r = (min n (t + r) - nearLo t r) + 1 := by unfold dist nearLo at *; omega
        rw [e, List.range_succ, List.map_append]
        have e2 : nearLo t r + (min n (t + r) - nearLo t r) = n := by unfold dist nearLo at *; omega
        simp [h, e2]
      · have e : min (n + 1) (t + r) - nearLo t r = min n (t + r) - nearLo t r := by unfold dist nearLo at *; omega
        rw [e]
        simp [h]
  intro n _ _
  rw [key n]
  rfl
theorem hearK_all {a b : List Pt} {t r n : Nat} (ht : t < n) (hr : 0 < r) : hearK a b t r n = hearN a b t (nearLo t r) (nearN t n r) := by
  unfold hearK hearN
  rw [near_filter t r n ht hr, List.foldl_map]
def hearAt (a b : List Pt) (n r t : Nat) : Hd := hearK a b t r n
def vhd (h : Hd) : List V := [.i h.1, .i h.2.1, .i h.2.2.1, .i h.2.2.2]
def V.hds (n : Nat) (f : Nat → Hd) : V := .sl 4 n fun k => vhd (f k)
def hearE (s t : List Int) (l : List Pt) (wow : Int) : Int :=
  if checkTip s = 0 then (if checkBoth t l = 0 then (if bluntB s t then (if wow < 0 ∨ 256 < wow then 3 else 0) else 20) else checkBoth t l) else checkTip s
def hearNn (s t : List Int) (l : List Pt) (wow : Int) : Nat := if hearE s t l wow = 0 then l.length else 0
theorem hearE_1 {s t : List Int} {l : List Pt} {wow : Int} (h : ¬ checkTip s = 0) : hearE s t l wow = checkTip s := by rw [hearE, if_neg h]
theorem hearE_2 {s t : List Int} {l : List Pt} {wow : Int} (h : checkTip s = 0) (h2 : ¬ checkBoth t l = 0) : hearE s t l wow = checkBoth t l := by rw [hearE, if_pos h, if_neg h2]
theorem hearE_3 {s t : List Int} {l : List Pt} {wow : Int} (h : checkTip s = 0) (h2 : checkBoth t l = 0) (h3 : bluntB s t = false) : hearE s t l wow = 20 := by rw [hearE, if_pos h, if_pos h2, if_neg (by simp [h3])]
theorem hearE_4 {s t : List Int} {l : List Pt} {wow : Int} (h : checkTip s = 0) (h2 : checkBoth t l = 0) (h3 : bluntB s t = true) (h4 : (decide (wow < 0) || decide (256 < wow)) = true) : hearE s t l wow = 3 := by
  rw [hearE, if_pos h, if_pos h2, if_pos h3, if_pos (by simpa using h4)]
theorem hearE_5 {s t : List Int} {l : List Pt} {wow : Int} (h : checkTip s = 0) (h2 : checkBoth t l = 0) (h3 : bluntB s t = true) (h4 : 0 ≤ wow ∧ wow ≤ 256) : hearE s t l wow = 0 := by
  rw [hearE, if_pos h, if_pos h2, if_pos h3, if_neg (by omega)]
theorem hearNn_no {s t : List Int} {l : List Pt} {wow : Int} (h : ¬ hearE s t l wow = 0) : hearNn s t l wow = 0 := by rw [hearNn, if_neg h]
def hearV (s t : List Int) (l : List Pt) (wow : Int) : V := .tup [.sl 4 (hearNn s t l wow) fun k => vhd (hearAt (readP s l) (readP t l) l.length (wow.toNat + 1) k), .i (hearE s t l wow)]
theorem appRow_lt {n i : Nat} {r r' : Nat → List V} (h : i < n) : appRow n r r' i = r i := by simp [appRow, h]
theorem appRow_at {n : Nat} {r r' : Nat → List V} : appRow n r r' n = r' 0 := by simp [appRow]
set_option maxRecDepth 100000 in
theorem Hear_ac (s t : List Int) (l : List Pt) (wow : Int) (hs' : s.length ≤ 4611686018427387904) (ht : t.length ≤ 4611686018427387904) (hl : l.length ≤ 4611686018427387904) :
    AC Try.prog 43 [.agg [V.ints s], .agg [V.ints t], V.pts l, .i wow] (hearV s t l wow) [] := by
  refine ac_intro hTT hMX (fn := Try.f43) (N := _) ⟨Try.func43, rfl, Try.ntmps43, by kernel_rfl⟩ (by simp) fun C hC hF => ?_
  refine aw_seq_k fun K hK => ?_
  refine w_region (n' := 2) (by kernel_rfl) (by kernel_rfl) ?_
  refine aops_n hTT (M := []) (n := 4) [pv (4 : Nat) (V.ptr [V.sl (1 : Nat) (List.length s) fun (k : Nat) => [V.i (gi s k)]]), pv (5 : Nat) (V.ptr [V.sl (1 : Nat) (List.length t) fun (k : Nat) => [V.i (gi t k)]]), pv (8 : Nat) V.nil, pv (9 : Nat) (V.i (0 : Int))] (by kernel_rfl) (by kernel_rfl) True.intro ?_
  refine aops_nil ?_
  refine xt_n ?_
  refine hK _ ?_
  clear hK K
  refine aw_seq_k fun K hK => ?_
  refine aw_seq_k fun K hK => ?_
  refine w_region (n' := 3) (by kernel_rfl) (by kernel_rfl) ?_
  refine aops_n hTT (M := []) (n := 1) [pv (18 : Nat) (V.agg [V.sl (1 : Nat) (List.length s) fun (k : Nat) => [V.i (gi s k)]])] (by kernel_rfl) (by kernel_rfl) True.intro ?_
  refine e_call (first := []) (caps := []) (checkTip_ac s hs') (by kernel_rfl) (by kernel_rfl) (by kernel_rfl) (by kernel_rfl) (by kernel_rfl) ?_
  refine aops_n hTT (M := []) (n := 1) [pv (10 : Nat) (V.i (checkTip s))] (by kernel_rfl) (by kernel_rfl) True.intro ?_
  refine aops_nil ?_
  refine xt_n ?_
  refine hK _ ?_
  clear hK K
  refine aw_seq_k fun K hK => ?_
  refine w_region (n' := 4) (by kernel_rfl) (by kernel_rfl) ?_
  refine aops_n hTT (M := []) (n := 2) [pv (20 : Nat) (V.i (checkTip s)), pv (21 : Nat) (V.b !decide (checkTip s = (0 : Int)))] (by kernel_rfl) (by kernel_rfl) True.intro ?_
  refine aops_nil ?_
  refine xt_n ?_
  refine hK _ ?_
  clear hK K
  refine w_cond (t := !decide (checkTip s = (0 : Int))) (by kernel_rfl) (fun h1 => ?_) (fun h1 => ?_)
  · simp at h1
    refine aw_seq_k fun K hK => ?_
    refine w_region (n' := 5) (by kernel_rfl) (by kernel_rfl) ?_
    refine aops_n hTT (M := []) (n := 3) [pv (22 : Nat) (V.i (checkTip s)), pv (8 : Nat) V.nil, pv (9 : Nat) (V.i (checkTip s))] (by kernel_rfl) (by kernel_rfl) True.intro ?_
    refine aops_nil ?_
    refine xt_n ?_
    refine hK _ ?_
    clear hK K
    refine aw_ret ?_
    refine xt_r ?_
    refine ret_of_le (le_nil 8 (sz := 4) (hearNn s t l wow) (fun k => vhd (hearAt (readP s l) (readP t l) l.length (wow.toNat + 1) k)) (by kernel_rfl) ?_) ?_
    · exact hearNn_no (by rw [hearE_1 h1]; exact h1)
    refine ret_pure (v' := V.tup [V.sl (4 : Nat) (hearNn s t l wow) fun (k : Nat) => vhd (hearAt (readP s l) (readP t l) (List.length l) (Int.toNat wow + (1 : Nat)) k), V.i (checkTip s)]) (.inr rfl) (by kernel_rfl) ?_ (by kernel_rfl)
    rw [hearV, hearE_1 h1]
  simp at h1
  refine aw_skip ?_
  refine xt_n ?_
  refine hK _ ?_
  clear hK K
  refine aw_seq_k fun K hK => ?_
  refine aw_seq_k fun K hK => ?_
  refine w_region (n' := 5) (by kernel_rfl) (by kernel_rfl) ?_
  refine aops_n hTT (M := []) (n := 2) [pv (23 : Nat) (V.agg [V.sl (1 : Nat) (List.length t) fun (k : Nat) => [V.i (gi t k)]]), pv (24 : Nat) (V.sl (2 : Nat) (List.length l) fun (k : Nat) => [V.i (Prod.fst (gp l k)), V.i (Prod.snd (gp l k))])] (by kernel_rfl) (by kernel_rfl) True.intro ?_
  refine e_call (first := []) (caps := []) (check_ac t l ht hl) (by kernel_rfl) (by kernel_rfl) (by kernel_rfl) (by kernel_rfl) (by kernel_rfl) ?_
  refine aops_n hTT (M := []) (n := 1) [pv (11 : Nat) (V.i (checkBoth t l))] (by kernel_rfl) (by kernel_rfl) True.intro ?_
  refine aops_nil ?_
  refine xt_n ?_
  refine hK _ ?_
  clear hK K
  refine aw_seq_k fun K hK => ?_
  refine w_region (n' := 6) (by kernel_rfl) (by kernel_rfl) ?_
  refine aops_n hTT (M := []) (n := 2) [pv (26 : Nat) (V.i (checkBoth t l)), pv (27 : Nat) (V.b !decide (checkBoth t l = (0 : Int)))] (by kernel_rfl) (by kernel_rfl) True.intro ?_
  refine aops_nil ?_
  refine xt_n ?_
  refine hK _ ?_
  clear hK K
  refine w_cond (t := !decide (checkBoth t l = (0 : Int))) (by kernel_rfl) (fun h2 => ?_) (fun h2 => ?_)
  · simp at h2
    refine aw_seq_k fun K hK => ?_
    refine w_region (n' := 7) (by kernel_rfl) (by kernel_rfl) ?_
    refine aops_n hTT (M := []) (n := 3) [pv (28 : Nat) (V.i (checkBoth t l)), pv (8 : Nat) V.nil, pv (9 : Nat) (V.i (checkBoth t l))] (by kernel_rfl) (by kernel_rfl) True.intro ?_
    refine aops_nil ?_
    refine xt_n ?_
    refine hK _ ?_
    clear hK K
    refine aw_ret ?_
    refine xt_r ?_
    refine ret_of_le (le_nil 8 (sz := 4) (hearNn s t l wow) (fun k => vhd (hearAt (readP s l) (readP t l) l.length (wow.toNat + 1) k)) (by kernel_rfl) ?_) ?_
    · exact hearNn_no (by rw [hearE_2 h1 h2]; exact h2)
    refine ret_pure (v' := V.tup [V.sl (4 : Nat) (hearNn s t l wow) fun (k : Nat) => vhd (hearAt (readP s l) (readP t l) (List.length l) (Int.toNat wow + (1 : Nat)) k), V.i (checkBoth t l)]) (.inr rfl) (by kernel_rfl) ?_ (by kernel_rfl)
    rw [hearV, hearE_2 h1 h2]
  simp at h2
  refine aw_skip ?_
  refine xt_n ?_
  refine hK _ ?_
  clear hK K
  refine aw_seq_k fun K hK => ?_
  refine aw_seq_k fun K hK => ?_
  refine w_region (n' := 7) (by kernel_rfl) (by kernel_rfl) ?_
  refine aops_n hTT (M := []) (n := 2) [pv (29 : Nat) (V.agg [V.sl (1 : Nat) (List.length s) fun (k : Nat) => [V.i (gi s k)]]), pv (30 : Nat) (V.agg [V.sl (1 : Nat) (List.length t) fun (k : Nat) => [V.i (gi t k)]])] (by kernel_rfl) (by kernel_rfl) True.intro ?_
  obtain ⟨k1, k2⟩ := checkBoth_ok h2
  obtain ⟨_, m2, _, _, m3⟩ := checkTip_ok k1
  obtain ⟨_, q2, _, _, q3⟩ := checkTip_ok h1
  obtain ⟨m4, m5⟩ := checkPts_ok k2
  refine e_call (first := []) (caps := []) (blunter_ac s t q2 m2) (by kernel_rfl) (by kernel_rfl) (by kernel_rfl) (by kernel_rfl) (by kernel_rfl) ?_
  refine aops_n hTT (M := []) (n := 1) [pv (32 : Nat) (V.b !bluntB s t)] (by kernel_rfl) (by kernel_rfl) True.intro ?_
  refine aops_nil ?_
  refine xt_n ?_
  refine hK _ ?_
  clear hK K
  refine w_cond (t := !bluntB s t) (by kernel_rfl) (fun h3 => ?_) (fun h3 => ?_)
  · simp at h3
    refine aw_seq_k fun K hK => ?_
    refine w_region (n' := 8) (by kernel_rfl) (by kernel_rfl) ?_
    refine aops_n hTT (M := []) (n := 2) [pv (8 : Nat) V.nil, pv (9 : Nat) (V.i (20 : Int))] (by kernel_rfl) (by kernel_rfl) True.intro ?_
    refine aops_nil ?_
    refine xt_n ?_
    refine hK _ ?_
    clear hK K
    refine aw_ret ?_
    refine xt_r ?_
    refine ret_of_le (le_nil 8 (sz := 4) (hearNn s t l wow) (fun k => vhd (hearAt (readP s l) (readP t l) l.length (wow.toNat + 1) k)) (by kernel_rfl) ?_) ?_
    · exact hearNn_no (by rw [hearE_3 h1 h2 h3]; decide)
    refine ret_pure (v' := V.tup [V.sl (4 : Nat) (hearNn s t l wow) fun (k : Nat) => vhd (hearAt (readP s l) (readP t l) (List.length l) (Int.toNat wow + (1 : Nat)) k), V.i (20 : Int)]) (.inr rfl) (by kernel_rfl) ?_ (by kernel_rfl)
    rw [hearV, hearE_3 h1 h2 h3]
  simp at h3
  refine aw_skip ?_
  refine xt_n ?_
  refine hK _ ?_
  clear hK K
  refine aw_seq_k fun K hK => ?_
  refine aw_seq_k fun K hK => ?_
  refine w_region (n' := 8) (by kernel_rfl) (by kernel_rfl) ?_
  refine aops_n hTT (M := []) (n := 6) [pv (33 : Nat) (V.i wow), pv (34 : Nat) (V.b (decide (wow < (0 : Int)))), pv (35 : Nat) (V.b (decide (wow < (0 : Int)))), pc (36 : Nat) ((True ∧ True) ∧ ((decide (wow < (0 : Int)) == false) = true → True)) (V.gd (decide (wow < (0 : Int)) == false) (V.i wow)), pc (37 : Nat) ((((decide (wow < (0 : Int)) == false) = true → (decide (wow < (0 : Int)) == false) = true) ∧ True ∧ True) ∧ ((decide (wow < (0 : Int)) == false) = true → True)) (V.gd (decide (wow < (0 : Int)) == false) (V.b (decide ((256 : Int) < wow)))), pc (38 : Nat) (True ∧ (decide (wow < (0 : Int)) = false → (decide (wow < (0 : Int)) == false) = true)) (V.b (decide (wow < (0 : Int)) || decide ((256 : Int) < wow)))] (by kernel_rfl) (by kernel_rfl) ⟨⟨⟨True.intro, True.intro⟩, (fun _ => True.intro)⟩, ⟨⟨(by (exact fun h => h)), ⟨True.intro, True.intro⟩⟩, (fun _ => True.intro)⟩, ⟨True.intro, (by (intro h; rw [h]; rfl))⟩, True.intro⟩ ?_
  refine aops_nil ?_
  refine xt_n ?_
  refine hK _ ?_
  clear hK K
  refine w_cond (t := decide (wow < (0 : Int)) || decide ((256 : Int) < wow)) (by kernel_rfl) (fun h4 => ?_) (fun h4 => ?_)
  · refine aw_seq_k fun K hK => ?_
    refine w_region (n' := 9) (by kernel_rfl) (by kernel_rfl) ?_
    refine aops_n hTT (M := []) (n := 2) [pv (8 : Nat) V.nil, pv (9 : Nat) (V.i (3 : Int))] (by kernel_rfl) (by kernel_rfl) True.intro ?_
    refine aops_nil ?_
    refine xt_n ?_
    refine hK _ ?_
    clear hK K
    refine aw_ret ?_
    refine xt_r ?_
    refine ret_of_le (le_nil 8 (sz := 4) (hearNn s t l wow) (fun k => vhd (hearAt (readP s l) (readP t l) l.length (wow.toNat + 1) k)) (by kernel_rfl) ?_) ?_
    · exact hearNn_no (by rw [hearE_4 h1 h2 h3 h4]; decide)
    refine ret_pure (v' := V.tup [V.sl (4 : Nat) (hearNn s t l wow) fun (k : Nat) => vhd (hearAt (readP s l) (readP t l) (List.length l) (Int.toNat wow + (1 : Nat)) k), V.i (3 : Int)]) (.inr rfl) (by kernel_rfl) ?_ (by kernel_rfl)
    rw [hearV, hearE_4 h1 h2 h3 h4]
  simp at h4
  refine aw_skip ?_
  refine xt_n ?_
  refine hK _ ?_
  clear hK K
  refine aw_seq_k fun K hK => ?_
  refine w_regionD (n' := 9) (by kernel_rfl) (by kernel_rfl) ?_
  refine aops_n hTT (M := []) (n := 2) [pv (39 : Nat) (V.agg [V.sl (1 : Nat) (List.length s) fun (k : Nat) => [V.i (gi s k)]]), pv (40 : Nat) (V.sl (2 : Nat) (List.length l) fun (k : Nat) => [V.i (Prod.fst (gp l k)), V.i (Prod.snd (gp l k))])] (by kernel_rfl) (by kernel_rfl) True.intro ?_
  refine e_call (first := []) (caps := []) (read_ac s l (checkBoth_of h1 k2)) (by kernel_rfl) (by kernel_rfl) (by kernel_rfl) (by kernel_rfl) (by kernel_rfl) ?_
  refine aops_n hTT (M := []) (n := 2) [pv (42 : Nat) (V.agg [V.sl (1 : Nat) (List.length t) fun (k : Nat) => [V.i (gi t k)]]), pv (43 : Nat) (V.sl (2 : Nat) (List.length l) fun (k : Nat) => [V.i (Prod.fst (gp l k)), V.i (Prod.snd (gp l k))])] (by kernel_rfl) (by kernel_rfl) True.intro ?_
  refine e_call (first := []) (caps := []) (read_ac t l h2) (by kernel_rfl) (by kernel_rfl) (by kernel_rfl) (by kernel_rfl) (by kernel_rfl) ?_
  refine aops_n hTT (M := []) (n := 4) [pn (12 : Nat) (V.ref (800012 : Nat) (0 : Nat)) (800012 : Nat) (Ob.box (25 : Nat) [V.nil]), pn (13 : Nat) (V.ref (800013 : Nat) (0 : Nat)) (800013 : Nat) (Ob.box (25 : Nat) [V.nil]), pw ((0 : Nat) + (1 : Nat) ≤ (1 : Nat)) (800012 : Nat) (Ob.box (25 : Nat) [V.sl (2 : Nat) (List.length (readP s l)) fun (k : Nat) => [V.i (Prod.fst (gp (readP s l) k)), V.i (Prod.snd (gp (readP s l) k))]]), pw ((0 : Nat) + (1 : Nat) ≤ (1 : Nat)) (800013 : Nat) (Ob.box (25 : Nat) [V.sl (2 : Nat) (List.length (readP t l)) fun (k : Nat) => [V.i (Prod.fst (gp (readP t l) k)), V.i (Prod.snd (gp (readP t l) k))]])] (by kernel_rfl) (by kernel_rfl) ⟨(by omega), (by omega), True.intro⟩ ?_
  refine aops_nil ⟨by kernel_rfl, ?_⟩
  refine xt_n ?_
  refine hK _ ?_
  clear hK K
  refine aw_seq_k fun K hK => ?_
  refine w_region (n' := 10) (by kernel_rfl) (by kernel_rfl) ?_
  refine aops_n hTT (M := []) (n := 1) [pv (14 : Nat) V.nil] (by kernel_rfl) (by kernel_rfl) True.intro ?_
  refine aops_nil ?_
  refine xt_n ?_
  refine hK _ ?_
  clear hK K
  refine aw_seq_k fun K hK => ?_
  refine aw_seq_k fun K hK => ?_
  refine w_region (n' := 11) (by kernel_rfl) (by kernel_rfl) ?_
  refine aops_n hTT (M := []) (n := 3) [pv (45 : Nat) (V.sl (2 : Nat) (List.length l) fun (k : Nat) => [V.i (Prod.fst (gp l k)), V.i (Prod.snd (gp l k))]), pv (46 : Nat) (V.i (↑(List.length l) : Int)), pv (47 : Nat) (V.i (0 : Int))] (by kernel_rfl) (by kernel_rfl) True.intro ?_
  refine aops_nil ?_
  refine xt_n ?_
  refine hK _ ?_
  clear hK K
  refine aw_block ?_
  obtain ⟨wn, rfl⟩ : ∃ n : Nat, wow = (n : Int) := ⟨wow.toNat, by omega⟩
  obtain ⟨a, ha⟩ : ∃ a, a = readP s l := ⟨_, rfl⟩
  obtain ⟨b, hb⟩ : ∃ b, b = readP t l := ⟨_, rfl⟩
  have la : a.length = l.length := by rw [ha]; exact readP_length _ _
  have lb : b.length = l.length := by rw [hb]; exact readP_length _ _
  rw [← ha, ← hb]
  refine w_le (le_freezeBox (t := (25 : Nat)) (cs := [V.sl (2 : Nat) (List.length a) fun (k : Nat) => [V.i (Prod.fst (gp a k)), V.i (Prod.snd (gp a k))]]) 800012 (by kernel_rfl) (by kernel_rfl)) ?_
  refine w_le (le_freezeBox (t := (25 : Nat)) (cs := [V.sl (2 : Nat) (List.length b) fun (k : Nat) => [V.i (Prod.fst (gp b k)), V.i (Prod.snd (gp b k))]]) 800013 (by kernel_rfl) (by kernel_rfl)) ?_
  refine w_le (le_open 14 72 4 (fun k => vhd (hearAt a b l.length (wn + 1) k)) (by kernel_rfl) rfl) ?_
  refine w_loop (fun k : Nat => [(2, V.pts l), (3, .i wn), (12, .ptr [V.pts a]), (13, .ptr [V.pts b]), (14, .own 14), (46, .i l.length), (47, .i k)]) (fun k => [(14, .row 72 4 k fun k => vhd (hearAt a b l.length (wn + 1) k))])
    (fun k => k ≤ l.length) (fun k => l.length - k) 0 (Nat.zero_le _) ?_ ?_
  · refine le_ren (sl := [(14, Ob.row (72 : Nat) (4 : Nat) (0 : Nat) fun (k : Nat) => vhd (hearAt a b (List.length l) (wn + (1 : Nat)) k))]) [(14, 1100014)] (.cons (by kernel_rfl) (.cons (by kernel_rfl) (.cons (by kernel_rfl) (.cons (by kernel_rfl) (.cons (by kernel_rfl) (.cons (by kernel_rfl) (.cons (by kernel_rfl) .nil))))))) (.cons ⟨Ob.row (72 : Nat) (4 : Nat) (0 : Nat) fun (k : Nat) => vhd (hearAt a b (List.length l) (wn + (1 : Nat)) k), (by kernel_rfl), .row (by kernel_rfl) (fun _ _ => rfl)⟩ .nil) (by kernel_rfl) (by kernel_rfl)
  intro k hk
  refine aw_seq_k fun K hK => ?_
  refine w_region (n' := 2) (by kernel_rfl) (by kernel_rfl) ?_
  refine aops_n hTT (M := []) (n := 1) [pv (48 : Nat) (V.b (decide ((↑k : Int) < (↑(List.length l) : Int))))] (by kernel_rfl) (by kernel_rfl) True.intro ?_
  refine aops_nil ?_
  refine xt_n ?_
  refine hK _ ?_
  clear hK K
  refine aw_seq_k fun K hK => ?_
  refine w_cond (t := decide ((↑k : Int) < (↑(List.length l) : Int))) (by kernel_rfl) (fun hkl => ?_) (fun hkl => ?_)
  · simp at hkl
    have hka : k < a.length := by omega
    have hkb : k < b.length := by omega
    refine aw_skip ?_
    refine xt_n ?_
    refine hK _ ?_
    clear hK K
    refine aw_seq_k fun K hK => ?_
    refine aw_block ?_
    refine aw_seq_k fun K hK => ?_
    refine w_region (n' := 3) (by kernel_rfl) (by kernel_rfl) ?_
    refine aops_n hTT (M := []) (n := 2) [pv (49 : Nat) (V.i (↑k : Int)), pv (15 : Nat) (V.i (↑k : Int))] (by kernel_rfl) (by kernel_rfl) True.intro ?_
    refine aops_nil ?_
    refine xt_n ?_
    refine hK _ ?_
    clear hK K
    refine aw_seq_k fun K hK => ?_
    refine w_regionD (n' := 4) (by kernel_rfl) (by kernel_rfl) ?_
    refine aops_n hTT (M := []) (n := 25) [pv (50 : Nat) (V.sl (2 : Nat) (List.length b) fun (k : Nat) => [V.i (Prod.fst (gp b k)), V.i (Prod.snd (gp b k))]), pv (51 : Nat) (V.i (↑k : Int)), pc (52 : Nat) ((0 : Int) ≤ (↑k : Int) ∧ (↑k : Int) < (↑(List.length b) : Int)) (V.ptr [V.i (Prod.fst (gp b k)), V.i (Prod.snd (gp b k))]), pv (53 : Nat) (V.ptr [V.i (Prod.fst (gp b k)), V.i (Prod.snd (gp b k))]), pv (54 : Nat) (V.i (Prod.fst (gp b k))), pv (55 : Nat) (V.sl (2 : Nat) (List.length a) fun (k : Nat) => [V.i (Prod.fst (gp a k)), V.i (Prod.snd (gp a k))]), pv (56 : Nat) (V.i (↑k : Int)), pc (57 : Nat) ((0 : Int) ≤ (↑k : Int) ∧ (↑k : Int) < (↑(List.length a) : Int)) (V.ptr [V.i (Prod.fst (gp a k)), V.i (Prod.snd (gp a k))]), pv (58 : Nat) (V.ptr [V.i (Prod.fst (gp a k)), V.i (Prod.snd (gp a k))]), pv (59 : Nat) (V.i (Prod.fst (gp a k))), pv (60 : Nat) (V.agg [V.i (Prod.fst (gp b k)), V.i (Prod.fst (gp a k))]), pv (61 : Nat) (V.sl (2 : Nat) (List.length a) fun (k : Nat) => [V.i (Prod.fst (gp a k)), V.i (Prod.snd (gp a k))]), pv (62 : Nat) (V.i (↑k : Int)), pc (63 : Nat) ((0 : Int) ≤ (↑k : Int) ∧ (↑k : Int) < (↑(List.length a) : Int)) (V.ptr [V.i (Prod.fst (gp a k)), V.i (Prod.snd (gp a k))]), pv (64 : Nat) (V.ptr [V.i (Prod.snd (gp a k))]), pv (65 : Nat) (V.i (Prod.snd (gp a k))), pv (66 : Nat) (V.sl (2 : Nat) (List.length b) fun (k : Nat) => [V.i (Prod.fst (gp b k)), V.i (Prod.snd (gp b k))]), pv (67 : Nat) (V.i (↑k : Int)), pc (68 : Nat) ((0 : Int) ≤ (↑k : Int) ∧ (↑k : Int) < (↑(List.length b) : Int)) (V.ptr [V.i (Prod.fst (gp b k)), V.i (Prod.snd (gp b k))]), pv (69 : Nat) (V.ptr [V.i (Prod.snd (gp b k))]), pv (70 : Nat) (V.i (Prod.snd (gp b k))), pv (71 : Nat) (V.agg [V.i (Prod.snd (gp a k)), V.i (Prod.snd (gp b k))]), pv (72 : Nat) (V.agg [V.i (Prod.fst (gp b k)), V.i (Prod.fst (gp a k)), V.i (Prod.snd (gp a k)), V.i (Prod.snd (gp b k))]), pn (16 : Nat) (V.ref (300016 : Nat) (0 : Nat)) (300016 : Nat) (Ob.box (72 : Nat) [V.i (0 : Int), V.i (0 : Int), V.i (0 : Int), V.i (0 : Int)]), pw ((0 : Nat) + (4 : Nat) ≤ (4 : Nat)) (300016 : Nat) (Ob.box (72 : Nat) [V.i (Prod.fst (gp b k)), V.i (Prod.fst (gp a k)), V.i (Prod.snd (gp a k)), V.i (Prod.snd (gp b k))])] (by kernel_rfl) (by kernel_rfl) ⟨(by omega), (by omega), (by omega), (by omega), (by omega), True.intro⟩ ?_
    refine aops_nil ⟨by kernel_rfl, ?_⟩
    refine xt_n ?_
    refine hK _ ?_
    clear hK K
    refine aw_seq_k fun K hK => ?_
    refine aw_seq_k fun K hK => ?_
    refine w_region (n' := 5) (by kernel_rfl) (by kernel_rfl) ?_
    refine aops_n hTT (M := []) (n := 5) [pv (73 : Nat) (V.i (↑k : Int)), pv (74 : Nat) (V.sl (2 : Nat) (List.length l) fun (k : Nat) => [V.i (Prod.fst (gp l k)), V.i (Prod.snd (gp l k))]), pv (75 : Nat) (V.i (↑(List.length l) : Int)), pv (76 : Nat) (V.i (↑wn : Int)), pc (77 : Nat) ((-9223372036854775808 : Int) ≤ (↑wn : Int) + (1 : Int) ∧ (↑wn : Int) + (1 : Int) ≤ (9223372036854775807 : Int)) (V.i ((↑wn : Int) + (1 : Int)))] (by kernel_rfl) (by kernel_rfl) ⟨(by omega), True.intro⟩ ?_
    refine e_call (first := []) (caps := []) (near_ac k l.length ((wn : Int) + 1)) (by kernel_rfl) (by kernel_rfl) (by kernel_rfl) (by kernel_rfl) (by kernel_rfl) ?_
    refine aops_nil ?_
    refine xt_n ?_
    refine hK _ ?_
    clear hK K
    refine aw_block ?_
    refine w_range (caps := [V.ptr [V.i (↑k : Int)], V.ptr [V.i ((↑wn : Int) + (1 : Int))], V.ptr [V.i (↑(List.length l) : Int)]]) hF hC ((near_aiter k l.length (wn + 1) (by omega) (by omega) (by omega))) (by kernel_rfl) (by kernel_rfl) ?_ (by kernel_rfl) [514, 516] [(514, 14), (516, 300016)] [(2, V.pts l), (3, .i wn), (12, .ptr [V.pts a]), (13, .ptr [V.pts b]), (14, .own 514), (16, .ref 516 0), (46, .i l.length), (47, .i k)] (fun _ => True) (fun j => [.row 72 4 k fun k => vhd (hearAt a b l.length (wn + 1) k), .box 72 (vhd (hearN a b k (nearLo k (wn + 1)) j))]) (fun _ _ _ => False) ?_ (by kernel_rfl) (by kernel_rfl) (by kernel_rfl) (.cons (by kernel_rfl) (.cons (by kernel_rfl) (.cons (by kernel_rfl) (.cons (by kernel_rfl) (.cons (by kernel_rfl) (.cons (by kernel_rfl) (.cons (by kernel_rfl) (.cons (by kernel_rfl) .nil)))))))) (.cons ⟨Ob.row (72 : Nat) (4 : Nat) k fun (k : Nat) => vhd (hearAt a b (List.length l) (wn + (1 : Nat)) k), (by kernel_rfl), .row (by kernel_rfl) (fun _ _ => rfl)⟩ (.cons ⟨Ob.box (72 : Nat) [V.i (Prod.fst (gp b k)), V.i (Prod.fst (gp a k)), V.i (Prod.snd (gp a k)), V.i (Prod.snd (gp b k))], (by kernel_rfl), .box (by kernel_rfl)⟩ .nil)) (by kernel_rfl) ?_ ?_ ?_ ?_ ?_
    · intro x hx
      simp only [nearV, List.mem_map] at hx
      obtain ⟨j, _, rfl⟩ := hx
      rfl
    · trivial
    · intro j o ho
      simp at ho
      rcases ho with rfl | rfl
      · exact fun _ _ => rfl
      · rfl
    · intro _ _ _ h
      exact h.elim
    · rintro C' ⟨lx, hF'⟩ j x hx _
      obtain ⟨hj, rfl⟩ := nearV_get hx
      have hu : nearLo k (wn + 1) + j < l.length := by unfold nearN at hj; omega
      have hua : nearLo k (wn + 1) + j < a.length := by omega
      have hub : nearLo k (wn + 1) + j < b.length := by omega
      refine w_region (n' := 2) (by kernel_rfl) (by kernel_rfl) ?_
      refine aops_n hTT (M := []) (n := 1) [pv (17 : Nat) (V.i ((↑(nearLo k (wn + (1 : Nat))) : Int) + (↑j : Int)))] (by kernel_rfl) (by kernel_rfl) True.intro ?_
      refine aops_nil ?_
      refine xt_n ?_
      refine aw_block ?_
      refine aw_seq_k fun K hK => ?_
      refine w_regionD (n' := 3) (by kernel_rfl) (by kernel_rfl) ?_
      refine aops_n hTT (M := []) (n := 24) [pv (81 : Nat) (V.ref (516 : Nat) (0 : Nat)), pv (82 : Nat) (V.ref (516 : Nat) (0 : Nat)), pc (83 : Nat) ((0 : Nat) ≤ (4 : Nat)) (V.i (Prod.fst (hearN a b k (nearLo k (wn + (1 : Nat))) j))), pv (84 : Nat) (V.sl (2 : Nat) (List.length b) fun (k : Nat) => [V.i (Prod.fst (gp b k)), V.i (Prod.snd (gp b k))]), pv (85 : Nat) (V.i ((↑(nearLo k (wn + (1 : Nat))) : Int) + (↑j : Int))), pc (86 : Nat) ((0 : Int) ≤ (↑(nearLo k (wn + (1 : Nat))) : Int) + (↑j : Int) ∧ (↑(nearLo k (wn + (1 : Nat))) : Int) + (↑j : Int) < (↑(List.length b) : Int)) (V.ptr [V.i (Prod.fst (gp b (nearLo k (wn + (1 : Nat)) + j))), V.i (Prod.snd (gp b (nearLo k (wn + (1 : Nat)) + j)))]), pv (87 : Nat) (V.ptr [V.i (Prod.fst (gp b (nearLo k (wn + (1 : Nat)) + j))), V.i (Prod.snd (gp b (nearLo k (wn + (1 : Nat)) + j)))]), pv (88 : Nat) (V.i (Prod.fst (gp b (nearLo k (wn + (1 : Nat)) + j)))), pv (89 : Nat) (V.i (min (Prod.fst (hearN a b k (nearLo k (wn + (1 : Nat))) j)) (Prod.fst (gp b (nearLo k (wn + (1 : Nat)) + j))))), pv (90 : Nat) (V.ref (516 : Nat) (0 : Nat)), pv (91 : Nat) (V.ref (516 : Nat) (1 : Nat)), pc (92 : Nat) ((1 : Nat) ≤ (4 : Nat)) (V.i (Prod.fst (Prod.snd (hearN a b k (nearLo k (wn + (1 : Nat))) j)))), pv (93 : Nat) (V.sl (2 : Nat) (List.length a) fun (k : Nat) => [V.i (Prod.fst (gp a k)), V.i (Prod.snd (gp a k))]), pv (94 : Nat) (V.i ((↑(nearLo k (wn + (1 : Nat))) : Int) + (↑j : Int))), pc (95 : Nat) ((0 : Int) ≤ (↑(nearLo k (wn + (1 : Nat))) : Int) + (↑j : Int) ∧ (↑(nearLo k (wn + (1 : Nat))) : Int) + (↑j : Int) < (↑(List.length a) : Int)) (V.ptr [V.i (Prod.fst (gp a (nearLo k (wn + (1 : Nat)) + j))), V.i (Prod.snd (gp a (nearLo k (wn + (1 : Nat)) + j)))]), pv (96 : Nat) (V.ptr [V.i (Prod.fst (gp a (nearLo k (wn + (1 : Nat)) + j))), V.i (Prod.snd (gp a (nearLo k (wn + (1 : Nat)) + j)))]), pv (97 : Nat) (V.i (Prod.fst (gp a (nearLo k (wn + (1 : Nat)) + j)))), pv (98 : Nat) (V.i (max (Prod.fst (Prod.snd (hearN a b k (nearLo k (wn + (1 : Nat))) j))) (Prod.fst (gp a (nearLo k (wn + (1 : Nat)) + j))))), pv (99 : Nat) (V.ref (516 : Nat) (0 : Nat)), pv (100 : Nat) (V.ref (516 : Nat) (0 : Nat)), pw ((0 : Nat) + (1 : Nat) ≤ (4 : Nat)) (516 : Nat) (Ob.box (72 : Nat) [V.i (min (Prod.fst (hearN a b k (nearLo k (wn + (1 : Nat))) j)) (Prod.fst (gp b (nearLo k (wn + (1 : Nat)) + j)))), V.i (Prod.fst (Prod.snd (hearN a b k (nearLo k (wn + (1 : Nat))) j))), V.i (Prod.fst (Prod.snd (Prod.snd (hearN a b k (nearLo k (wn + (1 : Nat))) j)))), V.i (Prod.snd (Prod.snd (Prod.snd (hearN a b k (nearLo k (wn + (1 : Nat))) j))))]), pv (101 : Nat) (V.ref (516 : Nat) (0 : Nat)), pv (102 : Nat) (V.ref (516 : Nat) (1 : Nat)), pw ((1 : Nat) + (1 : Nat) ≤ (4 : Nat)) (516 : Nat) (Ob.box (72 : Nat) [V.i (min (Prod.fst (hearN a b k (nearLo k (wn + (1 : Nat))) j)) (Prod.fst (gp b (nearLo k (wn + (1 : Nat)) + j)))), V.i (max (Prod.fst (Prod.snd (hearN a b k (nearLo k (wn + (1 : Nat))) j))) (Prod.fst (gp a (nearLo k (wn + (1 : Nat)) + j)))), V.i (Prod.fst (Prod.snd (Prod.snd (hearN a b k (nearLo k (wn + (1 : Nat))) j)))), V.i (Prod.snd (Prod.snd (Prod.snd (hearN a b k (nearLo k (wn + (1 : Nat))) j))))])] (by kernel_rfl) (by kernel_rfl) ⟨(by omega), (by omega), (by omega), (by omega), (by omega), (by omega), True.intro⟩ ?_
      refine aops_nil ⟨by kernel_rfl, ?_⟩
      refine xt_n ?_
      refine hK _ ?_
      clear hK K
      refine w_regionD (n' := 4) (by kernel_rfl) (by kernel_rfl) ?_
      refine aops_n hTT (M := []) (n := 24) [pv (103 : Nat) (V.ref (516 : Nat) (2 : Nat)), pv (104 : Nat) (V.ref (516 : Nat) (2 : Nat)), pc (105 : Nat) ((2 : Nat) ≤ (4 : Nat)) (V.i (Prod.fst (Prod.snd (Prod.snd (hearN a b k (nearLo k (wn + (1 : Nat))) j))))), pv (106 : Nat) (V.sl (2 : Nat) (List.length a) fun (k : Nat) => [V.i (Prod.fst (gp a k)), V.i (Prod.snd (gp a k))]), pv (107 : Nat) (V.i ((↑(nearLo k (wn + (1 : Nat))) : Int) + (↑j : Int))), pc (108 : Nat) ((0 : Int) ≤ (↑(nearLo k (wn + (1 : Nat))) : Int) + (↑j : Int) ∧ (↑(nearLo k (wn + (1 : Nat))) : Int) + (↑j : Int) < (↑(List.length a) : Int)) (V.ptr [V.i (Prod.fst (gp a (nearLo k (wn + (1 : Nat)) + j))), V.i (Prod.snd (gp a (nearLo k (wn + (1 : Nat)) + j)))]), pv (109 : Nat) (V.ptr [V.i (Prod.snd (gp a (nearLo k (wn + (1 : Nat)) + j)))]), pv (110 : Nat) (V.i (Prod.snd (gp a (nearLo k (wn + (1 : Nat)) + j)))), pv (111 : Nat) (V.i (min (Prod.fst (Prod.snd (Prod.snd (hearN a b k (nearLo k (wn + (1 : Nat))) j)))) (Prod.snd (gp a (nearLo k (wn + (1 : Nat)) + j))))), pv (112 : Nat) (V.ref (516 : Nat) (2 : Nat)), pv (113 : Nat) (V.ref (516 : Nat) (3 : Nat)), pc (114 : Nat) ((3 : Nat) ≤ (4 : Nat)) (V.i (Prod.snd (Prod.snd (Prod.snd (hearN a b k (nearLo k (wn + (1 : Nat))) j))))), pv (115 : Nat) (V.sl (2 : Nat) (List.length b) fun (k : Nat) => [V.i (Prod.fst (gp b k)), V.i (Prod.snd (gp b k))]), pv (116 : Nat) (V.i ((↑(nearLo k (wn + (1 : Nat))) : Int) + (↑j : Int))), pc (117 : Nat) ((0 : Int) ≤ (↑(nearLo k (wn + (1 : Nat))) : Int) + (↑j : Int) ∧ (↑(nearLo k (wn + (1 : Nat))) : Int) + (↑j : Int) < (↑(List.length b) : Int)) (V.ptr [V.i (Prod.fst (gp b (nearLo k (wn + (1 : Nat)) + j))), V.i (Prod.snd (gp b (nearLo k (wn + (1 : Nat)) + j)))]), pv (118 : Nat) (V.ptr [V.i (Prod.snd (gp b (nearLo k (wn + (1 : Nat)) + j)))]), pv (119 : Nat) (V.i (Prod.snd (gp b (nearLo k (wn + (1 : Nat)) + j)))), pv (120 : Nat) (V.i (max (Prod.snd (Prod.snd (Prod.snd (hearN a b k (nearLo k (wn + (1 : Nat))) j)))) (Prod.snd (gp b (nearLo k (wn + (1 : Nat)) + j))))), pv (121 : Nat) (V.ref (516 : Nat) (2 : Nat)), pv (122 : Nat) (V.ref (516 : Nat) (2 : Nat)), pw ((2 : Nat) + (1 : Nat) ≤ (4 : Nat)) (516 : Nat) (Ob.box (72 : Nat) [V.i (min (Prod.fst (hearN a b k (nearLo k (wn + (1 : Nat))) j)) (Prod.fst (gp b (nearLo k (wn + (1 : Nat)) + j)))), V.i (max (Prod.fst (Prod.snd (hearN a b k (nearLo k (wn + (1 : Nat))) j))) (Prod.fst (gp a (nearLo k (wn + (1 : Nat)) + j)))), V.i (min (Prod.fst (Prod.snd (Prod.snd (hearN a b k (nearLo k (wn + (1 : Nat))) j)))) (Prod.snd (gp a (nearLo k (wn + (1 : Nat)) + j)))), V.i (Prod.snd (Prod.snd (Prod.snd (hearN a b k (nearLo k (wn + (1 : Nat))) j))))]), pv (123 : Nat) (V.ref (516 : Nat) (2 : Nat)), pv (124 : Nat) (V.ref (516 : Nat) (3 : Nat)), pw ((3 : Nat) + (1 : Nat) ≤ (4 : Nat)) (516 : Nat) (Ob.box (72 : Nat) [V.i (min (Prod.fst (hearN a b k (nearLo k (wn + (1 : Nat))) j)) (Prod.fst (gp b (nearLo k (wn + (1 : Nat)) + j)))), V.i (max (Prod.fst (Prod.snd (hearN a b k (nearLo k (wn + (1 : Nat))) j))) (Prod.fst (gp a (nearLo k (wn + (1 : Nat)) + j)))), V.i (min (Prod.fst (Prod.snd (Prod.snd (hearN a b k (nearLo k (wn + (1 : Nat))) j)))) (Prod.snd (gp a (nearLo k (wn + (1 : Nat)) + j)))), V.i (max (Prod.snd (Prod.snd (Prod.snd (hearN a b k (nearLo k (wn + (1 : Nat))) j)))) (Prod.snd (gp b (nearLo k (wn + (1 : Nat)) + j))))])] (by kernel_rfl) (by kernel_rfl) ⟨(by omega), (by omega), (by omega), (by omega), (by omega), (by omega), True.intro⟩ ?_
      refine aops_nil ⟨by kernel_rfl, ?_⟩
      refine xb_n ?_
      refine ⟨trivial, ?_⟩
      refine le_ren (sl := [(514, Ob.row (72 : Nat) (4 : Nat) k fun (k : Nat) => vhd (hearAt a b (List.length l) (wn + (1 : Nat)) k)), (516, Ob.box (72 : Nat) [V.i (Prod.fst (hearN a b k (nearLo k (wn + (1 : Nat))) (j + (1 : Nat)))), V.i (Prod.fst (Prod.snd (hearN a b k (nearLo k (wn + (1 : Nat))) (j + (1 : Nat))))), V.i (Prod.fst (Prod.snd (Prod.snd (hearN a b k (nearLo k (wn + (1 : Nat))) (j + (1 : Nat)))))), V.i (Prod.snd (Prod.snd (Prod.snd (hearN a b k (nearLo k (wn + (1 : Nat))) (j + (1 : Nat))))))])]) [] .nil (.cons ⟨Ob.row (72 : Nat) (4 : Nat) k fun (k : Nat) => vhd (hearAt a b (List.length l) (wn + (1 : Nat)) k), (by kernel_rfl), .row (by kernel_rfl) (fun _ _ => rfl)⟩ (.cons ⟨Ob.box (72 : Nat) [V.i (min (Prod.fst (hearN a b k (nearLo k (wn + (1 : Nat))) j)) (Prod.fst (gp b (nearLo k (wn + (1 : Nat)) + j)))), V.i (max (Prod.fst (Prod.snd (hearN a b k (nearLo k (wn + (1 : Nat))) j))) (Prod.fst (gp a (nearLo k (wn + (1 : Nat)) + j)))), V.i (min (Prod.fst (Prod.snd (Prod.snd (hearN a b k (nearLo k (wn + (1 : Nat))) j)))) (Prod.snd (gp a (nearLo k (wn + (1 : Nat)) + j)))), V.i (max (Prod.snd (Prod.snd (Prod.snd (hearN a b k (nearLo k (wn + (1 : Nat))) j)))) (Prod.snd (gp b (nearLo k (wn + (1 : Nat)) + j))))], (by kernel_rfl), .box ?_⟩ .nil)) (by kernel_rfl) (by kernel_rfl)
      rw [hearN_succ]
      rfl
    · intro _
      refine xb_n ?_
      refine xt_n ?_
      refine hK _ ?_
      clear hK K
      refine w_region (n' := 2) (by kernel_rfl) (by kernel_rfl) ?_
      refine aops_n hTT (M := []) (n := 5) [pv (125 : Nat) (V.own (514 : Nat)), pc (126 : Nat) ((0 : Nat) ≤ (4 : Nat)) (V.agg [V.i (Prod.fst (hearN a b k (nearLo k (wn + (1 : Nat))) (List.length (nearV k (List.length l) (wn + (1 : Nat)))))), V.i (Prod.fst (Prod.snd (hearN a b k (nearLo k (wn + (1 : Nat))) (List.length (nearV k (List.length l) (wn + (1 : Nat))))))), V.i (Prod.fst (Prod.snd (Prod.snd (hearN a b k (nearLo k (wn + (1 : Nat))) (List.length (nearV k (List.length l) (wn + (1 : Nat)))))))), V.i (Prod.snd (Prod.snd (Prod.snd (hearN a b k (nearLo k (wn + (1 : Nat))) (List.length (nearV k (List.length l) (wn + (1 : Nat))))))))]), pv (127 : Nat) (V.sl (4 : Nat) (1 : Nat) fun (i : Nat) => List.take (4 : Nat) (List.drop (i * (4 : Nat)) [V.i (Prod.fst (hearN a b k (nearLo k (wn + (1 : Nat))) (List.length (nearV k (List.length l) (wn + (1 : Nat)))))), V.i (Prod.fst (Prod.snd (hearN a b k (nearLo k (wn + (1 : Nat))) (List.length (nearV k (List.length l) (wn + (1 : Nat))))))), V.i (Prod.fst (Prod.snd (Prod.snd (hearN a b k (nearLo k (wn + (1 : Nat))) (List.length (nearV k (List.length l) (wn + (1 : Nat)))))))), V.i (Prod.snd (Prod.snd (Prod.snd (hearN a b k (nearLo k (wn + (1 : Nat))) (List.length (nearV k (List.length l) (wn + (1 : Nat))))))))])), PR.mk (some (128 : Nat)) (some (k + (1 : Nat) ≤ (1099511627776 : Nat))) (V.own (100128 : Nat)) [((514 : Nat), none), ((100128 : Nat), some (Ob.row (72 : Nat) (4 : Nat) (k + (1 : Nat)) (appRow k (fun (k : Nat) => vhd (hearAt a b (List.length l) (wn + (1 : Nat)) k)) fun (i : Nat) => List.take (4 : Nat) (List.drop (i * (4 : Nat)) [V.i (Prod.fst (hearN a b k (nearLo k (wn + (1 : Nat))) (List.length (nearV k (List.length l) (wn + (1 : Nat)))))), V.i (Prod.fst (Prod.snd (hearN a b k (nearLo k (wn + (1 : Nat))) (List.length (nearV k (List.length l) (wn + (1 : Nat))))))), V.i (Prod.fst (Prod.snd (Prod.snd (hearN a b k (nearLo k (wn + (1 : Nat))) (List.length (nearV k (List.length l) (wn + (1 : Nat)))))))), V.i (Prod.snd (Prod.snd (Prod.snd (hearN a b k (nearLo k (wn + (1 : Nat))) (List.length (nearV k (List.length l) (wn + (1 : Nat))))))))]))))] false, pv (14 : Nat) (V.own (100128 : Nat))] (by kernel_rfl) (by kernel_rfl) ⟨(by omega), (by omega), True.intro⟩ ?_
      refine aops_nil ?_
      refine xb_n ?_
      refine xt_n ?_
      refine hK _ ?_
      clear hK K
      refine w_region (n' := 3) (by kernel_rfl) (by kernel_rfl) ?_
      refine aops_n hTT (M := []) (n := 2) [pc (129 : Nat) ((-9223372036854775808 : Int) ≤ (↑k : Int) + (1 : Int) ∧ (↑k : Int) + (1 : Int) ≤ (9223372036854775807 : Int)) (V.i ((↑k : Int) + (1 : Int))), pv (47 : Nat) (V.i ((↑k : Int) + (1 : Int)))] (by kernel_rfl) (by kernel_rfl) ⟨(by omega), True.intro⟩ ?_
      refine aops_nil ?_
      refine xt_n ?_
      refine ⟨k + 1, by omega, ?_, by omega⟩
      refine le_ren (tl := [(2, V.sl (2 : Nat) (List.length l) fun (k : Nat) => [V.i (Prod.fst (gp l k)), V.i (Prod.snd (gp l k))]), (3, V.i (↑wn : Int)), (12, V.ptr [V.sl (2 : Nat) (List.length a) fun (k : Nat) => [V.i (Prod.fst (gp a k)), V.i (Prod.snd (gp a k))]]), (13, V.ptr [V.sl (2 : Nat) (List.length b) fun (k : Nat) => [V.i (Prod.fst (gp b k)), V.i (Prod.snd (gp b k))]]), (14, V.own (14 : Nat)), (46, V.i (↑(List.length l) : Int)), (47, V.i (↑(k + (1 : Nat)) : Int))]) (sl := [(14, Ob.row (72 : Nat) (4 : Nat) (k + (1 : Nat)) fun (k : Nat) => vhd (hearAt a b (List.length l) (wn + (1 : Nat)) k))]) [(14, 100128)] (.cons (by kernel_rfl) (.cons (by kernel_rfl) (.cons (by kernel_rfl) (.cons (by kernel_rfl) (.cons (by kernel_rfl) (.cons (by kernel_rfl) (.cons (by kernel_rfl) .nil))))))) (.cons ⟨Ob.row (72 : Nat) (4 : Nat) (k + (1 : Nat)) (appRow k (fun (k : Nat) => vhd (hearAt a b (List.length l) (wn + (1 : Nat)) k)) fun (i : Nat) => List.take (4 : Nat) (List.drop (i * (4 : Nat)) [V.i (Prod.fst (hearN a b k (nearLo k (wn + (1 : Nat))) (List.length (nearV k (List.length l) (wn + (1 : Nat)))))), V.i (Prod.fst (Prod.snd (hearN a b k (nearLo k (wn + (1 : Nat))) (List.length (nearV k (List.length l) (wn + (1 : Nat))))))), V.i (Prod.fst (Prod.snd (Prod.snd (hearN a b k (nearLo k (wn + (1 : Nat))) (List.length (nearV k (List.length l) (wn + (1 : Nat)))))))), V.i (Prod.snd (Prod.snd (Prod.snd (hearN a b k (nearLo k (wn + (1 : Nat))) (List.length (nearV k (List.length l) (wn + (1 : Nat))))))))])), (by kernel_rfl), .row (by kernel_rfl) ?_⟩ .nil) (by kernel_rfl) (by kernel_rfl)
      intro i hi
      have hln : (nearV k l.length (wn + 1)).length = nearN k l.length (wn + 1) := by simp [nearV]
      rw [hln]
      by_cases hik : i < k
      · rw [appRow_lt hik]; rfl
      · obtain rfl : i = k := by omega
        rw [appRow_at]
        simp only [hearAt, hearK_all hkl (Nat.succ_pos wn)]
        rfl
    · intro _ _ _ _ h
      exact h.elim
  simp at hkl
  obtain rfl : k = l.length := by omega
  refine aw_exit ?_
  refine xt_x ?_
  refine xt_x ?_
  refine xb_same ?_
  refine xt_n ?_
  clear hK K
  refine hK _ ?_
  clear hK K
  refine aw_seq_k fun K hK => ?_
  refine w_region (n' := 3) (by kernel_rfl) (by kernel_rfl) ?_
  refine aops_n hTT (M := []) (n := 3) [pv (130 : Nat) (V.own (14 : Nat)), pv (8 : Nat) (V.own (14 : Nat)), pv (9 : Nat) (V.i (0 : Int))] (by kernel_rfl) (by kernel_rfl) True.intro ?_
  refine aops_nil ?_
  refine xt_n ?_
  refine hK _ ?_
  clear hK K
  refine aw_ret ?_
  have h5 := hearE_5 h1 h2 h3 h4
  have h6 : hearNn s t l wn = l.length := by rw [hearNn, if_pos h5]
  refine ret_of_le (le_shut 8 14 (e := (72 : Nat)) (sz := (4 : Nat)) (n := List.length l) (n' := (hearNn s t l wn)) (row := fun (k : Nat) => vhd (hearAt a b (List.length l) (wn + (1 : Nat)) k)) (row' := (fun k => vhd (hearAt (readP s l) (readP t l) l.length ((wn : Int).toNat + 1) k))) (by kernel_rfl) (by kernel_rfl) (fun _ _ => rfl) ?_ ?_) ?_
  · exact h6.symm
  · intro i _
    rw [ha, hb]
    rfl
  refine ret_pure (v' := V.tup [V.sl (4 : Nat) (hearNn s t l (↑wn : Int)) fun (k : Nat) => vhd (hearAt (readP s l) (readP t l) (List.length l) (wn + (1 : Nat)) k), V.i (0 : Int)]) (.inr rfl) (by kernel_rfl) ?_ (by kernel_rfl)
  rw [hearV, h5]
  rfl
end Go.Proofs.Ytlfaaddoemcokaa
