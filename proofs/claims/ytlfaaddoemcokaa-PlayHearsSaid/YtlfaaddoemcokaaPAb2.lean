/-
  What a tip misses: the walks of both copies. Conditions: a valid tip and groove.
-/
import Derived.Test.YtlfaaddoemcokaaPAb1
import Derived.Test.YtlfaaddoemcokaaPlayG
namespace Go.Proofs.Ytlfaaddoemcokaa
open Go.Ab Go.RowKit Go.Dw Go.Shelf

def missB (t : List Int) (l : List Pt) (i u : Nat) : Bool := decide (dist u i < t.length) && (decide ((gp l i).2 > (gp l u).2 + gi t (dist u i)) || decide ((gp l i).1 < (gp l u).1 - gi t (dist u i)))
def missRow (t : List Int) (l : List Pt) (i : Nat) : Option Nat := (List.range l.length).find? (missB t l i)
def missP (t : List Int) (l : List Pt) : Option (Nat × Nat) := (List.range l.length).findSome? fun i => (missRow t l i).map fun u => (i, u)
theorem find_first {p : Nat → Bool} {n k : Nat} (hk : k < n) (hp : p k = true) (h : ∀ j, j < k → p j = false) : (List.range n).find? p = some k := by
  rw [List.find?_range_eq_some]
  exact ⟨hp, by simpa using hk, fun j hj => by simp [h j hj]⟩
theorem find_none {p : Nat → Bool} {n : Nat} (h : ∀ j, j < n → p j = false) : (List.range n).find? p = none := by
  rw [List.find?_eq_none]
  intro x hx
  simp [h x (by simpa using hx)]
theorem findSome_first {β : Type} {f : Nat → Option β} {n k : Nat} {y : β} (hk : k < n) (hp : f k = some y) (h : ∀ j, j < k → f j = none) : (List.range n).findSome? f = some y := by
  induction n with
  | zero => omega
  | succ n ih =>
    rw [List.range_succ, List.findSome?_append]
    by_cases he : k = n
    · subst he
      have : (List.range k).findSome? f = none := by
        rw [List.findSome?_eq_none_iff]
        intro x hx
        exact h x (by simpa using hx)
      simp [this, hp]
    · simp [ih (by omega)]
theorem findSome_none {β : Type} {f : Nat → Option β} {n : Nat} (h : ∀ j, j < n → f j = none) : (List.range n).findSome? f = none := by
  rw [List.findSome?_eq_none_iff]
  intro x hx
  exact h x (by simpa using hx)
def missI (t : List Int) (l : List Pt) : Int × Int × Int := match missP t l with
  | some p => ((p.1 : Int), (p.2 : Int), 0)
  | none => (0, 0, 5)
theorem missI_some {t : List Int} {l : List Pt} {i u : Nat} (hi : i < l.length) (hu : u < l.length) (h : missB t l i u = true) (h1 : ∀ j, j < u → missB t l i j = false) (h2 : ∀ j, j < i → missRow t l j = none) : missI t l = ((i : Int), (u : Int), 0) := by
  have e1 : missRow t l i = some u := find_first hu h h1
  have e2 : missP t l = some (i, u) := findSome_first hi (by rw [e1]; rfl) fun j hj => by rw [h2 j hj]; rfl
  rw [missI, e2]
theorem missI_none {t : List Int} {l : List Pt} (h2 : ∀ j, j < l.length → missRow t l j = none) : missI t l = (0, 0, 5) := by
  have e2 : missP t l = none := findSome_none fun j hj => by rw [h2 j hj]; rfl
  rw [missI, e2]

theorem gp_bd {l : List Pt} (h : ∀ p ∈ l, -4194304 ≤ p.1 ∧ p.1 ≤ 4194304 ∧ -4194304 ≤ p.2 ∧ p.2 ≤ 4194304) (k : Nat) : -4194304 ≤ (gp l k).1 ∧ (gp l k).1 ≤ 4194304 ∧ -4194304 ≤ (gp l k).2 ∧ (gp l k).2 ≤ 4194304 := by
  by_cases hk : k < l.length
  · exact h _ (gp_mem hk)
  · simp [gp, List.getD_eq_getElem?_getD, List.getElem?_eq_none (Nat.le_of_not_lt hk)]
theorem gi_bd {l : List Int} (h : ∀ x ∈ l, 0 ≤ x ∧ x ≤ 4194304) (k : Nat) : 0 ≤ gi l k ∧ gi l k ≤ 4194304 := by
  by_cases hk : k < l.length
  · exact h _ (gi_mem hk)
  · simp [gi, List.getD_eq_getElem?_getD, List.getElem?_eq_none (Nat.le_of_not_lt hk)]
theorem nearV_get {i n r j : Nat} {x : List V} (h : (nearV i n r)[j]? = some x) : j < nearN i n r ∧ [V.i ((nearLo i r : Int) + (j : Int)), V.i ((dist (nearLo i r + j) i : Nat) : Int)] = x := by
  unfold nearV at h
  rw [List.getElem?_map] at h
  by_cases hk : j < nearN i n r
  · rw [List.getElem?_range hk] at h; exact ⟨hk, by simpa using h⟩
  · rw [List.getElem?_eq_none (by simpa using hk)] at h; cases h

set_option maxRecDepth 100000 in
theorem miss_ac (t : List Int) (l : List Pt) (h0 : checkBoth t l = 0) : AC Try.prog 70 [.agg [V.ints t], V.pts l] (.tup [.i (missI t l).1, .i (missI t l).2.1, .i (missI t l).2.2]) [] := by
  obtain ⟨k1, k2⟩ := checkBoth_ok h0
  obtain ⟨m1, m2, _, _, m3⟩ := checkTip_ok k1
  obtain ⟨m4, m5⟩ := checkPts_ok k2
  refine ac_intro hTT hMX (fn := Try.f70) (N := _) ⟨Try.func70, rfl, Try.ntmps70, by kernel_rfl⟩ (by simp) fun C hC hF => ?_
  refine aw_seq_k fun K hK => ?_
  refine w_region (n' := 2) (by kernel_rfl) (by kernel_rfl) ?_
  refine aops_n hTT (M := []) (n := 5) [pv (2 : Nat) (V.ptr [V.sl (1 : Nat) (List.length t) fun (k : Nat) => [V.i (gi t k)]]), pv (3 : Nat) (V.ptr [V.sl (2 : Nat) (List.length l) fun (k : Nat) => [V.i (Prod.fst (gp l k)), V.i (Prod.snd (gp l k))]]), pn (4 : Nat) (V.ref (100004 : Nat) (0 : Nat)) (100004 : Nat) (Ob.box (3 : Nat) [V.i (0 : Int)]), pn (5 : Nat) (V.ref (100005 : Nat) (0 : Nat)) (100005 : Nat) (Ob.box (3 : Nat) [V.i (0 : Int)]), pn (6 : Nat) (V.ref (100006 : Nat) (0 : Nat)) (100006 : Nat) (Ob.box (30 : Nat) [V.i (0 : Int)])] (by kernel_rfl) (by kernel_rfl) True.intro ?_
  refine aops_nil ?_
  refine xt_n ?_
  refine hK _ ?_
  clear hK K
  refine aw_seq_k fun K hK => ?_
  refine aw_seq_k fun K hK => ?_
  refine w_region (n' := 3) (by kernel_rfl) (by kernel_rfl) ?_
  refine aops_n hTT (M := []) (n := 3) [pv (11 : Nat) (V.sl (2 : Nat) (List.length l) fun (k : Nat) => [V.i (Prod.fst (gp l k)), V.i (Prod.snd (gp l k))]), pv (12 : Nat) (V.i (↑(List.length l) : Int)), pv (13 : Nat) (V.i (0 : Int))] (by kernel_rfl) (by kernel_rfl) True.intro ?_
  refine aops_nil ?_
  refine xt_n ?_
  refine hK _ ?_
  clear hK K
  refine aw_block ?_
  refine w_loop (fun k : Nat => [(2, .ptr [V.ints t]), (3, .ptr [V.pts l]), (4, .ref 4 0), (5, .ref 5 0), (6, .ref 6 0), (11, V.pts l), (12, .i l.length), (13, .i k)]) (fun k => [(4, .box 3 [.i 0]), (5, .box 3 [.i 0]), (6, .box 30 [.i 0])]) (fun k => k ≤ l.length ∧ ∀ i, i < k → missRow t l i = none) (fun k => l.length - k) 0 ⟨Nat.zero_le _, fun i hi => by omega⟩ ?_ ?_
  · exact le_ren [(4, _), (5, _), (6, _)] (.cons rfl (.cons rfl (.cons rfl (.cons rfl (.cons rfl (.cons rfl (.cons rfl (.cons rfl .nil)))))))) (.cons ⟨_, rfl, .box rfl⟩ (.cons ⟨_, rfl, .box rfl⟩ (.cons ⟨_, rfl, .box rfl⟩ .nil))) rfl rfl
  rintro k ⟨hk, hrow⟩
  refine aw_seq_k fun K hK => ?_
  refine w_region (n' := 2) (by kernel_rfl) (by kernel_rfl) ?_
  refine aops_n hTT (M := []) (n := 1) [pv (14 : Nat) (V.b (decide ((↑k : Int) < (↑(List.length l) : Int))))] (by kernel_rfl) (by kernel_rfl) True.intro ?_
  refine aops_nil ?_
  refine xt_n ?_
  refine hK _ ?_
  clear hK K
  refine aw_seq_k fun K hK => ?_
  refine w_cond rfl (fun h => ?_) (fun h => ?_)
  · simp at h
    refine aw_skip ?_
    refine xt_n ?_
    refine hK _ ?_
    clear hK K
    refine aw_seq_k fun K hK => ?_
    refine aw_block ?_
    refine aw_seq_k fun K hK => ?_
    refine w_region (n' := 3) (by kernel_rfl) (by kernel_rfl) ?_
    refine aops_n hTT (M := []) (n := 7) [pv (15 : Nat) (V.i (↑k : Int)), pc (16 : Nat) ((0 : Int) ≤ (↑k : Int) ∧ (↑k : Int) < (↑(List.length l) : Int)) (V.ptr [V.i (Prod.fst (gp l k)), V.i (Prod.snd (gp l k))]), pv (17 : Nat) (V.agg [V.i (Prod.fst (gp l k)), V.i (Prod.snd (gp l k))]), pn (7 : Nat) (V.ref (200007 : Nat) (0 : Nat)) (200007 : Nat) (Ob.box (3 : Nat) [V.i (0 : Int)]), pn (8 : Nat) (V.ref (200008 : Nat) (0 : Nat)) (200008 : Nat) (Ob.box (29 : Nat) [V.i (0 : Int), V.i (0 : Int)]), pw ((0 : Nat) + (1 : Nat) ≤ (1 : Nat)) (200007 : Nat) (Ob.box (3 : Nat) [V.i (↑k : Int)]), pw ((0 : Nat) + (2 : Nat) ≤ (2 : Nat)) (200008 : Nat) (Ob.box (29 : Nat) [V.i (Prod.fst (gp l k)), V.i (Prod.snd (gp l k))])] (by kernel_rfl) (by kernel_rfl) ⟨(by omega), (by omega), (by omega), True.intro⟩ ?_
    refine aops_nil ?_
    refine xt_n ?_
    refine hK _ ?_
    clear hK K
    refine aw_seq_k fun K hK => ?_
    refine w_region (n' := 4) (by kernel_rfl) (by kernel_rfl) ?_
    refine aops_n hTT (M := []) (n := 6) [pc (18 : Nat) ((0 : Nat) ≤ (1 : Nat)) (V.i (↑k : Int)), pv (19 : Nat) (V.sl (2 : Nat) (List.length l) fun (k : Nat) => [V.i (Prod.fst (gp l k)), V.i (Prod.snd (gp l k))]), pv (20 : Nat) (V.i (↑(List.length l) : Int)), pv (21 : Nat) (V.ptr [V.sl (1 : Nat) (List.length t) fun (k : Nat) => [V.i (gi t k)]]), pv (22 : Nat) (V.sl (1 : Nat) (List.length t) fun (k : Nat) => [V.i (gi t k)]), pv (23 : Nat) (V.i (↑(List.length t) : Int))] (by kernel_rfl) (by kernel_rfl) ⟨(by omega), True.intro⟩ ?_
    refine e_call (near_ac k l.length t.length) rfl rfl rfl rfl rfl ?_
    refine aops_nil ?_
    refine xt_n ?_
    refine hK _ ?_
    clear hK K
    refine aw_block ?_
    refine w_le (le_freezeBox (t := 3) (cs := [V.i k]) 200007 rfl rfl) ?_
    refine w_le (le_freezeBox (t := 29) (cs := [V.i (gp l k).1, V.i (gp l k).2]) 200008 rfl rfl) ?_
    refine w_range hF hC (near_aiter k l.length t.length (by omega) (by omega) (by omega)) rfl rfl ?_ rfl [504, 505, 506] [(504, 4), (505, 5), (506, 6)]
      [(2, .ptr [V.ints t]), (3, .ptr [V.pts l]), (4, .ref 504 0), (5, .ref 505 0), (6, .ref 506 0), (7, .ptr [.i k]), (8, .ptr [.i (gp l k).1, .i (gp l k).2]), (11, V.pts l), (12, .i l.length), (13, .i k)]
      (fun j => ∀ j', j' < j → missB t l k (nearLo k t.length + j') = false) (fun _ => [.box 3 [.i 0], .box 3 [.i 0], .box 30 [.i 0]])
      (fun j c sx => c = .ret ∧ ∃ u, u < l.length ∧ missB t l k u = true ∧ (∀ j', j' < u → missB t l k j' = false) ∧ sx = [.box 3 [.i k], .box 3 [.i u], .box 30 [.i 0]])
      (fun j' hj => by omega) rfl rfl rfl ?_ ?_ rfl ?_ ?_ ?_ ?_ ?_
    · intro x hx
      simp only [nearV, List.mem_map] at hx
      obtain ⟨j, _, rfl⟩ := hx
      rfl
    · exact .cons rfl (.cons rfl (.cons rfl (.cons rfl (.cons rfl (.cons rfl (.cons rfl (.cons rfl (.cons rfl (.cons rfl .nil)))))))))
    · exact .cons ⟨_, rfl, .box rfl⟩ (.cons ⟨_, rfl, .box rfl⟩ (.cons ⟨_, rfl, .box rfl⟩ .nil))
    · intro _ o ho
      simp at ho
      rcases ho with rfl | rfl | rfl <;> rfl
    · rintro j c sx ⟨_, u, _, _, _, rfl⟩ o ho
      simp at ho
      rcases ho with rfl | rfl | rfl <;> rfl
    · rintro C' ⟨lx, hF'⟩ j x hx hok
      obtain ⟨hj, rfl⟩ := nearV_get hx
      have hu : nearLo k t.length + j < l.length := by unfold nearN at hj; omega
      have hd : dist (nearLo k t.length + j) k < t.length := by unfold nearN nearLo dist at *; omega
      have b0 := gp_bd m5 k
      have b1 := gp_bd m5 (nearLo k t.length + j)
      have b2 := gi_bd m3 (dist (nearLo k t.length + j) k)
      refine aw_seq_k fun K hK => ?_
      refine w_region (n' := 2) (by kernel_rfl) (by kernel_rfl) ?_
      refine aops_n hTT (M := []) (n := 1) [pv (9 : Nat) (V.i ((↑(nearLo k (List.length t)) : Int) + (↑j : Int)))] (by kernel_rfl) (by kernel_rfl) True.intro ?_
      refine aops_nil ?_
      refine xt_n ?_
      refine hK _ ?_
      clear hK K
      refine w_region (n' := 3) (by kernel_rfl) (by kernel_rfl) ?_
      refine aops_n hTT (M := []) (n := 1) [pv (10 : Nat) (V.i (↑(dist (nearLo k (List.length t) + j) k) : Int))] (by kernel_rfl) (by kernel_rfl) True.intro ?_
      refine aops_nil ?_
      refine xt_n ?_
      refine aw_block ?_
      refine aw_seq_k fun K hK => ?_
      refine w_regionD (n' := 4) (by kernel_rfl) (by kernel_rfl) ?_
      refine aops_n hTT (M := []) (n := 30) [pv (27 : Nat) (V.ptr [V.i (Prod.snd (gp l k))]), pv (28 : Nat) (V.i (Prod.snd (gp l k))), pv (29 : Nat) (V.sl (2 : Nat) (List.length l) fun (k : Nat) => [V.i (Prod.fst (gp l k)), V.i (Prod.snd (gp l k))]), pv (30 : Nat) (V.i ((↑(nearLo k (List.length t)) : Int) + (↑j : Int))), pc (31 : Nat) ((0 : Int) ≤ (↑(nearLo k (List.length t)) : Int) + (↑j : Int) ∧ (↑(nearLo k (List.length t)) : Int) + (↑j : Int) < (↑(List.length l) : Int)) (V.ptr [V.i (Prod.fst (gp l (nearLo k (List.length t) + j))), V.i (Prod.snd (gp l (nearLo k (List.length t) + j)))]), pv (32 : Nat) (V.ptr [V.i (Prod.snd (gp l (nearLo k (List.length t) + j)))]), pv (33 : Nat) (V.i (Prod.snd (gp l (nearLo k (List.length t) + j)))), pv (34 : Nat) (V.ptr [V.sl (1 : Nat) (List.length t) fun (k : Nat) => [V.i (gi t k)]]), pv (35 : Nat) (V.sl (1 : Nat) (List.length t) fun (k : Nat) => [V.i (gi t k)]), pv (36 : Nat) (V.i (↑(dist (nearLo k (List.length t) + j) k) : Int)), pc (37 : Nat) ((0 : Int) ≤ (↑(dist (nearLo k (List.length t) + j) k) : Int) ∧ (↑(dist (nearLo k (List.length t) + j) k) : Int) < (↑(List.length t) : Int)) (V.ptr [V.i (gi t (dist (nearLo k (List.length t) + j) k))]), pv (38 : Nat) (V.i (gi t (dist (nearLo k (List.length t) + j) k))), pc (39 : Nat) ((-9223372036854775808 : Int) ≤ Prod.snd (gp l (nearLo k (List.length t) + j)) + gi t (dist (nearLo k (List.length t) + j) k) ∧ Prod.snd (gp l (nearLo k (List.length t) + j)) + gi t (dist (nearLo k (List.length t) + j) k) ≤ (9223372036854775807 : Int)) (V.i (Prod.snd (gp l (nearLo k (List.length t) + j)) + gi t (dist (nearLo k (List.length t) + j) k))), pv (40 : Nat) (V.b (decide (Prod.snd (gp l (nearLo k (List.length t) + j)) + gi t (dist (nearLo k (List.length t) + j) k) < Prod.snd (gp l k)))), pv (41 : Nat) (V.b (decide (Prod.snd (gp l (nearLo k (List.length t) + j)) + gi t (dist (nearLo k (List.length t) + j) k) < Prod.snd (gp l k)))), pc (42 : Nat) ((True ∧ True) ∧ ((decide (Prod.snd (gp l (nearLo k (List.length t) + j)) + gi t (dist (nearLo k (List.length t) + j) k) < Prod.snd (gp l k)) == false) = true → True)) (V.gd (decide (Prod.snd (gp l (nearLo k (List.length t) + j)) + gi t (dist (nearLo k (List.length t) + j) k) < Prod.snd (gp l k)) == false) (V.ptr [V.i (Prod.fst (gp l k)), V.i (Prod.snd (gp l k))])), pc (43 : Nat) ((((decide (Prod.snd (gp l (nearLo k (List.length t) + j)) + gi t (dist (nearLo k (List.length t) + j) k) < Prod.snd (gp l k)) == false) = true → (decide (Prod.snd (gp l (nearLo k (List.length t) + j)) + gi t (dist (nearLo k (List.length t) + j) k) < Prod.snd (gp l k)) == false) = true) ∧ True) ∧ ((decide (Prod.snd (gp l (nearLo k (List.length t) + j)) + gi t (dist (nearLo k (List.length t) + j) k) < Prod.snd (gp l k)) == false) = true → True)) (V.gd (decide (Prod.snd (gp l (nearLo k (List.length t) + j)) + gi t (dist (nearLo k (List.length t) + j) k) < Prod.snd (gp l k)) == false) (V.i (Prod.fst (gp l k)))), pc (44 : Nat) ((True ∧ True) ∧ ((decide (Prod.snd (gp l (nearLo k (List.length t) + j)) + gi t (dist (nearLo k (List.length t) + j) k) < Prod.snd (gp l k)) == false) = true → True)) (V.gd (decide (Prod.snd (gp l (nearLo k (List.length t) + j)) + gi t (dist (nearLo k (List.length t) + j) k) < Prod.snd (gp l k)) == false) (V.sl (2 : Nat) (List.length l) fun (k : Nat) => [V.i (Prod.fst (gp l k)), V.i (Prod.snd (gp l k))])), pc (45 : Nat) ((True ∧ True) ∧ ((decide (Prod.snd (gp l (nearLo k (List.length t) + j)) + gi t (dist (nearLo k (List.length t) + j) k) < Prod.snd (gp l k)) == false) = true → True)) (V.gd (decide (Prod.snd (gp l (nearLo k (List.length t) + j)) + gi t (dist (nearLo k (List.length t) + j) k) < Prod.snd (gp l k)) == false) (V.i ((↑(nearLo k (List.length t)) : Int) + (↑j : Int)))), pc (46 : Nat) ((((decide (Prod.snd (gp l (nearLo k (List.length t) + j)) + gi t (dist (nearLo k (List.length t) + j) k) < Prod.snd (gp l k)) == false) = true → (decide (Prod.snd (gp l (nearLo k (List.length t) + j)) + gi t (dist (nearLo k (List.length t) + j) k) < Prod.snd (gp l k)) == false) = true) ∧ ((decide (Prod.snd (gp l (nearLo k (List.length t) + j)) + gi t (dist (nearLo k (List.length t) + j) k) < Prod.snd (gp l k)) == false) = true → (decide (Prod.snd (gp l (nearLo k (List.length t) + j)) + gi t (dist (nearLo k (List.length t) + j) k) < Prod.snd (gp l k)) == false) = true) ∧ True) ∧ ((decide (Prod.snd (gp l (nearLo k (List.length t) + j)) + gi t (dist (nearLo k (List.length t) + j) k) < Prod.snd (gp l k)) == false) = true → (0 : Int) ≤ (↑(nearLo k (List.length t)) : Int) + (↑j : Int) ∧ (↑(nearLo k (List.length t)) : Int) + (↑j : Int) < (↑(List.length l) : Int))) (V.gd (decide (Prod.snd (gp l (nearLo k (List.length t) + j)) + gi t (dist (nearLo k (List.length t) + j) k) < Prod.snd (gp l k)) == false) (V.ptr [V.i (Prod.fst (gp l (nearLo k (List.length t) + j))), V.i (Prod.snd (gp l (nearLo k (List.length t) + j)))])), pc (47 : Nat) ((((decide (Prod.snd (gp l (nearLo k (List.length t) + j)) + gi t (dist (nearLo k (List.length t) + j) k) < Prod.snd (gp l k)) == false) = true → (decide (Prod.snd (gp l (nearLo k (List.length t) + j)) + gi t (dist (nearLo k (List.length t) + j) k) < Prod.snd (gp l k)) == false) = true) ∧ True) ∧ ((decide (Prod.snd (gp l (nearLo k (List.length t) + j)) + gi t (dist (nearLo k (List.length t) + j) k) < Prod.snd (gp l k)) == false) = true → True)) (V.gd (decide (Prod.snd (gp l (nearLo k (List.length t) + j)) + gi t (dist (nearLo k (List.length t) + j) k) < Prod.snd (gp l k)) == false) (V.ptr [V.i (Prod.fst (gp l (nearLo k (List.length t) + j))), V.i (Prod.snd (gp l (nearLo k (List.length t) + j)))])), pc (48 : Nat) ((((decide (Prod.snd (gp l (nearLo k (List.length t) + j)) + gi t (dist (nearLo k (List.length t) + j) k) < Prod.snd (gp l k)) == false) = true → (decide (Prod.snd (gp l (nearLo k (List.length t) + j)) + gi t (dist (nearLo k (List.length t) + j) k) < Prod.snd (gp l k)) == false) = true) ∧ True) ∧ ((decide (Prod.snd (gp l (nearLo k (List.length t) + j)) + gi t (dist (nearLo k (List.length t) + j) k) < Prod.snd (gp l k)) == false) = true → True)) (V.gd (decide (Prod.snd (gp l (nearLo k (List.length t) + j)) + gi t (dist (nearLo k (List.length t) + j) k) < Prod.snd (gp l k)) == false) (V.i (Prod.fst (gp l (nearLo k (List.length t) + j))))), pc (49 : Nat) ((True ∧ True) ∧ ((decide (Prod.snd (gp l (nearLo k (List.length t) + j)) + gi t (dist (nearLo k (List.length t) + j) k) < Prod.snd (gp l k)) == false) = true → True)) (V.gd (decide (Prod.snd (gp l (nearLo k (List.length t) + j)) + gi t (dist (nearLo k (List.length t) + j) k) < Prod.snd (gp l k)) == false) (V.ptr [V.sl (1 : Nat) (List.length t) fun (k : Nat) => [V.i (gi t k)]])), pc (50 : Nat) ((((decide (Prod.snd (gp l (nearLo k (List.length t) + j)) + gi t (dist (nearLo k (List.length t) + j) k) < Prod.snd (gp l k)) == false) = true → (decide (Prod.snd (gp l (nearLo k (List.length t) + j)) + gi t (dist (nearLo k (List.length t) + j) k) < Prod.snd (gp l k)) == false) = true) ∧ True) ∧ ((decide (Prod.snd (gp l (nearLo k (List.length t) + j)) + gi t (dist (nearLo k (List.length t) + j) k) < Prod.snd (gp l k)) == false) = true → True)) (V.gd (decide (Prod.snd (gp l (nearLo k (List.length t) + j)) + gi t (dist (nearLo k (List.length t) + j) k) < Prod.snd (gp l k)) == false) (V.sl (1 : Nat) (List.length t) fun (k : Nat) => [V.i (gi t k)])), pc (51 : Nat) ((True ∧ True) ∧ ((decide (Prod.snd (gp l (nearLo k (List.length t) + j)) + gi t (dist (nearLo k (List.length t) + j) k) < Prod.snd (gp l k)) == false) = true → True)) (V.gd (decide (Prod.snd (gp l (nearLo k (List.length t) + j)) + gi t (dist (nearLo k (List.length t) + j) k) < Prod.snd (gp l k)) == false) (V.i (↑(dist (nearLo k (List.length t) + j) k) : Int))), pc (52 : Nat) ((((decide (Prod.snd (gp l (nearLo k (List.length t) + j)) + gi t (dist (nearLo k (List.length t) + j) k) < Prod.snd (gp l k)) == false) = true → (decide (Prod.snd (gp l (nearLo k (List.length t) + j)) + gi t (dist (nearLo k (List.length t) + j) k) < Prod.snd (gp l k)) == false) = true) ∧ ((decide (Prod.snd (gp l (nearLo k (List.length t) + j)) + gi t (dist (nearLo k (List.length t) + j) k) < Prod.snd (gp l k)) == false) = true → (decide (Prod.snd (gp l (nearLo k (List.length t) + j)) + gi t (dist (nearLo k (List.length t) + j) k) < Prod.snd (gp l k)) == false) = true) ∧ True) ∧ ((decide (Prod.snd (gp l (nearLo k (List.length t) + j)) + gi t (dist (nearLo k (List.length t) + j) k) < Prod.snd (gp l k)) == false) = true → (0 : Int) ≤ (↑(dist (nearLo k (List.length t) + j) k) : Int) ∧ (↑(dist (nearLo k (List.length t) + j) k) : Int) < (↑(List.length t) : Int))) (V.gd (decide (Prod.snd (gp l (nearLo k (List.length t) + j)) + gi t (dist (nearLo k (List.length t) + j) k) < Prod.snd (gp l k)) == false) (V.ptr [V.i (gi t (dist (nearLo k (List.length t) + j) k))])), pc (53 : Nat) ((((decide (Prod.snd (gp l (nearLo k (List.length t) + j)) + gi t (dist (nearLo k (List.length t) + j) k) < Prod.snd (gp l k)) == false) = true → (decide (Prod.snd (gp l (nearLo k (List.length t) + j)) + gi t (dist (nearLo k (List.length t) + j) k) < Prod.snd (gp l k)) == false) = true) ∧ True) ∧ ((decide (Prod.snd (gp l (nearLo k (List.length t) + j)) + gi t (dist (nearLo k (List.length t) + j) k) < Prod.snd (gp l k)) == false) = true → True)) (V.gd (decide (Prod.snd (gp l (nearLo k (List.length t) + j)) + gi t (dist (nearLo k (List.length t) + j) k) < Prod.snd (gp l k)) == false) (V.i (gi t (dist (nearLo k (List.length t) + j) k)))), pc (54 : Nat) ((((decide (Prod.snd (gp l (nearLo k (List.length t) + j)) + gi t (dist (nearLo k (List.length t) + j) k) < Prod.snd (gp l k)) == false) = true → (decide (Prod.snd (gp l (nearLo k (List.length t) + j)) + gi t (dist (nearLo k (List.length t) + j) k) < Prod.snd (gp l k)) == false) = true) ∧ ((decide (Prod.snd (gp l (nearLo k (List.length t) + j)) + gi t (dist (nearLo k (List.length t) + j) k) < Prod.snd (gp l k)) == false) = true → (decide (Prod.snd (gp l (nearLo k (List.length t) + j)) + gi t (dist (nearLo k (List.length t) + j) k) < Prod.snd (gp l k)) == false) = true) ∧ True) ∧ ((decide (Prod.snd (gp l (nearLo k (List.length t) + j)) + gi t (dist (nearLo k (List.length t) + j) k) < Prod.snd (gp l k)) == false) = true → (-9223372036854775808 : Int) ≤ Prod.fst (gp l (nearLo k (List.length t) + j)) - gi t (dist (nearLo k (List.length t) + j) k) ∧ Prod.fst (gp l (nearLo k (List.length t) + j)) - gi t (dist (nearLo k (List.length t) + j) k) ≤ (9223372036854775807 : Int))) (V.gd (decide (Prod.snd (gp l (nearLo k (List.length t) + j)) + gi t (dist (nearLo k (List.length t) + j) k) < Prod.snd (gp l k)) == false) (V.i (Prod.fst (gp l (nearLo k (List.length t) + j)) - gi t (dist (nearLo k (List.length t) + j) k)))), pc (55 : Nat) ((((decide (Prod.snd (gp l (nearLo k (List.length t) + j)) + gi t (dist (nearLo k (List.length t) + j) k) < Prod.snd (gp l k)) == false) = true → (decide (Prod.snd (gp l (nearLo k (List.length t) + j)) + gi t (dist (nearLo k (List.length t) + j) k) < Prod.snd (gp l k)) == false) = true) ∧ ((decide (Prod.snd (gp l (nearLo k (List.length t) + j)) + gi t (dist (nearLo k (List.length t) + j) k) < Prod.snd (gp l k)) == false) = true → (decide (Prod.snd (gp l (nearLo k (List.length t) + j)) + gi t (dist (nearLo k (List.length t) + j) k) < Prod.snd (gp l k)) == false) = true) ∧ True) ∧ ((decide (Prod.snd (gp l (nearLo k (List.length t) + j)) + gi t (dist (nearLo k (List.length t) + j) k) < Prod.snd (gp l k)) == false) = true → True)) (V.gd (decide (Prod.snd (gp l (nearLo k (List.length t) + j)) + gi t (dist (nearLo k (List.length t) + j) k) < Prod.snd (gp l k)) == false) (V.b (decide (Prod.fst (gp l k) < Prod.fst (gp l (nearLo k (List.length t) + j)) - gi t (dist (nearLo k (List.length t) + j) k))))), pc (56 : Nat) (True ∧ (decide (Prod.snd (gp l (nearLo k (List.length t) + j)) + gi t (dist (nearLo k (List.length t) + j) k) < Prod.snd (gp l k)) = false → (decide (Prod.snd (gp l (nearLo k (List.length t) + j)) + gi t (dist (nearLo k (List.length t) + j) k) < Prod.snd (gp l k)) == false) = true)) (V.b (decide (Prod.snd (gp l (nearLo k (List.length t) + j)) + gi t (dist (nearLo k (List.length t) + j) k) < Prod.snd (gp l k)) || decide (Prod.fst (gp l k) < Prod.fst (gp l (nearLo k (List.length t) + j)) - gi t (dist (nearLo k (List.length t) + j) k))))] (by kernel_rfl) (by kernel_rfl) ⟨(by omega), (by omega), (by omega), ⟨⟨True.intro, True.intro⟩, (fun _ => True.intro)⟩, ⟨⟨(by (exact fun h => h)), True.intro⟩, (fun _ => True.intro)⟩, ⟨⟨True.intro, True.intro⟩, (fun _ => True.intro)⟩, ⟨⟨True.intro, True.intro⟩, (fun _ => True.intro)⟩, ⟨⟨(by (exact fun h => h)), ⟨(by (exact fun h => h)), True.intro⟩⟩, (by (intro hg; simp at hg; omega))⟩, ⟨⟨(by (exact fun h => h)), True.intro⟩, (fun _ => True.intro)⟩, ⟨⟨(by (exact fun h => h)), True.intro⟩, (fun _ => True.intro)⟩, ⟨⟨True.intro, True.intro⟩, (fun _ => True.intro)⟩, ⟨⟨(by (exact fun h => h)), True.intro⟩, (fun _ => True.intro)⟩, ⟨⟨True.intro, True.intro⟩, (fun _ => True.intro)⟩, ⟨⟨(by (exact fun h => h)), ⟨(by (exact fun h => h)), True.intro⟩⟩, (by (intro hg; simp at hg; omega))⟩, ⟨⟨(by (exact fun h => h)), True.intro⟩, (fun _ => True.intro)⟩, ⟨⟨(by (exact fun h => h)), ⟨(by (exact fun h => h)), True.intro⟩⟩, (by (intro hg; simp at hg; omega))⟩, ⟨⟨(by (exact fun h => h)), ⟨(by (exact fun h => h)), True.intro⟩⟩, (fun _ => True.intro)⟩, ⟨True.intro, (by (intro h; rw [h]; rfl))⟩, True.intro⟩ ?_
      refine aops_nil ⟨by kernel_rfl, ?_⟩
      refine xt_n ?_
      refine hK _ ?_
      clear hK K
      refine w_cond rfl (fun hc => ?_) (fun hc => ?_)
      ·
        refine aw_seq_k fun K hK => ?_
        refine w_region (n' := 5) (by kernel_rfl) (by kernel_rfl) ?_
        refine aops_n hTT (M := []) (n := 5) [pv (57 : Nat) (V.i (↑k : Int)), pv (58 : Nat) (V.i ((↑(nearLo k (List.length t)) : Int) + (↑j : Int))), pw ((0 : Nat) + (1 : Nat) ≤ (1 : Nat)) (504 : Nat) (Ob.box (3 : Nat) [V.i (↑k : Int)]), pw ((0 : Nat) + (1 : Nat) ≤ (1 : Nat)) (505 : Nat) (Ob.box (3 : Nat) [V.i ((↑(nearLo k (List.length t)) : Int) + (↑j : Int))]), pw ((0 : Nat) + (1 : Nat) ≤ (1 : Nat)) (506 : Nat) (Ob.box (30 : Nat) [V.i (0 : Int)])] (by kernel_rfl) (by kernel_rfl) ⟨(by omega), (by omega), (by omega), True.intro⟩ ?_
        refine aops_nil ?_
        refine xt_n ?_
        refine hK _ ?_
        clear hK K
        refine aw_ret ?_
        refine xb_r ?_
        refine ⟨_, ⟨rfl, nearLo k t.length + j, hu, ?_, fun j' hj' => ?_, rfl⟩, le_ren [] .nil (.cons ⟨_, rfl, .box rfl⟩ (.cons ⟨_, rfl, .box rfl⟩ (.cons ⟨_, rfl, .box rfl⟩ .nil))) rfl rfl⟩
        · simp only [missB, hd, decide_true, Bool.true_and]
          exact hc
        · by_cases hlo : j' < nearLo k t.length
          · have : ¬ dist j' k < t.length := by unfold nearLo dist at *; omega
            simp [missB, this]
          · have := hok (j' - nearLo k t.length) (by omega)
            rwa [show nearLo k t.length + (j' - nearLo k t.length) = j' by omega] at this
      ·
        refine aw_skip ?_
        refine xb_n ?_
        refine ⟨fun j' hj' => ?_, le_ren [] .nil (.cons ⟨_, rfl, .box rfl⟩ (.cons ⟨_, rfl, .box rfl⟩ (.cons ⟨_, rfl, .box rfl⟩ .nil))) rfl rfl⟩
        by_cases he : j' = j
        · subst he
          simp only [missB, hd, decide_true, Bool.true_and]
          exact hc
        · exact hok j' (by omega)
    · intro hok
      have hlen : (nearV k l.length t.length).length = nearN k l.length t.length := by simp [nearV]
      rw [hlen] at hok
      have hr : missRow t l k = none := find_none fun u hu => by
        by_cases hlo : u < nearLo k t.length
        · have : ¬ dist u k < t.length := by unfold nearLo dist at *; omega
          simp [missB, this]
        · by_cases hhi : u < nearLo k t.length + nearN k l.length t.length
          · have := hok (u - nearLo k t.length) (by omega)
            rwa [show nearLo k t.length + (u - nearLo k t.length) = u by omega] at this
          · have : ¬ dist u k < t.length := by unfold nearN nearLo dist at *; omega
            simp [missB, this]
      refine xb_n ?_
      refine xb_n ?_
      refine xt_n ?_
      refine hK _ ?_
      clear hK K
      refine w_region (n' := 2) (by kernel_rfl) (by kernel_rfl) ?_
      refine aops_n hTT (M := []) (n := 2) [pc (59 : Nat) ((-9223372036854775808 : Int) ≤ (↑k : Int) + (1 : Int) ∧ (↑k : Int) + (1 : Int) ≤ (9223372036854775807 : Int)) (V.i ((↑k : Int) + (1 : Int))), pv (13 : Nat) (V.i ((↑k : Int) + (1 : Int)))] (by kernel_rfl) (by kernel_rfl) ⟨(by omega), True.intro⟩ ?_
      refine aops_nil ?_
      refine xt_n ?_
      refine ⟨k + 1, ⟨by omega, fun i hi => ?_⟩, le_ren [(4, 504), (5, 505), (6, 506)] (.cons rfl (.cons rfl (.cons rfl (.cons rfl (.cons rfl (.cons rfl (.cons rfl (.cons rfl .nil)))))))) (.cons ⟨_, rfl, .box rfl⟩ (.cons ⟨_, rfl, .box rfl⟩ (.cons ⟨_, rfl, .box rfl⟩ .nil))) rfl rfl, by omega⟩
      by_cases he : i = k
      · subst he; exact hr
      · exact hrow i (by omega)
    · rintro j c sx hj ⟨rfl, u, hu, hm, hu2, rfl⟩
      refine aw_ret ?_
      refine xb_r ?_
      refine xb_r ?_
      refine xt_r ?_
      refine xt_r ?_
      refine xb_r ?_
      refine xt_r ?_
      rw [missI_some h hu hm hu2 hrow]
      refine ret_pure (.inr rfl) rfl rfl rfl
  · simp at h
    refine aw_exit ?_
    refine xt_x ?_
    refine xt_x ?_
    refine xb_same ?_
    refine xt_n ?_
    clear hK K
    refine hK _ ?_
    clear hK K
    refine aw_seq_k fun K hK => ?_
    refine w_region (n' := 3) (by kernel_rfl) (by kernel_rfl) ?_
    refine aops_n hTT (M := []) (n := 3) [pw ((0 : Nat) + (1 : Nat) ≤ (1 : Nat)) (4 : Nat) (Ob.box (3 : Nat) [V.i (0 : Int)]), pw ((0 : Nat) + (1 : Nat) ≤ (1 : Nat)) (5 : Nat) (Ob.box (3 : Nat) [V.i (0 : Int)]), pw ((0 : Nat) + (1 : Nat) ≤ (1 : Nat)) (6 : Nat) (Ob.box (30 : Nat) [V.i (5 : Int)])] (by kernel_rfl) (by kernel_rfl) ⟨(by omega), (by omega), (by omega), True.intro⟩ ?_
    refine aops_nil ?_
    refine xt_n ?_
    refine hK _ ?_
    clear hK K
    refine aw_ret ?_
    rw [missI_none fun j hj => hrow j (by omega)]
    refine ret_pure (.inr rfl) rfl rfl rfl
end Go.Proofs.Ytlfaaddoemcokaa
