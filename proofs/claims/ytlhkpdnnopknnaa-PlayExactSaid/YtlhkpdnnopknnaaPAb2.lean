/-
  What a tip misses: the walks of both copies. Conditions: a valid tip and groove.
-/
import Derived.Test.YtlhkpdnnopknnaaPAb1
import Derived.Test.YtlhkpdnnopknnaaPlayG
namespace Go.Proofs.Ytlhkpdnnopknnaa
open Go.Ab Go.RowKit Go.Dw Go.Shelf

def missB (t : List Int) (l : List Pt) (i u : Nat) : Bool := decide (dist u i < t.length) && (decide ((gp l i).2 > (gp l u).2 + gi t (dist u i)) || decide ((gp l i).1 < (gp l u).1 - gi t (dist u i)))
def missRow (t : List Int) (l : List Pt) (i : Nat) : Option Nat := (List.range l.length).find? (missB t l i)
def missP (t : List Int) (l : List Pt) : Option (Nat × Nat) := (List.range l.length).findSome? fun i => (missRow t l i).map fun u => (i, u)
theorem find_first {p : Nat → Bool} {n k : Nat} (hk : k < n) (hp : p k = true) (h : ∀ j, j < k → p j = false) : (List.range n).find? p = some k := by
  rw [List.find?_range_eq_some]
  exact ⟨hp, by simpa using hk, fun j hj => by simp [h j hj]⟩
theorem find_none {p : Nat → Bool} {n : Nat} (h : ∀ j, j < n → p j = false) : (List.range n).find? p = none := by
  rw [List.find?_eq_none]
  intro x hx
  simp [h x (by simpa using hx)]
theorem findSome_first {β : Type} {f : Nat → Option β} {n k : Nat} {y : β} (hk : k < n) (hp : f k = some y) (h : ∀ j, j < k → f j = none) : (List.range n).findSome? f = some y := by
  induction n with
  | zero => omega
  | succ n ih =>
    rw [List.range_succ, List.findSome?_append]
    by_cases he : k = n
    · subst he
      have : (List.range k).findSome? f = none := by
        rw [List.findSome?_eq_none_iff]
        intro x hx
        exact h x (by simpa using hx)
      simp [this, hp]
    · simp [ih (by omega)]
theorem findSome_none {β : Type} {f : Nat → Option β} {n : Nat} (h : ∀ j, j < n → f j = none) : (List.range n).findSome? f = none := by
  rw [List.findSome?_eq_none_iff]
  intro x hx
  exact h x (by simpa using hx)
def missI (t : List Int) (l : List Pt) : Int × Int × Int := match missP t l with
  | some p => ((p.1 : Int), (p.2 : Int), 0)
  | none => (0, 0, 5)
theorem missI_some {t : List Int} {l : List Pt} {i u : Nat} (hi : i < l.length) (hu : u < l.length) (h : missB t l i u = true) (h1 : ∀ j, j < u → missB t l i j = false) (h2 : ∀ j, j < i → missRow t l j = none) : missI t l = ((i : Int), (u : Int), 0) := by
  have e1 : missRow t l i = some u := find_first hu h h1
  have e2 : missP t l = some (i, u) := findSome_first hi (by rw [e1]; rfl) fun j hj => by rw [h2 j hj]; rfl
  rw [missI, e2]
theorem missI_none {t : List Int} {l : List Pt} (h2 : ∀ j, j < l.length → missRow t l j = none) : missI t l = (0, 0, 5) := by
  have e2 : missP t l = none := findSome_none fun j hj => by rw [h2 j hj]; rfl
  rw [missI, e2]

theorem gp_bd {l : List Pt} (h : ∀ p ∈ l, -4194304 ≤ p.1 ∧ p.1 ≤ 4194304 ∧ -4194304 ≤ p.2 ∧ p.2 ≤ 4194304) (k : Nat) : -4194304 ≤ (gp l k).1 ∧ (gp l k).1 ≤ 4194304 ∧ -4194304 ≤ (gp l k).2 ∧ (gp l k).2 ≤ 4194304 := by
  by_cases hk : k < l.length
  · exact h _ (gp_mem hk)
  · simp [gp, List.getD_eq_getElem?_getD, List.getElem?_eq_none (Nat.le_of_not_lt hk)]
theorem gi_bd {l : List Int} (h : ∀ x ∈ l, 0 ≤ x ∧ x ≤ 4194304) (k : Nat) : 0 ≤ gi l k ∧ gi l k ≤ 4194304 := by
  by_cases hk : k < l.length
  · exact h _ (gi_mem hk)
  · simp [gi, List.getD_eq_getElem?_getD, List.getElem?_eq_none (Nat.le_of_not_lt hk)]
theorem nearV_get {i n r j : Nat} {x : List V} (h : (nearV i n r)[j]? = some x) : j < nearN i n r ∧ [V.i ((nearLo i r : Int) + (j : Int)), V.i ((dist (nearLo i r + j) i : Nat) : Int)] = x := by
  unfold nearV at h
  rw [List.getElem?_map] at h
  by_cases hk : j < nearN i n r
  · rw [List.getElem?_range hk] at h; exact ⟨hk, by simpa using h⟩
  · rw [List.getElem?_eq_none (by simpa using hk)] at h; cases h

set_option maxRecDepth 100000 in
theorem miss_ac (t : List Int) (l : List Pt) (h0 : checkBoth t l = 0) : AC Try.prog 70 [.agg [V.ints t], V.pts l] (.tup [.i (missI t l).1, .i (missI t l).2.1, .i (missI t l).2.2]) [] := by
  obtain ⟨k1, k2⟩ := checkBoth_ok h0
  obtain ⟨m1, m2, _, _, m3⟩ := checkTip_ok k1
  obtain ⟨m4, m5⟩ := checkPts_ok k2
  refine ac_intro hTT hMX (fn := Try.f70) (N := _) ⟨Try.func70, rfl, Try.ntmps70, by kernel_rfl⟩ (by simp) fun C hC hF => ?_
  repeat (first
    | (refine aw_seq_k fun K hK => ?_)
    | (refine xt_n ?_)
    | (refine xt_r ?_)
    | (refine xt_x ?_)
    | (refine xb_n ?_)
    | (refine xb_r ?_)
    | (refine xb_same ?_)
    | (refine xb_ne rfl ?_)
    | (refine aw_block ?_)
    | (refine aw_ret ?_)
    | (refine aw_exit ?_)
    | (refine aw_skip ?_)
    | (refine aw_label ?_)
    | (refine hK _ ?_; clear hK; clear K)
    | (clear hK; clear K; refine hK _ ?_; clear hK; clear K)
    | (clear hK; clear K; clear hK; clear K; refine hK _ ?_; clear hK; clear K)
    | (clear hK; clear K; clear hK; clear K; clear hK; clear K; refine hK _ ?_; clear hK; clear K)
    | (clear hK; clear K; clear hK; clear K; clear hK; clear K; clear hK; clear K; refine hK _ ?_; clear hK; clear K)
    | (first | refine w_region (by kernel_rfl) (by conv => { lhs; whnf }) ?_ | refine w_regionD (by kernel_rfl) (by conv => { lhs; whnf }) ?_)
    | refine aops_nil ⟨by kernel_rfl, ?_⟩
    | refine aops_nil ?_
    | (first
      | refine e_val hTT false [] rfl rfl rfl rfl rfl (by conv => { lhs; whnf; try dsimp only [List.take, List.drop, List.set, setCells, splice, List.append_eq, List.nil_append, List.cons_append, List.append_nil, List.length_cons, List.length_nil, Nat.zero_add, Nat.add_zero] }) (by conv => { lhs; dsimp only [keysP, List.map] }) (by first | exact True.intro | omega | (simp only [inR]; omega) | exact Nat.le_of_ble_eq_true rfl | (refine ⟨by omega, Nat.le_of_ble_eq_true rfl⟩) | (simp; done) | (simp; omega)) ?_
      | refine e_pick rfl (by first | exact True.intro | (intro h; first | (rw [h]; rfl) | simpa using h)) (by first | exact True.intro | (intro h; first | (rw [h]; rfl) | simpa using h)) (by first | exact pickV_or _ _ | exact pickV_and _ _ | rfl) ?_
      | refine e_grd hTT false [] 1 rfl rfl rfl rfl rfl (by conv => { lhs; whnf; try dsimp only [List.take, List.drop, List.set, setCells, splice, List.append_eq, List.nil_append, List.cons_append, List.append_nil, List.length_cons, List.length_nil, Nat.zero_add, Nat.add_zero] }) (by conv => { lhs; dsimp only [keysP, List.map] }) (by intro hg; first | exact True.intro | exact Nat.le_of_ble_eq_true rfl | (simp at hg; first | omega | (simp only [inR]; omega) | (simp; omega))) ?_
      | refine e_grd hTT false [] 0 rfl rfl rfl rfl rfl (by conv => { lhs; whnf; try dsimp only [List.take, List.drop, List.set, setCells, splice, List.append_eq, List.nil_append, List.cons_append, List.append_nil, List.length_cons, List.length_nil, Nat.zero_add, Nat.add_zero] }) (by conv => { lhs; dsimp only [keysP, List.map] }) (by intro hg; first | exact True.intro | exact Nat.le_of_ble_eq_true rfl | (simp at hg; first | omega | (simp only [inR]; omega) | (simp; omega))) ?_
      | refine e_grd hTT false [] 2 rfl rfl rfl rfl rfl (by conv => { lhs; whnf; try dsimp only [List.take, List.drop, List.set, setCells, splice, List.append_eq, List.nil_append, List.cons_append, List.append_nil, List.length_cons, List.length_nil, Nat.zero_add, Nat.add_zero] }) (by conv => { lhs; dsimp only [keysP, List.map] }) (by intro hg; first | exact True.intro | exact Nat.le_of_ble_eq_true rfl | (simp at hg; first | omega | (simp only [inR]; omega) | (simp; omega))) ?_
      | refine e_store hTT false [] rfl rfl rfl rfl rfl (by conv => { lhs; whnf }) (by conv => { lhs; try dsimp only [List.take, List.drop, List.set, setCells, splice, List.append_eq, List.nil_append, List.cons_append, List.append_nil, List.length_cons, List.length_nil, Nat.zero_add, Nat.add_zero] }) (by conv => { lhs; dsimp only [keysP, List.map] }) (by first | exact True.intro | omega | (simp only [inR]; omega) | exact Nat.le_of_ble_eq_true rfl | (refine ⟨by omega, Nat.le_of_ble_eq_true rfl⟩) | (simp; done) | (simp; omega)) ?_
      | refine e_new hTT false [] rfl rfl rfl rfl rfl (by conv => { lhs; whnf; try dsimp only [List.take, List.drop, List.set, setCells, splice, List.append_eq, List.nil_append, List.cons_append, List.append_nil, List.length_cons, List.length_nil, Nat.zero_add, Nat.add_zero] }) (by conv => { lhs; whnf }) (by conv => { lhs; try dsimp only [List.take, List.drop, List.set, setCells, splice, List.append_eq, List.nil_append, List.cons_append, List.append_nil, List.length_cons, List.length_nil, Nat.zero_add, Nat.add_zero] }) (by conv => { lhs; dsimp only [keysP, List.map] }) (by first | exact True.intro | omega | (simp only [inR]; omega) | exact Nat.le_of_ble_eq_true rfl | (refine ⟨by omega, Nat.le_of_ble_eq_true rfl⟩) | (simp; done) | (simp; omega)) ?_
      | refine e_two hTT false [] rfl rfl rfl rfl rfl (by conv => { lhs; whnf; try dsimp only [List.take, List.drop, List.set, setCells, splice, List.append_eq, List.nil_append, List.cons_append, List.append_nil, List.length_cons, List.length_nil, Nat.zero_add, Nat.add_zero] }) (by conv => { lhs; whnf }) (by conv => { lhs; try dsimp only [List.take, List.drop, List.set, setCells, splice, List.append_eq, List.nil_append, List.cons_append, List.append_nil, List.length_cons, List.length_nil, Nat.zero_add, Nat.add_zero] }) (by conv => { lhs; whnf }) (by conv => { lhs; try dsimp only [List.take, List.drop, List.set, setCells, splice, List.append_eq, List.nil_append, List.cons_append, List.append_nil, List.length_cons, List.length_nil, Nat.zero_add, Nat.add_zero] }) (by conv => { lhs; dsimp only [keysP, List.map] }) (by first | exact True.intro | omega | (simp only [inR]; omega) | exact Nat.le_of_ble_eq_true rfl | (refine ⟨by omega, Nat.le_of_ble_eq_true rfl⟩) | (simp; done) | (simp; omega)) ?_
      | refine e_pickG rfl rfl (by first | exact pickV_or _ _ | exact pickV_and _ _ | rfl) (by first | exact True.intro | exact fun h => h) (by intro h; first | exact True.intro | (intro h2; first | (rw [h2]; rfl) | simp_all)) (by intro h; first | exact True.intro | (intro h2; first | (rw [h2]; rfl) | simp_all)) ?_))
  refine w_loop (fun k : Nat => [(2, .ptr [V.ints t]), (3, .ptr [V.pts l]), (4, .ref 4 0), (5, .ref 5 0), (6, .ref 6 0), (11, V.pts l), (12, .i l.length), (13, .i k)]) (fun k => [(4, .box 3 [.i 0]), (5, .box 3 [.i 0]), (6, .box 30 [.i 0])]) (fun k => k ≤ l.length ∧ ∀ i, i < k → missRow t l i = none) (fun k => l.length - k) 0 ⟨Nat.zero_le _, fun i hi => by omega⟩ ?_ ?_
  · exact le_ren [(4, _), (5, _), (6, _)] (.cons rfl (.cons rfl (.cons rfl (.cons rfl (.cons rfl (.cons rfl (.cons rfl (.cons rfl .nil)))))))) (.cons ⟨_, rfl, .box rfl⟩ (.cons ⟨_, rfl, .box rfl⟩ (.cons ⟨_, rfl, .box rfl⟩ .nil))) rfl rfl
  rintro k ⟨hk, hrow⟩
  repeat (first
    | (refine aw_seq_k fun K hK => ?_)
    | (refine xt_n ?_)
    | (refine xt_r ?_)
    | (refine xt_x ?_)
    | (refine xb_n ?_)
    | (refine xb_r ?_)
    | (refine xb_same ?_)
    | (refine xb_ne rfl ?_)
    | (refine aw_block ?_)
    | (refine aw_ret ?_)
    | (refine aw_exit ?_)
    | (refine aw_skip ?_)
    | (refine aw_label ?_)
    | (refine hK _ ?_; clear hK; clear K)
    | (clear hK; clear K; refine hK _ ?_; clear hK; clear K)
    | (clear hK; clear K; clear hK; clear K; refine hK _ ?_; clear hK; clear K)
    | (clear hK; clear K; clear hK; clear K; clear hK; clear K; refine hK _ ?_; clear hK; clear K)
    | (clear hK; clear K; clear hK; clear K; clear hK; clear K; clear hK; clear K; refine hK _ ?_; clear hK; clear K)
    | (first | refine w_region (by kernel_rfl) (by conv => { lhs; whnf }) ?_ | refine w_regionD (by kernel_rfl) (by conv => { lhs; whnf }) ?_)
    | refine aops_nil ⟨by kernel_rfl, ?_⟩
    | refine aops_nil ?_
    | (first
      | refine e_val hTT false [] rfl rfl rfl rfl rfl (by conv => { lhs; whnf; try dsimp only [List.take, List.drop, List.set, setCells, splice, List.append_eq, List.nil_append, List.cons_append, List.append_nil, List.length_cons, List.length_nil, Nat.zero_add, Nat.add_zero] }) (by conv => { lhs; dsimp only [keysP, List.map] }) (by first | exact True.intro | omega | (simp only [inR]; omega) | exact Nat.le_of_ble_eq_true rfl | (refine ⟨by omega, Nat.le_of_ble_eq_true rfl⟩) | (simp; done) | (simp; omega)) ?_
      | refine e_pick rfl (by first | exact True.intro | (intro h; first | (rw [h]; rfl) | simpa using h)) (by first | exact True.intro | (intro h; first | (rw [h]; rfl) | simpa using h)) (by first | exact pickV_or _ _ | exact pickV_and _ _ | rfl) ?_
      | refine e_grd hTT false [] 1 rfl rfl rfl rfl rfl (by conv => { lhs; whnf; try dsimp only [List.take, List.drop, List.set, setCells, splice, List.append_eq, List.nil_append, List.cons_append, List.append_nil, List.length_cons, List.length_nil, Nat.zero_add, Nat.add_zero] }) (by conv => { lhs; dsimp only [keysP, List.map] }) (by intro hg; first | exact True.intro | exact Nat.le_of_ble_eq_true rfl | (simp at hg; first | omega | (simp only [inR]; omega) | (simp; omega))) ?_
      | refine e_grd hTT false [] 0 rfl rfl rfl rfl rfl (by conv => { lhs; whnf; try dsimp only [List.take, List.drop, List.set, setCells, splice, List.append_eq, List.nil_append, List.cons_append, List.append_nil, List.length_cons, List.length_nil, Nat.zero_add, Nat.add_zero] }) (by conv => { lhs; dsimp only [keysP, List.map] }) (by intro hg; first | exact True.intro | exact Nat.le_of_ble_eq_true rfl | (simp at hg; first | omega | (simp only [inR]; omega) | (simp; omega))) ?_
      | refine e_grd hTT false [] 2 rfl rfl rfl rfl rfl (by conv => { lhs; whnf; try dsimp only [List.take, List.drop, List.set, setCells, splice, List.append_eq, List.nil_append, List.cons_append, List.append_nil, List.length_cons, List.length_nil, Nat.zero_add, Nat.add_zero] }) (by conv => { lhs; dsimp only [keysP, List.map] }) (by intro hg; first | exact True.intro | exact Nat.le_of_ble_eq_true rfl | (simp at hg; first | omega | (simp only [inR]; omega) | (simp; omega))) ?_
      | refine e_store hTT false [] rfl rfl rfl rfl rfl (by conv => { lhs; whnf }) (by conv => { lhs; try dsimp only [List.take, List.drop, List.set, setCells, splice, List.append_eq, List.nil_append, List.cons_append, List.append_nil, List.length_cons, List.length_nil, Nat.zero_add, Nat.add_zero] }) (by conv => { lhs; dsimp only [keysP, List.map] }) (by first | exact True.intro | omega | (simp only [inR]; omega) | exact Nat.le_of_ble_eq_true rfl | (refine ⟨by omega, Nat.le_of_ble_eq_true rfl⟩) | (simp; done) | (simp; omega)) ?_
      | refine e_new hTT false [] rfl rfl rfl rfl rfl (by conv => { lhs; whnf; try dsimp only [List.take, List.drop, List.set, setCells, splice, List.append_eq, List.nil_append, List.cons_append, List.append_nil, List.length_cons, List.length_nil, Nat.zero_add, Nat.add_zero] }) (by conv => { lhs; whnf }) (by conv => { lhs; try dsimp only [List.take, List.drop, List.set, setCells, splice, List.append_eq, List.nil_append, List.cons_append, List.append_nil, List.length_cons, List.length_nil, Nat.zero_add, Nat.add_zero] }) (by conv => { lhs; dsimp only [keysP, List.map] }) (by first | exact True.intro | omega | (simp only [inR]; omega) | exact Nat.le_of_ble_eq_true rfl | (refine ⟨by omega, Nat.le_of_ble_eq_true rfl⟩) | (simp; done) | (simp; omega)) ?_
      | refine e_two hTT false [] rfl rfl rfl rfl rfl (by conv => { lhs; whnf; try dsimp only [List.take, List.drop, List.set, setCells, splice, List.append_eq, List.nil_append, List.cons_append, List.append_nil, List.length_cons, List.length_nil, Nat.zero_add, Nat.add_zero] }) (by conv => { lhs; whnf }) (by conv => { lhs; try dsimp only [List.take, List.drop, List.set, setCells, splice, List.append_eq, List.nil_append, List.cons_append, List.append_nil, List.length_cons, List.length_nil, Nat.zero_add, Nat.add_zero] }) (by conv => { lhs; whnf }) (by conv => { lhs; try dsimp only [List.take, List.drop, List.set, setCells, splice, List.append_eq, List.nil_append, List.cons_append, List.append_nil, List.length_cons, List.length_nil, Nat.zero_add, Nat.add_zero] }) (by conv => { lhs; dsimp only [keysP, List.map] }) (by first | exact True.intro | omega | (simp only [inR]; omega) | exact Nat.le_of_ble_eq_true rfl | (refine ⟨by omega, Nat.le_of_ble_eq_true rfl⟩) | (simp; done) | (simp; omega)) ?_
      | refine e_pickG rfl rfl (by first | exact pickV_or _ _ | exact pickV_and _ _ | rfl) (by first | exact True.intro | exact fun h => h) (by intro h; first | exact True.intro | (intro h2; first | (rw [h2]; rfl) | simp_all)) (by intro h; first | exact True.intro | (intro h2; first | (rw [h2]; rfl) | simp_all)) ?_))
  refine w_cond rfl (fun h => ?_) (fun h => ?_)
  · simp at h
    repeat (first
      | (refine aw_seq_k fun K hK => ?_)
      | (refine xt_n ?_)
      | (refine xt_r ?_)
      | (refine xt_x ?_)
      | (refine xb_n ?_)
      | (refine xb_r ?_)
      | (refine xb_same ?_)
      | (refine xb_ne rfl ?_)
      | (refine aw_block ?_)
      | (refine aw_ret ?_)
      | (refine aw_exit ?_)
      | (refine aw_skip ?_)
      | (refine aw_label ?_)
      | (refine hK _ ?_; clear hK; clear K)
      | (clear hK; clear K; refine hK _ ?_; clear hK; clear K)
      | (clear hK; clear K; clear hK; clear K; refine hK _ ?_; clear hK; clear K)
      | (clear hK; clear K; clear hK; clear K; clear hK; clear K; refine hK _ ?_; clear hK; clear K)
      | (clear hK; clear K; clear hK; clear K; clear hK; clear K; clear hK; clear K; refine hK _ ?_; clear hK; clear K)
      | (first | refine w_region (by kernel_rfl) (by conv => { lhs; whnf }) ?_ | refine w_regionD (by kernel_rfl) (by conv => { lhs; whnf }) ?_)
      | refine aops_nil ⟨by kernel_rfl, ?_⟩
      | refine aops_nil ?_
      | (first
        | refine e_val hTT false [] rfl rfl rfl rfl rfl (by conv => { lhs; whnf; try dsimp only [List.take, List.drop, List.set, setCells, splice, List.append_eq, List.nil_append, List.cons_append, List.append_nil, List.length_cons, List.length_nil, Nat.zero_add, Nat.add_zero] }) (by conv => { lhs; dsimp only [keysP, List.map] }) (by first | exact True.intro | omega | (simp only [inR]; omega) | exact Nat.le_of_ble_eq_true rfl | (refine ⟨by omega, Nat.le_of_ble_eq_true rfl⟩) | (simp; done) | (simp; omega)) ?_
        | refine e_pick rfl (by first | exact True.intro | (intro h; first | (rw [h]; rfl) | simpa using h)) (by first | exact True.intro | (intro h; first | (rw [h]; rfl) | simpa using h)) (by first | exact pickV_or _ _ | exact pickV_and _ _ | rfl) ?_
        | refine e_grd hTT false [] 1 rfl rfl rfl rfl rfl (by conv => { lhs; whnf; try dsimp only [List.take, List.drop, List.set, setCells, splice, List.append_eq, List.nil_append, List.cons_append, List.append_nil, List.length_cons, List.length_nil, Nat.zero_add, Nat.add_zero] }) (by conv => { lhs; dsimp only [keysP, List.map] }) (by intro hg; first | exact True.intro | exact Nat.le_of_ble_eq_true rfl | (simp at hg; first | omega | (simp only [inR]; omega) | (simp; omega))) ?_
        | refine e_grd hTT false [] 0 rfl rfl rfl rfl rfl (by conv => { lhs; whnf; try dsimp only [List.take, List.drop, List.set, setCells, splice, List.append_eq, List.nil_append, List.cons_append, List.append_nil, List.length_cons, List.length_nil, Nat.zero_add, Nat.add_zero] }) (by conv => { lhs; dsimp only [keysP, List.map] }) (by intro hg; first | exact True.intro | exact Nat.le_of_ble_eq_true rfl | (simp at hg; first | omega | (simp only [inR]; omega) | (simp; omega))) ?_
        | refine e_grd hTT false [] 2 rfl rfl rfl rfl rfl (by conv => { lhs; whnf; try dsimp only [List.take, List.drop, List.set, setCells, splice, List.append_eq, List.nil_append, List.cons_append, List.append_nil, List.length_cons, List.length_nil, Nat.zero_add, Nat.add_zero] }) (by conv => { lhs; dsimp only [keysP, List.map] }) (by intro hg; first | exact True.intro | exact Nat.le_of_ble_eq_true rfl | (simp at hg; first | omega | (simp only [inR]; omega) | (simp; omega))) ?_
        | refine e_store hTT false [] rfl rfl rfl rfl rfl (by conv => { lhs; whnf }) (by conv => { lhs; try dsimp only [List.take, List.drop, List.set, setCells, splice, List.append_eq, List.nil_append, List.cons_append, List.append_nil, List.length_cons, List.length_nil, Nat.zero_add, Nat.add_zero] }) (by conv => { lhs; dsimp only [keysP, List.map] }) (by first | exact True.intro | omega | (simp only [inR]; omega) | exact Nat.le_of_ble_eq_true rfl | (refine ⟨by omega, Nat.le_of_ble_eq_true rfl⟩) | (simp; done) | (simp; omega)) ?_
        | refine e_new hTT false [] rfl rfl rfl rfl rfl (by conv => { lhs; whnf; try dsimp only [List.take, List.drop, List.set, setCells, splice, List.append_eq, List.nil_append, List.cons_append, List.append_nil, List.length_cons, List.length_nil, Nat.zero_add, Nat.add_zero] }) (by conv => { lhs; whnf }) (by conv => { lhs; try dsimp only [List.take, List.drop, List.set, setCells, splice, List.append_eq, List.nil_append, List.cons_append, List.append_nil, List.length_cons, List.length_nil, Nat.zero_add, Nat.add_zero] }) (by conv => { lhs; dsimp only [keysP, List.map] }) (by first | exact True.intro | omega | (simp only [inR]; omega) | exact Nat.le_of_ble_eq_true rfl | (refine ⟨by omega, Nat.le_of_ble_eq_true rfl⟩) | (simp; done) | (simp; omega)) ?_
        | refine e_two hTT false [] rfl rfl rfl rfl rfl (by conv => { lhs; whnf; try dsimp only [List.take, List.drop, List.set, setCells, splice, List.append_eq, List.nil_append, List.cons_append, List.append_nil, List.length_cons, List.length_nil, Nat.zero_add, Nat.add_zero] }) (by conv => { lhs; whnf }) (by conv => { lhs; try dsimp only [List.take, List.drop, List.set, setCells, splice, List.append_eq, List.nil_append, List.cons_append, List.append_nil, List.length_cons, List.length_nil, Nat.zero_add, Nat.add_zero] }) (by conv => { lhs; whnf }) (by conv => { lhs; try dsimp only [List.take, List.drop, List.set, setCells, splice, List.append_eq, List.nil_append, List.cons_append, List.append_nil, List.length_cons, List.length_nil, Nat.zero_add, Nat.add_zero] }) (by conv => { lhs; dsimp only [keysP, List.map] }) (by first | exact True.intro | omega | (simp only [inR]; omega) | exact Nat.le_of_ble_eq_true rfl | (refine ⟨by omega, Nat.le_of_ble_eq_true rfl⟩) | (simp; done) | (simp; omega)) ?_
        | refine e_pickG rfl rfl (by first | exact pickV_or _ _ | exact pickV_and _ _ | rfl) (by first | exact True.intro | exact fun h => h) (by intro h; first | exact True.intro | (intro h2; first | (rw [h2]; rfl) | simp_all)) (by intro h; first | exact True.intro | (intro h2; first | (rw [h2]; rfl) | simp_all)) ?_))
    refine e_call (near_ac k l.length t.length) rfl rfl rfl rfl rfl ?_
    repeat (first
      | (refine aw_seq_k fun K hK => ?_)
      | (refine xt_n ?_)
      | (refine xt_r ?_)
      | (refine xt_x ?_)
      | (refine xb_n ?_)
      | (refine xb_r ?_)
      | (refine xb_same ?_)
      | (refine xb_ne rfl ?_)
      | (refine aw_block ?_)
      | (refine aw_ret ?_)
      | (refine aw_exit ?_)
      | (refine aw_skip ?_)
      | (refine aw_label ?_)
      | (refine hK _ ?_; clear hK; clear K)
      | (clear hK; clear K; refine hK _ ?_; clear hK; clear K)
      | (clear hK; clear K; clear hK; clear K; refine hK _ ?_; clear hK; clear K)
      | (clear hK; clear K; clear hK; clear K; clear hK; clear K; refine hK _ ?_; clear hK; clear K)
      | (clear hK; clear K; clear hK; clear K; clear hK; clear K; clear hK; clear K; refine hK _ ?_; clear hK; clear K)
      | (first | refine w_region (by kernel_rfl) (by conv => { lhs; whnf }) ?_ | refine w_regionD (by kernel_rfl) (by conv => { lhs; whnf }) ?_)
      | refine aops_nil ⟨by kernel_rfl, ?_⟩
      | refine aops_nil ?_
      | (first
        | refine e_val hTT false [] rfl rfl rfl rfl rfl (by conv => { lhs; whnf; try dsimp only [List.take, List.drop, List.set, setCells, splice, List.append_eq, List.nil_append, List.cons_append, List.append_nil, List.length_cons, List.length_nil, Nat.zero_add, Nat.add_zero] }) (by conv => { lhs; dsimp only [keysP, List.map] }) (by first | exact True.intro | omega | (simp only [inR]; omega) | exact Nat.le_of_ble_eq_true rfl | (refine ⟨by omega, Nat.le_of_ble_eq_true rfl⟩) | (simp; done) | (simp; omega)) ?_
        | refine e_pick rfl (by first | exact True.intro | (intro h; first | (rw [h]; rfl) | simpa using h)) (by first | exact True.intro | (intro h; first | (rw [h]; rfl) | simpa using h)) (by first | exact pickV_or _ _ | exact pickV_and _ _ | rfl) ?_
        | refine e_grd hTT false [] 1 rfl rfl rfl rfl rfl (by conv => { lhs; whnf; try dsimp only [List.take, List.drop, List.set, setCells, splice, List.append_eq, List.nil_append, List.cons_append, List.append_nil, List.length_cons, List.length_nil, Nat.zero_add, Nat.add_zero] }) (by conv => { lhs; dsimp only [keysP, List.map] }) (by intro hg; first | exact True.intro | exact Nat.le_of_ble_eq_true rfl | (simp at hg; first | omega | (simp only [inR]; omega) | (simp; omega))) ?_
        | refine e_grd hTT false [] 0 rfl rfl rfl rfl rfl (by conv => { lhs; whnf; try dsimp only [List.take, List.drop, List.set, setCells, splice, List.append_eq, List.nil_append, List.cons_append, List.append_nil, List.length_cons, List.length_nil, Nat.zero_add, Nat.add_zero] }) (by conv => { lhs; dsimp only [keysP, List.map] }) (by intro hg; first | exact True.intro | exact Nat.le_of_ble_eq_true rfl | (simp at hg; first | omega | (simp only [inR]; omega) | (simp; omega))) ?_
        | refine e_grd hTT false [] 2 rfl rfl rfl rfl rfl (by conv => { lhs; whnf; try dsimp only [List.take, List.drop, List.set, setCells, splice, List.append_eq, List.nil_append, List.cons_append, List.append_nil, List.length_cons, List.length_nil, Nat.zero_add, Nat.add_zero] }) (by conv => { lhs; dsimp only [keysP, List.map] }) (by intro hg; first | exact True.intro | exact Nat.le_of_ble_eq_true rfl | (simp at hg; first | omega | (simp only [inR]; omega) | (simp; omega))) ?_
        | refine e_store hTT false [] rfl rfl rfl rfl rfl (by conv => { lhs; whnf }) (by conv => { lhs; try dsimp only [List.take, List.drop, List.set, setCells, splice, List.append_eq, List.nil_append, List.cons_append, List.append_nil, List.length_cons, List.length_nil, Nat.zero_add, Nat.add_zero] }) (by conv => { lhs; dsimp only [keysP, List.map] }) (by first | exact True.intro | omega | (simp only [inR]; omega) | exact Nat.le_of_ble_eq_true rfl | (refine ⟨by omega, Nat.le_of_ble_eq_true rfl⟩) | (simp; done) | (simp; omega)) ?_
        | refine e_new hTT false [] rfl rfl rfl rfl rfl (by conv => { lhs; whnf; try dsimp only [List.take, List.drop, List.set, setCells, splice, List.append_eq, List.nil_append, List.cons_append, List.append_nil, List.length_cons, List.length_nil, Nat.zero_add, Nat.add_zero] }) (by conv => { lhs; whnf }) (by conv => { lhs; try dsimp only [List.take, List.drop, List.set, setCells, splice, List.append_eq, List.nil_append, List.cons_append, List.append_nil, List.length_cons, List.length_nil, Nat.zero_add, Nat.add_zero] }) (by conv => { lhs; dsimp only [keysP, List.map] }) (by first | exact True.intro | omega | (simp only [inR]; omega) | exact Nat.le_of_ble_eq_true rfl | (refine ⟨by omega, Nat.le_of_ble_eq_true rfl⟩) | (simp; done) | (simp; omega)) ?_
        | refine e_two hTT false [] rfl rfl rfl rfl rfl (by conv => { lhs; whnf; try dsimp only [List.take, List.drop, List.set, setCells, splice, List.append_eq, List.nil_append, List.cons_append, List.append_nil, List.length_cons, List.length_nil, Nat.zero_add, Nat.add_zero] }) (by conv => { lhs; whnf }) (by conv => { lhs; try dsimp only [List.take, List.drop, List.set, setCells, splice, List.append_eq, List.nil_append, List.cons_append, List.append_nil, List.length_cons, List.length_nil, Nat.zero_add, Nat.add_zero] }) (by conv => { lhs; whnf }) (by conv => { lhs; try dsimp only [List.take, List.drop, List.set, setCells, splice, List.append_eq, List.nil_append, List.cons_append, List.append_nil, List.length_cons, List.length_nil, Nat.zero_add, Nat.add_zero] }) (by conv => { lhs; dsimp only [keysP, List.map] }) (by first | exact True.intro | omega | (simp only [inR]; omega) | exact Nat.le_of_ble_eq_true rfl | (refine ⟨by omega, Nat.le_of_ble_eq_true rfl⟩) | (simp; done) | (simp; omega)) ?_
        | refine e_pickG rfl rfl (by first | exact pickV_or _ _ | exact pickV_and _ _ | rfl) (by first | exact True.intro | exact fun h => h) (by intro h; first | exact True.intro | (intro h2; first | (rw [h2]; rfl) | simp_all)) (by intro h; first | exact True.intro | (intro h2; first | (rw [h2]; rfl) | simp_all)) ?_))
    refine w_le (le_freezeBox (t := 3) (cs := [V.i k]) 200007 rfl rfl) ?_
    refine w_le (le_freezeBox (t := 29) (cs := [V.i (gp l k).1, V.i (gp l k).2]) 200008 rfl rfl) ?_
    refine w_range hF hC (near_aiter k l.length t.length (by omega) (by omega) (by omega)) rfl rfl ?_ rfl [504, 505, 506] [(504, 4), (505, 5), (506, 6)]
      [(2, .ptr [V.ints t]), (3, .ptr [V.pts l]), (4, .ref 504 0), (5, .ref 505 0), (6, .ref 506 0), (7, .ptr [.i k]), (8, .ptr [.i (gp l k).1, .i (gp l k).2]), (11, V.pts l), (12, .i l.length), (13, .i k)]
      (fun j => ∀ j', j' < j → missB t l k (nearLo k t.length + j') = false) (fun _ => [.box 3 [.i 0], .box 3 [.i 0], .box 30 [.i 0]])
      (fun j c sx => c = .ret ∧ ∃ u, u < l.length ∧ missB t l k u = true ∧ (∀ j', j' < u → missB t l k j' = false) ∧ sx = [.box 3 [.i k], .box 3 [.i u], .box 30 [.i 0]])
      (fun j' hj => by omega) rfl rfl rfl ?_ ?_ rfl ?_ ?_ ?_ ?_ ?_
    · intro x hx
      simp only [nearV, List.mem_map] at hx
      obtain ⟨j, _, rfl⟩ := hx
      rfl
    · exact .cons rfl (.cons rfl (.cons rfl (.cons rfl (.cons rfl (.cons rfl (.cons rfl (.cons rfl (.cons rfl (.cons rfl .nil)))))))))
    · exact .cons ⟨_, rfl, .box rfl⟩ (.cons ⟨_, rfl, .box rfl⟩ (.cons ⟨_, rfl, .box rfl⟩ .nil))
    · intro _ o ho
      simp at ho
      rcases ho with rfl | rfl | rfl <;> rfl
    · rintro j c sx ⟨_, u, _, _, _, rfl⟩ o ho
      simp at ho
      rcases ho with rfl | rfl | rfl <;> rfl
    · rintro C' ⟨lx, hF'⟩ j x hx hok
      obtain ⟨hj, rfl⟩ := nearV_get hx
      have hu : nearLo k t.length + j < l.length := by unfold nearN at hj; omega
      have hd : dist (nearLo k t.length + j) k < t.length := by unfold nearN nearLo dist at *; omega
      have b0 := gp_bd m5 k
      have b1 := gp_bd m5 ((nearLo k t.length : Int) + (j : Int)).toNat
      have b2 := gi_bd m3 ((dist (nearLo k t.length + j) k : Nat) : Int).toNat
      have e1 : ((nearLo k t.length : Int) + (j : Int)).toNat = nearLo k t.length + j := by omega
      have e2 : ((dist (nearLo k t.length + j) k : Nat) : Int).toNat = dist (nearLo k t.length + j) k := by omega
      repeat (first
        | (refine aw_seq_k fun K hK => ?_)
        | (refine xt_n ?_)
        | (refine xt_r ?_)
        | (refine xt_x ?_)
        | (refine xb_n ?_)
        | (refine xb_r ?_)
        | (refine xb_same ?_)
        | (refine xb_ne rfl ?_)
        | (refine aw_block ?_)
        | (refine aw_ret ?_)
        | (refine aw_exit ?_)
        | (refine aw_skip ?_)
        | (refine aw_label ?_)
        | (refine hK _ ?_; clear hK; clear K)
        | (clear hK; clear K; refine hK _ ?_; clear hK; clear K)
        | (clear hK; clear K; clear hK; clear K; refine hK _ ?_; clear hK; clear K)
        | (clear hK; clear K; clear hK; clear K; clear hK; clear K; refine hK _ ?_; clear hK; clear K)
        | (clear hK; clear K; clear hK; clear K; clear hK; clear K; clear hK; clear K; refine hK _ ?_; clear hK; clear K)
        | (first | refine w_region (by kernel_rfl) (by conv => { lhs; whnf }) ?_ | refine w_regionD (by kernel_rfl) (by conv => { lhs; whnf }) ?_)
        | refine aops_nil ⟨by kernel_rfl, ?_⟩
        | refine aops_nil ?_
        | (first
          | refine e_val hTT false [] rfl rfl rfl rfl rfl (by conv => { lhs; whnf; try dsimp only [List.take, List.drop, List.set, setCells, splice, List.append_eq, List.nil_append, List.cons_append, List.append_nil, List.length_cons, List.length_nil, Nat.zero_add, Nat.add_zero] }) (by conv => { lhs; dsimp only [keysP, List.map] }) (by first | exact True.intro | omega | (simp only [inR]; omega) | exact Nat.le_of_ble_eq_true rfl | (refine ⟨by omega, Nat.le_of_ble_eq_true rfl⟩) | (simp; done) | (simp; omega)) ?_
          | refine e_pick rfl (by first | exact True.intro | (intro h; first | (rw [h]; rfl) | simpa using h)) (by first | exact True.intro | (intro h; first | (rw [h]; rfl) | simpa using h)) (by first | exact pickV_or _ _ | exact pickV_and _ _ | rfl) ?_
          | refine e_grd hTT false [] 1 rfl rfl rfl rfl rfl (by conv => { lhs; whnf; try dsimp only [List.take, List.drop, List.set, setCells, splice, List.append_eq, List.nil_append, List.cons_append, List.append_nil, List.length_cons, List.length_nil, Nat.zero_add, Nat.add_zero] }) (by conv => { lhs; dsimp only [keysP, List.map] }) (by intro hg; first | exact True.intro | exact Nat.le_of_ble_eq_true rfl | (simp at hg; first | omega | (simp only [inR]; omega) | (simp; omega))) ?_
          | refine e_grd hTT false [] 0 rfl rfl rfl rfl rfl (by conv => { lhs; whnf; try dsimp only [List.take, List.drop, List.set, setCells, splice, List.append_eq, List.nil_append, List.cons_append, List.append_nil, List.length_cons, List.length_nil, Nat.zero_add, Nat.add_zero] }) (by conv => { lhs; dsimp only [keysP, List.map] }) (by intro hg; first | exact True.intro | exact Nat.le_of_ble_eq_true rfl | (simp at hg; first | omega | (simp only [inR]; omega) | (simp; omega))) ?_
          | refine e_grd hTT false [] 2 rfl rfl rfl rfl rfl (by conv => { lhs; whnf; try dsimp only [List.take, List.drop, List.set, setCells, splice, List.append_eq, List.nil_append, List.cons_append, List.append_nil, List.length_cons, List.length_nil, Nat.zero_add, Nat.add_zero] }) (by conv => { lhs; dsimp only [keysP, List.map] }) (by intro hg; first | exact True.intro | exact Nat.le_of_ble_eq_true rfl | (simp at hg; first | omega | (simp only [inR]; omega) | (simp; omega))) ?_
          | refine e_store hTT false [] rfl rfl rfl rfl rfl (by conv => { lhs; whnf }) (by conv => { lhs; try dsimp only [List.take, List.drop, List.set, setCells, splice, List.append_eq, List.nil_append, List.cons_append, List.append_nil, List.length_cons, List.length_nil, Nat.zero_add, Nat.add_zero] }) (by conv => { lhs; dsimp only [keysP, List.map] }) (by first | exact True.intro | omega | (simp only [inR]; omega) | exact Nat.le_of_ble_eq_true rfl | (refine ⟨by omega, Nat.le_of_ble_eq_true rfl⟩) | (simp; done) | (simp; omega)) ?_
          | refine e_new hTT false [] rfl rfl rfl rfl rfl (by conv => { lhs; whnf; try dsimp only [List.take, List.drop, List.set, setCells, splice, List.append_eq, List.nil_append, List.cons_append, List.append_nil, List.length_cons, List.length_nil, Nat.zero_add, Nat.add_zero] }) (by conv => { lhs; whnf }) (by conv => { lhs; try dsimp only [List.take, List.drop, List.set, setCells, splice, List.append_eq, List.nil_append, List.cons_append, List.append_nil, List.length_cons, List.length_nil, Nat.zero_add, Nat.add_zero] }) (by conv => { lhs; dsimp only [keysP, List.map] }) (by first | exact True.intro | omega | (simp only [inR]; omega) | exact Nat.le_of_ble_eq_true rfl | (refine ⟨by omega, Nat.le_of_ble_eq_true rfl⟩) | (simp; done) | (simp; omega)) ?_
          | refine e_two hTT false [] rfl rfl rfl rfl rfl (by conv => { lhs; whnf; try dsimp only [List.take, List.drop, List.set, setCells, splice, List.append_eq, List.nil_append, List.cons_append, List.append_nil, List.length_cons, List.length_nil, Nat.zero_add, Nat.add_zero] }) (by conv => { lhs; whnf }) (by conv => { lhs; try dsimp only [List.take, List.drop, List.set, setCells, splice, List.append_eq, List.nil_append, List.cons_append, List.append_nil, List.length_cons, List.length_nil, Nat.zero_add, Nat.add_zero] }) (by conv => { lhs; whnf }) (by conv => { lhs; try dsimp only [List.take, List.drop, List.set, setCells, splice, List.append_eq, List.nil_append, List.cons_append, List.append_nil, List.length_cons, List.length_nil, Nat.zero_add, Nat.add_zero] }) (by conv => { lhs; dsimp only [keysP, List.map] }) (by first | exact True.intro | omega | (simp only [inR]; omega) | exact Nat.le_of_ble_eq_true rfl | (refine ⟨by omega, Nat.le_of_ble_eq_true rfl⟩) | (simp; done) | (simp; omega)) ?_
          | refine e_pickG rfl rfl (by first | exact pickV_or _ _ | exact pickV_and _ _ | rfl) (by first | exact True.intro | exact fun h => h) (by intro h; first | exact True.intro | (intro h2; first | (rw [h2]; rfl) | simp_all)) (by intro h; first | exact True.intro | (intro h2; first | (rw [h2]; rfl) | simp_all)) ?_))
      rw [e1, e2]
      refine w_cond rfl (fun hc => ?_) (fun hc => ?_)
      ·
        repeat (first
          | (refine aw_seq_k fun K hK => ?_)
          | (refine xt_n ?_)
          | (refine xt_r ?_)
          | (refine xt_x ?_)
          | (refine xb_n ?_)
          | (refine xb_r ?_)
          | (refine xb_same ?_)
          | (refine xb_ne rfl ?_)
          | (refine aw_block ?_)
          | (refine aw_ret ?_)
          | (refine aw_exit ?_)
          | (refine aw_skip ?_)
          | (refine aw_label ?_)
          | (refine hK _ ?_; clear hK; clear K)
          | (clear hK; clear K; refine hK _ ?_; clear hK; clear K)
          | (clear hK; clear K; clear hK; clear K; refine hK _ ?_; clear hK; clear K)
          | (clear hK; clear K; clear hK; clear K; clear hK; clear K; refine hK _ ?_; clear hK; clear K)
          | (clear hK; clear K; clear hK; clear K; clear hK; clear K; clear hK; clear K; refine hK _ ?_; clear hK; clear K)
          | (first | refine w_region (by kernel_rfl) (by conv => { lhs; whnf }) ?_ | refine w_regionD (by kernel_rfl) (by conv => { lhs; whnf }) ?_)
          | refine aops_nil ⟨by kernel_rfl, ?_⟩
          | refine aops_nil ?_
          | (first
            | refine e_val hTT false [] rfl rfl rfl rfl rfl (by conv => { lhs; whnf; try dsimp only [List.take, List.drop, List.set, setCells, splice, List.append_eq, List.nil_append, List.cons_append, List.append_nil, List.length_cons, List.length_nil, Nat.zero_add, Nat.add_zero] }) (by conv => { lhs; dsimp only [keysP, List.map] }) (by first | exact True.intro | omega | (simp only [inR]; omega) | exact Nat.le_of_ble_eq_true rfl | (refine ⟨by omega, Nat.le_of_ble_eq_true rfl⟩) | (simp; done) | (simp; omega)) ?_
            | refine e_pick rfl (by first | exact True.intro | (intro h; first | (rw [h]; rfl) | simpa using h)) (by first | exact True.intro | (intro h; first | (rw [h]; rfl) | simpa using h)) (by first | exact pickV_or _ _ | exact pickV_and _ _ | rfl) ?_
            | refine e_grd hTT false [] 1 rfl rfl rfl rfl rfl (by conv => { lhs; whnf; try dsimp only [List.take, List.drop, List.set, setCells, splice, List.append_eq, List.nil_append, List.cons_append, List.append_nil, List.length_cons, List.length_nil, Nat.zero_add, Nat.add_zero] }) (by conv => { lhs; dsimp only [keysP, List.map] }) (by intro hg; first | exact True.intro | exact Nat.le_of_ble_eq_true rfl | (simp at hg; first | omega | (simp only [inR]; omega) | (simp; omega))) ?_
            | refine e_grd hTT false [] 0 rfl rfl rfl rfl rfl (by conv => { lhs; whnf; try dsimp only [List.take, List.drop, List.set, setCells, splice, List.append_eq, List.nil_append, List.cons_append, List.append_nil, List.length_cons, List.length_nil, Nat.zero_add, Nat.add_zero] }) (by conv => { lhs; dsimp only [keysP, List.map] }) (by intro hg; first | exact True.intro | exact Nat.le_of_ble_eq_true rfl | (simp at hg; first | omega | (simp only [inR]; omega) | (simp; omega))) ?_
            | refine e_grd hTT false [] 2 rfl rfl rfl rfl rfl (by conv => { lhs; whnf; try dsimp only [List.take, List.drop, List.set, setCells, splice, List.append_eq, List.nil_append, List.cons_append, List.append_nil, List.length_cons, List.length_nil, Nat.zero_add, Nat.add_zero] }) (by conv => { lhs; dsimp only [keysP, List.map] }) (by intro hg; first | exact True.intro | exact Nat.le_of_ble_eq_true rfl | (simp at hg; first | omega | (simp only [inR]; omega) | (simp; omega))) ?_
            | refine e_store hTT false [] rfl rfl rfl rfl rfl (by conv => { lhs; whnf }) (by conv => { lhs; try dsimp only [List.take, List.drop, List.set, setCells, splice, List.append_eq, List.nil_append, List.cons_append, List.append_nil, List.length_cons, List.length_nil, Nat.zero_add, Nat.add_zero] }) (by conv => { lhs; dsimp only [keysP, List.map] }) (by first | exact True.intro | omega | (simp only [inR]; omega) | exact Nat.le_of_ble_eq_true rfl | (refine ⟨by omega, Nat.le_of_ble_eq_true rfl⟩) | (simp; done) | (simp; omega)) ?_
            | refine e_new hTT false [] rfl rfl rfl rfl rfl (by conv => { lhs; whnf; try dsimp only [List.take, List.drop, List.set, setCells, splice, List.append_eq, List.nil_append, List.cons_append, List.append_nil, List.length_cons, List.length_nil, Nat.zero_add, Nat.add_zero] }) (by conv => { lhs; whnf }) (by conv => { lhs; try dsimp only [List.take, List.drop, List.set, setCells, splice, List.append_eq, List.nil_append, List.cons_append, List.append_nil, List.length_cons, List.length_nil, Nat.zero_add, Nat.add_zero] }) (by conv => { lhs; dsimp only [keysP, List.map] }) (by first | exact True.intro | omega | (simp only [inR]; omega) | exact Nat.le_of_ble_eq_true rfl | (refine ⟨by omega, Nat.le_of_ble_eq_true rfl⟩) | (simp; done) | (simp; omega)) ?_
            | refine e_two hTT false [] rfl rfl rfl rfl rfl (by conv => { lhs; whnf; try dsimp only [List.take, List.drop, List.set, setCells, splice, List.append_eq, List.nil_append, List.cons_append, List.append_nil, List.length_cons, List.length_nil, Nat.zero_add, Nat.add_zero] }) (by conv => { lhs; whnf }) (by conv => { lhs; try dsimp only [List.take, List.drop, List.set, setCells, splice, List.append_eq, List.nil_append, List.cons_append, List.append_nil, List.length_cons, List.length_nil, Nat.zero_add, Nat.add_zero] }) (by conv => { lhs; whnf }) (by conv => { lhs; try dsimp only [List.take, List.drop, List.set, setCells, splice, List.append_eq, List.nil_append, List.cons_append, List.append_nil, List.length_cons, List.length_nil, Nat.zero_add, Nat.add_zero] }) (by conv => { lhs; dsimp only [keysP, List.map] }) (by first | exact True.intro | omega | (simp only [inR]; omega) | exact Nat.le_of_ble_eq_true rfl | (refine ⟨by omega, Nat.le_of_ble_eq_true rfl⟩) | (simp; done) | (simp; omega)) ?_
            | refine e_pickG rfl rfl (by first | exact pickV_or _ _ | exact pickV_and _ _ | rfl) (by first | exact True.intro | exact fun h => h) (by intro h; first | exact True.intro | (intro h2; first | (rw [h2]; rfl) | simp_all)) (by intro h; first | exact True.intro | (intro h2; first | (rw [h2]; rfl) | simp_all)) ?_))
        refine ⟨_, ⟨rfl, nearLo k t.length + j, hu, ?_, fun j' hj' => ?_, rfl⟩, le_ren [] .nil (.cons ⟨_, rfl, .box rfl⟩ (.cons ⟨_, rfl, .box rfl⟩ (.cons ⟨_, rfl, .box rfl⟩ .nil))) rfl rfl⟩
        · simp only [missB, hd, decide_true, Bool.true_and]
          exact hc
        · by_cases hlo : j' < nearLo k t.length
          · have : ¬ dist j' k < t.length := by unfold nearLo dist at *; omega
            simp [missB, this]
          · have := hok (j' - nearLo k t.length) (by omega)
            rwa [show nearLo k t.length + (j' - nearLo k t.length) = j' by omega] at this
      ·
        repeat (first
          | (refine aw_seq_k fun K hK => ?_)
          | (refine xt_n ?_)
          | (refine xt_r ?_)
          | (refine xt_x ?_)
          | (refine xb_n ?_)
          | (refine xb_r ?_)
          | (refine xb_same ?_)
          | (refine xb_ne rfl ?_)
          | (refine aw_block ?_)
          | (refine aw_ret ?_)
          | (refine aw_exit ?_)
          | (refine aw_skip ?_)
          | (refine aw_label ?_)
          | (refine hK _ ?_; clear hK; clear K)
          | (clear hK; clear K; refine hK _ ?_; clear hK; clear K)
          | (clear hK; clear K; clear hK; clear K; refine hK _ ?_; clear hK; clear K)
          | (clear hK; clear K; clear hK; clear K; clear hK; clear K; refine hK _ ?_; clear hK; clear K)
          | (clear hK; clear K; clear hK; clear K; clear hK; clear K; clear hK; clear K; refine hK _ ?_; clear hK; clear K)
          | (first | refine w_region (by kernel_rfl) (by conv => { lhs; whnf }) ?_ | refine w_regionD (by kernel_rfl) (by conv => { lhs; whnf }) ?_)
          | refine aops_nil ⟨by kernel_rfl, ?_⟩
          | refine aops_nil ?_
          | (first
            | refine e_val hTT false [] rfl rfl rfl rfl rfl (by conv => { lhs; whnf; try dsimp only [List.take, List.drop, List.set, setCells, splice, List.append_eq, List.nil_append, List.cons_append, List.append_nil, List.length_cons, List.length_nil, Nat.zero_add, Nat.add_zero] }) (by conv => { lhs; dsimp only [keysP, List.map] }) (by first | exact True.intro | omega | (simp only [inR]; omega) | exact Nat.le_of_ble_eq_true rfl | (refine ⟨by omega, Nat.le_of_ble_eq_true rfl⟩) | (simp; done) | (simp; omega)) ?_
            | refine e_pick rfl (by first | exact True.intro | (intro h; first | (rw [h]; rfl) | simpa using h)) (by first | exact True.intro | (intro h; first | (rw [h]; rfl) | simpa using h)) (by first | exact pickV_or _ _ | exact pickV_and _ _ | rfl) ?_
            | refine e_grd hTT false [] 1 rfl rfl rfl rfl rfl (by conv => { lhs; whnf; try dsimp only [List.take, List.drop, List.set, setCells, splice, List.append_eq, List.nil_append, List.cons_append, List.append_nil, List.length_cons, List.length_nil, Nat.zero_add, Nat.add_zero] }) (by conv => { lhs; dsimp only [keysP, List.map] }) (by intro hg; first | exact True.intro | exact Nat.le_of_ble_eq_true rfl | (simp at hg; first | omega | (simp only [inR]; omega) | (simp; omega))) ?_
            | refine e_grd hTT false [] 0 rfl rfl rfl rfl rfl (by conv => { lhs; whnf; try dsimp only [List.take, List.drop, List.set, setCells, splice, List.append_eq, List.nil_append, List.cons_append, List.append_nil, List.length_cons, List.length_nil, Nat.zero_add, Nat.add_zero] }) (by conv => { lhs; dsimp only [keysP, List.map] }) (by intro hg; first | exact True.intro | exact Nat.le_of_ble_eq_true rfl | (simp at hg; first | omega | (simp only [inR]; omega) | (simp; omega))) ?_
            | refine e_grd hTT false [] 2 rfl rfl rfl rfl rfl (by conv => { lhs; whnf; try dsimp only [List.take, List.drop, List.set, setCells, splice, List.append_eq, List.nil_append, List.cons_append, List.append_nil, List.length_cons, List.length_nil, Nat.zero_add, Nat.add_zero] }) (by conv => { lhs; dsimp only [keysP, List.map] }) (by intro hg; first | exact True.intro | exact Nat.le_of_ble_eq_true rfl | (simp at hg; first | omega | (simp only [inR]; omega) | (simp; omega))) ?_
            | refine e_store hTT false [] rfl rfl rfl rfl rfl (by conv => { lhs; whnf }) (by conv => { lhs; try dsimp only [List.take, List.drop, List.set, setCells, splice, List.append_eq, List.nil_append, List.cons_append, List.append_nil, List.length_cons, List.length_nil, Nat.zero_add, Nat.add_zero] }) (by conv => { lhs; dsimp only [keysP, List.map] }) (by first | exact True.intro | omega | (simp only [inR]; omega) | exact Nat.le_of_ble_eq_true rfl | (refine ⟨by omega, Nat.le_of_ble_eq_true rfl⟩) | (simp; done) | (simp; omega)) ?_
            | refine e_new hTT false [] rfl rfl rfl rfl rfl (by conv => { lhs; whnf; try dsimp only [List.take, List.drop, List.set, setCells, splice, List.append_eq, List.nil_append, List.cons_append, List.append_nil, List.length_cons, List.length_nil, Nat.zero_add, Nat.add_zero] }) (by conv => { lhs; whnf }) (by conv => { lhs; try dsimp only [List.take, List.drop, List.set, setCells, splice, List.append_eq, List.nil_append, List.cons_append, List.append_nil, List.length_cons, List.length_nil, Nat.zero_add, Nat.add_zero] }) (by conv => { lhs; dsimp only [keysP, List.map] }) (by first | exact True.intro | omega | (simp only [inR]; omega) | exact Nat.le_of_ble_eq_true rfl | (refine ⟨by omega, Nat.le_of_ble_eq_true rfl⟩) | (simp; done) | (simp; omega)) ?_
            | refine e_two hTT false [] rfl rfl rfl rfl rfl (by conv => { lhs; whnf; try dsimp only [List.take, List.drop, List.set, setCells, splice, List.append_eq, List.nil_append, List.cons_append, List.append_nil, List.length_cons, List.length_nil, Nat.zero_add, Nat.add_zero] }) (by conv => { lhs; whnf }) (by conv => { lhs; try dsimp only [List.take, List.drop, List.set, setCells, splice, List.append_eq, List.nil_append, List.cons_append, List.append_nil, List.length_cons, List.length_nil, Nat.zero_add, Nat.add_zero] }) (by conv => { lhs; whnf }) (by conv => { lhs; try dsimp only [List.take, List.drop, List.set, setCells, splice, List.append_eq, List.nil_append, List.cons_append, List.append_nil, List.length_cons, List.length_nil, Nat.zero_add, Nat.add_zero] }) (by conv => { lhs; dsimp only [keysP, List.map] }) (by first | exact True.intro | omega | (simp only [inR]; omega) | exact Nat.le_of_ble_eq_true rfl | (refine ⟨by omega, Nat.le_of_ble_eq_true rfl⟩) | (simp; done) | (simp; omega)) ?_
            | refine e_pickG rfl rfl (by first | exact pickV_or _ _ | exact pickV_and _ _ | rfl) (by first | exact True.intro | exact fun h => h) (by intro h; first | exact True.intro | (intro h2; first | (rw [h2]; rfl) | simp_all)) (by intro h; first | exact True.intro | (intro h2; first | (rw [h2]; rfl) | simp_all)) ?_))
        refine ⟨fun j' hj' => ?_, le_ren [] .nil (.cons ⟨_, rfl, .box rfl⟩ (.cons ⟨_, rfl, .box rfl⟩ (.cons ⟨_, rfl, .box rfl⟩ .nil))) rfl rfl⟩
        by_cases he : j' = j
        · subst he
          simp only [missB, hd, decide_true, Bool.true_and]
          exact hc
        · exact hok j' (by omega)
    · intro hok
      have hlen : (nearV k l.length t.length).length = nearN k l.length t.length := by simp [nearV]
      rw [hlen] at hok
      have hr : missRow t l k = none := find_none fun u hu => by
        by_cases hlo : u < nearLo k t.length
        · have : ¬ dist u k < t.length := by unfold nearLo dist at *; omega
          simp [missB, this]
        · by_cases hhi : u < nearLo k t.length + nearN k l.length t.length
          · have := hok (u - nearLo k t.length) (by omega)
            rwa [show nearLo k t.length + (u - nearLo k t.length) = u by omega] at this
          · have : ¬ dist u k < t.length := by unfold nearN nearLo dist at *; omega
            simp [missB, this]
      repeat (first
        | (refine aw_seq_k fun K hK => ?_)
        | (refine xt_n ?_)
        | (refine xt_r ?_)
        | (refine xt_x ?_)
        | (refine xb_n ?_)
        | (refine xb_r ?_)
        | (refine xb_same ?_)
        | (refine xb_ne rfl ?_)
        | (refine aw_block ?_)
        | (refine aw_ret ?_)
        | (refine aw_exit ?_)
        | (refine aw_skip ?_)
        | (refine aw_label ?_)
        | (refine hK _ ?_; clear hK; clear K)
        | (clear hK; clear K; refine hK _ ?_; clear hK; clear K)
        | (clear hK; clear K; clear hK; clear K; refine hK _ ?_; clear hK; clear K)
        | (clear hK; clear K; clear hK; clear K; clear hK; clear K; refine hK _ ?_; clear hK; clear K)
        | (clear hK; clear K; clear hK; clear K; clear hK; clear K; clear hK; clear K; refine hK _ ?_; clear hK; clear K)
        | (first | refine w_region (by kernel_rfl) (by conv => { lhs; whnf }) ?_ | refine w_regionD (by kernel_rfl) (by conv => { lhs; whnf }) ?_)
        | refine aops_nil ⟨by kernel_rfl, ?_⟩
        | refine aops_nil ?_
        | (first
          | refine e_val hTT false [] rfl rfl rfl rfl rfl (by conv => { lhs; whnf; try dsimp only [List.take, List.drop, List.set, setCells, splice, List.append_eq, List.nil_append, List.cons_append, List.append_nil, List.length_cons, List.length_nil, Nat.zero_add, Nat.add_zero] }) (by conv => { lhs; dsimp only [keysP, List.map] }) (by first | exact True.intro | omega | (simp only [inR]; omega) | exact Nat.le_of_ble_eq_true rfl | (refine ⟨by omega, Nat.le_of_ble_eq_true rfl⟩) | (simp; done) | (simp; omega)) ?_
          | refine e_pick rfl (by first | exact True.intro | (intro h; first | (rw [h]; rfl) | simpa using h)) (by first | exact True.intro | (intro h; first | (rw [h]; rfl) | simpa using h)) (by first | exact pickV_or _ _ | exact pickV_and _ _ | rfl) ?_
          | refine e_grd hTT false [] 1 rfl rfl rfl rfl rfl (by conv => { lhs; whnf; try dsimp only [List.take, List.drop, List.set, setCells, splice, List.append_eq, List.nil_append, List.cons_append, List.append_nil, List.length_cons, List.length_nil, Nat.zero_add, Nat.add_zero] }) (by conv => { lhs; dsimp only [keysP, List.map] }) (by intro hg; first | exact True.intro | exact Nat.le_of_ble_eq_true rfl | (simp at hg; first | omega | (simp only [inR]; omega) | (simp; omega))) ?_
          | refine e_grd hTT false [] 0 rfl rfl rfl rfl rfl (by conv => { lhs; whnf; try dsimp only [List.take, List.drop, List.set, setCells, splice, List.append_eq, List.nil_append, List.cons_append, List.append_nil, List.length_cons, List.length_nil, Nat.zero_add, Nat.add_zero] }) (by conv => { lhs; dsimp only [keysP, List.map] }) (by intro hg; first | exact True.intro | exact Nat.le_of_ble_eq_true rfl | (simp at hg; first | omega | (simp only [inR]; omega) | (simp; omega))) ?_
          | refine e_grd hTT false [] 2 rfl rfl rfl rfl rfl (by conv => { lhs; whnf; try dsimp only [List.take, List.drop, List.set, setCells, splice, List.append_eq, List.nil_append, List.cons_append, List.append_nil, List.length_cons, List.length_nil, Nat.zero_add, Nat.add_zero] }) (by conv => { lhs; dsimp only [keysP, List.map] }) (by intro hg; first | exact True.intro | exact Nat.le_of_ble_eq_true rfl | (simp at hg; first | omega | (simp only [inR]; omega) | (simp; omega))) ?_
          | refine e_store hTT false [] rfl rfl rfl rfl rfl (by conv => { lhs; whnf }) (by conv => { lhs; try dsimp only [List.take, List.drop, List.set, setCells, splice, List.append_eq, List.nil_append, List.cons_append, List.append_nil, List.length_cons, List.length_nil, Nat.zero_add, Nat.add_zero] }) (by conv => { lhs; dsimp only [keysP, List.map] }) (by first | exact True.intro | omega | (simp only [inR]; omega) | exact Nat.le_of_ble_eq_true rfl | (refine ⟨by omega, Nat.le_of_ble_eq_true rfl⟩) | (simp; done) | (simp; omega)) ?_
          | refine e_new hTT false [] rfl rfl rfl rfl rfl (by conv => { lhs; whnf; try dsimp only [List.take, List.drop, List.set, setCells, splice, List.append_eq, List.nil_append, List.cons_append, List.append_nil, List.length_cons, List.length_nil, Nat.zero_add, Nat.add_zero] }) (by conv => { lhs; whnf }) (by conv => { lhs; try dsimp only [List.take, List.drop, List.set, setCells, splice, List.append_eq, List.nil_append, List.cons_append, List.append_nil, List.length_cons, List.length_nil, Nat.zero_add, Nat.add_zero] }) (by conv => { lhs; dsimp only [keysP, List.map] }) (by first | exact True.intro | omega | (simp only [inR]; omega) | exact Nat.le_of_ble_eq_true rfl | (refine ⟨by omega, Nat.le_of_ble_eq_true rfl⟩) | (simp; done) | (simp; omega)) ?_
          | refine e_two hTT false [] rfl rfl rfl rfl rfl (by conv => { lhs; whnf; try dsimp only [List.take, List.drop, List.set, setCells, splice, List.append_eq, List.nil_append, List.cons_append, List.append_nil, List.length_cons, List.length_nil, Nat.zero_add, Nat.add_zero] }) (by conv => { lhs; whnf }) (by conv => { lhs; try dsimp only [List.take, List.drop, List.set, setCells, splice, List.append_eq, List.nil_append, List.cons_append, List.append_nil, List.length_cons, List.length_nil, Nat.zero_add, Nat.add_zero] }) (by conv => { lhs; whnf }) (by conv => { lhs; try dsimp only [List.take, List.drop, List.set, setCells, splice, List.append_eq, List.nil_append, List.cons_append, List.append_nil, List.length_cons, List.length_nil, Nat.zero_add, Nat.add_zero] }) (by conv => { lhs; dsimp only [keysP, List.map] }) (by first | exact True.intro | omega | (simp only [inR]; omega) | exact Nat.le_of_ble_eq_true rfl | (refine ⟨by omega, Nat.le_of_ble_eq_true rfl⟩) | (simp; done) | (simp; omega)) ?_
          | refine e_pickG rfl rfl (by first | exact pickV_or _ _ | exact pickV_and _ _ | rfl) (by first | exact True.intro | exact fun h => h) (by intro h; first | exact True.intro | (intro h2; first | (rw [h2]; rfl) | simp_all)) (by intro h; first | exact True.intro | (intro h2; first | (rw [h2]; rfl) | simp_all)) ?_))
      refine ⟨k + 1, ⟨by omega, fun i hi => ?_⟩, le_ren [(4, 504), (5, 505), (6, 506)] (.cons rfl (.cons rfl (.cons rfl (.cons rfl (.cons rfl (.cons rfl (.cons rfl (.cons rfl .nil)))))))) (.cons ⟨_, rfl, .box rfl⟩ (.cons ⟨_, rfl, .box rfl⟩ (.cons ⟨_, rfl, .box rfl⟩ .nil))) rfl rfl, by omega⟩
      by_cases he : i = k
      · subst he; exact hr
      · exact hrow i (by omega)
    · rintro j c sx hj ⟨rfl, u, hu, hm, hu2, rfl⟩
      repeat (first
        | (refine aw_seq_k fun K hK => ?_)
        | (refine xt_n ?_)
        | (refine xt_r ?_)
        | (refine xt_x ?_)
        | (refine xb_n ?_)
        | (refine xb_r ?_)
        | (refine xb_same ?_)
        | (refine xb_ne rfl ?_)
        | (refine aw_block ?_)
        | (refine aw_ret ?_)
        | (refine aw_exit ?_)
        | (refine aw_skip ?_)
        | (refine aw_label ?_)
        | (refine hK _ ?_; clear hK; clear K)
        | (clear hK; clear K; refine hK _ ?_; clear hK; clear K)
        | (clear hK; clear K; clear hK; clear K; refine hK _ ?_; clear hK; clear K)
        | (clear hK; clear K; clear hK; clear K; clear hK; clear K; refine hK _ ?_; clear hK; clear K)
        | (clear hK; clear K; clear hK; clear K; clear hK; clear K; clear hK; clear K; refine hK _ ?_; clear hK; clear K)
        | (first | refine w_region (by kernel_rfl) (by conv => { lhs; whnf }) ?_ | refine w_regionD (by kernel_rfl) (by conv => { lhs; whnf }) ?_)
        | refine aops_nil ⟨by kernel_rfl, ?_⟩
        | refine aops_nil ?_
        | (first
          | refine e_val hTT false [] rfl rfl rfl rfl rfl (by conv => { lhs; whnf; try dsimp only [List.take, List.drop, List.set, setCells, splice, List.append_eq, List.nil_append, List.cons_append, List.append_nil, List.length_cons, List.length_nil, Nat.zero_add, Nat.add_zero] }) (by conv => { lhs; dsimp only [keysP, List.map] }) (by first | exact True.intro | omega | (simp only [inR]; omega) | exact Nat.le_of_ble_eq_true rfl | (refine ⟨by omega, Nat.le_of_ble_eq_true rfl⟩) | (simp; done) | (simp; omega)) ?_
          | refine e_pick rfl (by first | exact True.intro | (intro h; first | (rw [h]; rfl) | simpa using h)) (by first | exact True.intro | (intro h; first | (rw [h]; rfl) | simpa using h)) (by first | exact pickV_or _ _ | exact pickV_and _ _ | rfl) ?_
          | refine e_grd hTT false [] 1 rfl rfl rfl rfl rfl (by conv => { lhs; whnf; try dsimp only [List.take, List.drop, List.set, setCells, splice, List.append_eq, List.nil_append, List.cons_append, List.append_nil, List.length_cons, List.length_nil, Nat.zero_add, Nat.add_zero] }) (by conv => { lhs; dsimp only [keysP, List.map] }) (by intro hg; first | exact True.intro | exact Nat.le_of_ble_eq_true rfl | (simp at hg; first | omega | (simp only [inR]; omega) | (simp; omega))) ?_
          | refine e_grd hTT false [] 0 rfl rfl rfl rfl rfl (by conv => { lhs; whnf; try dsimp only [List.take, List.drop, List.set, setCells, splice, List.append_eq, List.nil_append, List.cons_append, List.append_nil, List.length_cons, List.length_nil, Nat.zero_add, Nat.add_zero] }) (by conv => { lhs; dsimp only [keysP, List.map] }) (by intro hg; first | exact True.intro | exact Nat.le_of_ble_eq_true rfl | (simp at hg; first | omega | (simp only [inR]; omega) | (simp; omega))) ?_
          | refine e_grd hTT false [] 2 rfl rfl rfl rfl rfl (by conv => { lhs; whnf; try dsimp only [List.take, List.drop, List.set, setCells, splice, List.append_eq, List.nil_append, List.cons_append, List.append_nil, List.length_cons, List.length_nil, Nat.zero_add, Nat.add_zero] }) (by conv => { lhs; dsimp only [keysP, List.map] }) (by intro hg; first | exact True.intro | exact Nat.le_of_ble_eq_true rfl | (simp at hg; first | omega | (simp only [inR]; omega) | (simp; omega))) ?_
          | refine e_store hTT false [] rfl rfl rfl rfl rfl (by conv => { lhs; whnf }) (by conv => { lhs; try dsimp only [List.take, List.drop, List.set, setCells, splice, List.append_eq, List.nil_append, List.cons_append, List.append_nil, List.length_cons, List.length_nil, Nat.zero_add, Nat.add_zero] }) (by conv => { lhs; dsimp only [keysP, List.map] }) (by first | exact True.intro | omega | (simp only [inR]; omega) | exact Nat.le_of_ble_eq_true rfl | (refine ⟨by omega, Nat.le_of_ble_eq_true rfl⟩) | (simp; done) | (simp; omega)) ?_
          | refine e_new hTT false [] rfl rfl rfl rfl rfl (by conv => { lhs; whnf; try dsimp only [List.take, List.drop, List.set, setCells, splice, List.append_eq, List.nil_append, List.cons_append, List.append_nil, List.length_cons, List.length_nil, Nat.zero_add, Nat.add_zero] }) (by conv => { lhs; whnf }) (by conv => { lhs; try dsimp only [List.take, List.drop, List.set, setCells, splice, List.append_eq, List.nil_append, List.cons_append, List.append_nil, List.length_cons, List.length_nil, Nat.zero_add, Nat.add_zero] }) (by conv => { lhs; dsimp only [keysP, List.map] }) (by first | exact True.intro | omega | (simp only [inR]; omega) | exact Nat.le_of_ble_eq_true rfl | (refine ⟨by omega, Nat.le_of_ble_eq_true rfl⟩) | (simp; done) | (simp; omega)) ?_
          | refine e_two hTT false [] rfl rfl rfl rfl rfl (by conv => { lhs; whnf; try dsimp only [List.take, List.drop, List.set, setCells, splice, List.append_eq, List.nil_append, List.cons_append, List.append_nil, List.length_cons, List.length_nil, Nat.zero_add, Nat.add_zero] }) (by conv => { lhs; whnf }) (by conv => { lhs; try dsimp only [List.take, List.drop, List.set, setCells, splice, List.append_eq, List.nil_append, List.cons_append, List.append_nil, List.length_cons, List.length_nil, Nat.zero_add, Nat.add_zero] }) (by conv => { lhs; whnf }) (by conv => { lhs; try dsimp only [List.take, List.drop, List.set, setCells, splice, List.append_eq, List.nil_append, List.cons_append, List.append_nil, List.length_cons, List.length_nil, Nat.zero_add, Nat.add_zero] }) (by conv => { lhs; dsimp only [keysP, List.map] }) (by first | exact True.intro | omega | (simp only [inR]; omega) | exact Nat.le_of_ble_eq_true rfl | (refine ⟨by omega, Nat.le_of_ble_eq_true rfl⟩) | (simp; done) | (simp; omega)) ?_
          | refine e_pickG rfl rfl (by first | exact pickV_or _ _ | exact pickV_and _ _ | rfl) (by first | exact True.intro | exact fun h => h) (by intro h; first | exact True.intro | (intro h2; first | (rw [h2]; rfl) | simp_all)) (by intro h; first | exact True.intro | (intro h2; first | (rw [h2]; rfl) | simp_all)) ?_))
      rw [missI_some h hu hm hu2 hrow]
      refine ret_pure (.inr rfl) rfl rfl rfl
  · simp at h
    repeat (first
      | (refine aw_seq_k fun K hK => ?_)
      | (refine xt_n ?_)
      | (refine xt_r ?_)
      | (refine xt_x ?_)
      | (refine xb_n ?_)
      | (refine xb_r ?_)
      | (refine xb_same ?_)
      | (refine xb_ne rfl ?_)
      | (refine aw_block ?_)
      | (refine aw_ret ?_)
      | (refine aw_exit ?_)
      | (refine aw_skip ?_)
      | (refine aw_label ?_)
      | (refine hK _ ?_; clear hK; clear K)
      | (clear hK; clear K; refine hK _ ?_; clear hK; clear K)
      | (clear hK; clear K; clear hK; clear K; refine hK _ ?_; clear hK; clear K)
      | (clear hK; clear K; clear hK; clear K; clear hK; clear K; refine hK _ ?_; clear hK; clear K)
      | (clear hK; clear K; clear hK; clear K; clear hK; clear K; clear hK; clear K; refine hK _ ?_; clear hK; clear K)
      | (first | refine w_region (by kernel_rfl) (by conv => { lhs; whnf }) ?_ | refine w_regionD (by kernel_rfl) (by conv => { lhs; whnf }) ?_)
      | refine aops_nil ⟨by kernel_rfl, ?_⟩
      | refine aops_nil ?_
      | (first
        | refine e_val hTT false [] rfl rfl rfl rfl rfl (by conv => { lhs; whnf; try dsimp only [List.take, List.drop, List.set, setCells, splice, List.append_eq, List.nil_append, List.cons_append, List.append_nil, List.length_cons, List.length_nil, Nat.zero_add, Nat.add_zero] }) (by conv => { lhs; dsimp only [keysP, List.map] }) (by first | exact True.intro | omega | (simp only [inR]; omega) | exact Nat.le_of_ble_eq_true rfl | (refine ⟨by omega, Nat.le_of_ble_eq_true rfl⟩) | (simp; done) | (simp; omega)) ?_
        | refine e_pick rfl (by first | exact True.intro | (intro h; first | (rw [h]; rfl) | simpa using h)) (by first | exact True.intro | (intro h; first | (rw [h]; rfl) | simpa using h)) (by first | exact pickV_or _ _ | exact pickV_and _ _ | rfl) ?_
        | refine e_grd hTT false [] 1 rfl rfl rfl rfl rfl (by conv => { lhs; whnf; try dsimp only [List.take, List.drop, List.set, setCells, splice, List.append_eq, List.nil_append, List.cons_append, List.append_nil, List.length_cons, List.length_nil, Nat.zero_add, Nat.add_zero] }) (by conv => { lhs; dsimp only [keysP, List.map] }) (by intro hg; first | exact True.intro | exact Nat.le_of_ble_eq_true rfl | (simp at hg; first | omega | (simp only [inR]; omega) | (simp; omega))) ?_
        | refine e_grd hTT false [] 0 rfl rfl rfl rfl rfl (by conv => { lhs; whnf; try dsimp only [List.take, List.drop, List.set, setCells, splice, List.append_eq, List.nil_append, List.cons_append, List.append_nil, List.length_cons, List.length_nil, Nat.zero_add, Nat.add_zero] }) (by conv => { lhs; dsimp only [keysP, List.map] }) (by intro hg; first | exact True.intro | exact Nat.le_of_ble_eq_true rfl | (simp at hg; first | omega | (simp only [inR]; omega) | (simp; omega))) ?_
        | refine e_grd hTT false [] 2 rfl rfl rfl rfl rfl (by conv => { lhs; whnf; try dsimp only [List.take, List.drop, List.set, setCells, splice, List.append_eq, List.nil_append, List.cons_append, List.append_nil, List.length_cons, List.length_nil, Nat.zero_add, Nat.add_zero] }) (by conv => { lhs; dsimp only [keysP, List.map] }) (by intro hg; first | exact True.intro | exact Nat.le_of_ble_eq_true rfl | (simp at hg; first | omega | (simp only [inR]; omega) | (simp; omega))) ?_
        | refine e_store hTT false [] rfl rfl rfl rfl rfl (by conv => { lhs; whnf }) (by conv => { lhs; try dsimp only [List.take, List.drop, List.set, setCells, splice, List.append_eq, List.nil_append, List.cons_append, List.append_nil, List.length_cons, List.length_nil, Nat.zero_add, Nat.add_zero] }) (by conv => { lhs; dsimp only [keysP, List.map] }) (by first | exact True.intro | omega | (simp only [inR]; omega) | exact Nat.le_of_ble_eq_true rfl | (refine ⟨by omega, Nat.le_of_ble_eq_true rfl⟩) | (simp; done) | (simp; omega)) ?_
        | refine e_new hTT false [] rfl rfl rfl rfl rfl (by conv => { lhs; whnf; try dsimp only [List.take, List.drop, List.set, setCells, splice, List.append_eq, List.nil_append, List.cons_append, List.append_nil, List.length_cons, List.length_nil, Nat.zero_add, Nat.add_zero] }) (by conv => { lhs; whnf }) (by conv => { lhs; try dsimp only [List.take, List.drop, List.set, setCells, splice, List.append_eq, List.nil_append, List.cons_append, List.append_nil, List.length_cons, List.length_nil, Nat.zero_add, Nat.add_zero] }) (by conv => { lhs; dsimp only [keysP, List.map] }) (by first | exact True.intro | omega | (simp only [inR]; omega) | exact Nat.le_of_ble_eq_true rfl | (refine ⟨by omega, Nat.le_of_ble_eq_true rfl⟩) | (simp; done) | (simp; omega)) ?_
        | refine e_two hTT false [] rfl rfl rfl rfl rfl (by conv => { lhs; whnf; try dsimp only [List.take, List.drop, List.set, setCells, splice, List.append_eq, List.nil_append, List.cons_append, List.append_nil, List.length_cons, List.length_nil, Nat.zero_add, Nat.add_zero] }) (by conv => { lhs; whnf }) (by conv => { lhs; try dsimp only [List.take, List.drop, List.set, setCells, splice, List.append_eq, List.nil_append, List.cons_append, List.append_nil, List.length_cons, List.length_nil, Nat.zero_add, Nat.add_zero] }) (by conv => { lhs; whnf }) (by conv => { lhs; try dsimp only [List.take, List.drop, List.set, setCells, splice, List.append_eq, List.nil_append, List.cons_append, List.append_nil, List.length_cons, List.length_nil, Nat.zero_add, Nat.add_zero] }) (by conv => { lhs; dsimp only [keysP, List.map] }) (by first | exact True.intro | omega | (simp only [inR]; omega) | exact Nat.le_of_ble_eq_true rfl | (refine ⟨by omega, Nat.le_of_ble_eq_true rfl⟩) | (simp; done) | (simp; omega)) ?_
        | refine e_pickG rfl rfl (by first | exact pickV_or _ _ | exact pickV_and _ _ | rfl) (by first | exact True.intro | exact fun h => h) (by intro h; first | exact True.intro | (intro h2; first | (rw [h2]; rfl) | simp_all)) (by intro h; first | exact True.intro | (intro h2; first | (rw [h2]; rfl) | simp_all)) ?_))
    rw [missI_none fun j hj => hrow j (by omega)]
    refine ret_pure (.inr rfl) rfl rfl rfl
end Go.Proofs.Ytlhkpdnnopknnaa
