/-
  What a tip misses: the reference's copy, and both exported functions. No condition.
-/
import Derived.Test.YtlhkpdnnopknnaaPAb3
namespace Go.Proofs.Ytlhkpdnnopknnaa
open Go.Ab Go.RowKit Go.Dw Go.Shelf

theorem max_dist (u i : Nat) : max ((u : Int) - (i : Int)) ((i : Int) - (u : Int)) = ((dist u i : Nat) : Int) := by unfold dist; omega
theorem missB_form (t : List Int) (l : List Pt) (k u : Nat) : missB t l k u = (decide (max ((u : Int) - (k : Int)) ((k : Int) - (u : Int)) < (t.length : Int)) && (decide ((gp l (u : Int).toNat).2 + gi t (max ((u : Int) - (k : Int)) ((k : Int) - (u : Int))).toNat < (gp l (k : Int).toNat).2) || decide ((gp l (k : Int).toNat).1 < (gp l (u : Int).toNat).1 - gi t (max ((u : Int) - (k : Int)) ((k : Int) - (u : Int))).toNat))) := by
  rw [max_dist]
  simp [missB]
set_option maxRecDepth 100000 in
theorem refmiss_ac (t : List Int) (l : List Pt) (h0 : checkBoth t l = 0) : AC Try.prog 71 [.agg [V.ints t], V.pts l] (.tup [.i (missI t l).1, .i (missI t l).2.1, .b (decide ((missI t l).2.2 = 0))]) [] := by
  obtain ⟨k1, k2⟩ := checkBoth_ok h0
  obtain ⟨m1, m2, _, _, m3⟩ := checkTip_ok k1
  obtain ⟨m4, m5⟩ := checkPts_ok k2
  refine ac_intro hTT hMX (fn := Try.f71) (N := _) ⟨Try.func71, rfl, Try.ntmps71, by kernel_rfl⟩ (by simp) fun C hC hF => ?_
  repeat (first
    | (refine aw_seq_k fun K hK => ?_)
    | (refine xt_n ?_)
    | (refine xt_r ?_)
    | (refine xt_x ?_)
    | (refine xb_n ?_)
    | (refine xb_r ?_)
    | (refine xb_same ?_)
    | (refine xb_ne rfl ?_)
    | (refine aw_block ?_)
    | (refine aw_ret ?_)
    | (refine aw_exit ?_)
    | (refine aw_skip ?_)
    | (refine aw_label ?_)
    | (refine hK _ ?_; clear hK; clear K)
    | (clear hK; clear K; refine hK _ ?_; clear hK; clear K)
    | (clear hK; clear K; clear hK; clear K; refine hK _ ?_; clear hK; clear K)
    | (clear hK; clear K; clear hK; clear K; clear hK; clear K; refine hK _ ?_; clear hK; clear K)
    | (clear hK; clear K; clear hK; clear K; clear hK; clear K; clear hK; clear K; refine hK _ ?_; clear hK; clear K)
    | (first | refine w_region (by kernel_rfl) (by conv => { lhs; whnf }) ?_ | refine w_regionD (by kernel_rfl) (by conv => { lhs; whnf }) ?_)
    | refine aops_nil ⟨by kernel_rfl, ?_⟩
    | refine aops_nil ?_
    | (first
      | refine e_val hTT false [] rfl rfl rfl rfl rfl (by conv => { lhs; whnf; try dsimp only [List.take, List.drop, List.set, setCells, splice, List.append_eq, List.nil_append, List.cons_append, List.append_nil, List.length_cons, List.length_nil, Nat.zero_add, Nat.add_zero] }) (by conv => { lhs; dsimp only [keysP, List.map] }) (by first | exact True.intro | omega | (simp only [inR]; omega) | exact Nat.le_of_ble_eq_true rfl | (refine ⟨by omega, Nat.le_of_ble_eq_true rfl⟩) | (simp; done) | (simp; omega)) ?_
      | refine e_pick rfl (by first | exact True.intro | (intro h; first | (rw [h]; rfl) | simpa using h)) (by first | exact True.intro | (intro h; first | (rw [h]; rfl) | simpa using h)) (by first | exact pickV_or _ _ | exact pickV_and _ _ | rfl) ?_
      | refine e_grd hTT false [] 1 rfl rfl rfl rfl rfl (by conv => { lhs; whnf; try dsimp only [List.take, List.drop, List.set, setCells, splice, List.append_eq, List.nil_append, List.cons_append, List.append_nil, List.length_cons, List.length_nil, Nat.zero_add, Nat.add_zero] }) (by conv => { lhs; dsimp only [keysP, List.map] }) (by intro hg; first | exact True.intro | exact Nat.le_of_ble_eq_true rfl | (simp at hg; first | omega | (simp only [inR]; omega) | (simp; omega))) ?_
      | refine e_grd hTT false [] 0 rfl rfl rfl rfl rfl (by conv => { lhs; whnf; try dsimp only [List.take, List.drop, List.set, setCells, splice, List.append_eq, List.nil_append, List.cons_append, List.append_nil, List.length_cons, List.length_nil, Nat.zero_add, Nat.add_zero] }) (by conv => { lhs; dsimp only [keysP, List.map] }) (by intro hg; first | exact True.intro | exact Nat.le_of_ble_eq_true rfl | (simp at hg; first | omega | (simp only [inR]; omega) | (simp; omega))) ?_
      | refine e_grd hTT false [] 2 rfl rfl rfl rfl rfl (by conv => { lhs; whnf; try dsimp only [List.take, List.drop, List.set, setCells, splice, List.append_eq, List.nil_append, List.cons_append, List.append_nil, List.length_cons, List.length_nil, Nat.zero_add, Nat.add_zero] }) (by conv => { lhs; dsimp only [keysP, List.map] }) (by intro hg; first | exact True.intro | exact Nat.le_of_ble_eq_true rfl | (simp at hg; first | omega | (simp only [inR]; omega) | (simp; omega))) ?_
      | refine e_store hTT false [] rfl rfl rfl rfl rfl (by conv => { lhs; whnf }) (by conv => { lhs; try dsimp only [List.take, List.drop, List.set, setCells, splice, List.append_eq, List.nil_append, List.cons_append, List.append_nil, List.length_cons, List.length_nil, Nat.zero_add, Nat.add_zero] }) (by conv => { lhs; dsimp only [keysP, List.map] }) (by first | exact True.intro | omega | (simp only [inR]; omega) | exact Nat.le_of_ble_eq_true rfl | (refine ⟨by omega, Nat.le_of_ble_eq_true rfl⟩) | (simp; done) | (simp; omega)) ?_
      | refine e_new hTT false [] rfl rfl rfl rfl rfl (by conv => { lhs; whnf; try dsimp only [List.take, List.drop, List.set, setCells, splice, List.append_eq, List.nil_append, List.cons_append, List.append_nil, List.length_cons, List.length_nil, Nat.zero_add, Nat.add_zero] }) (by conv => { lhs; whnf }) (by conv => { lhs; try dsimp only [List.take, List.drop, List.set, setCells, splice, List.append_eq, List.nil_append, List.cons_append, List.append_nil, List.length_cons, List.length_nil, Nat.zero_add, Nat.add_zero] }) (by conv => { lhs; dsimp only [keysP, List.map] }) (by first | exact True.intro | omega | (simp only [inR]; omega) | exact Nat.le_of_ble_eq_true rfl | (refine ⟨by omega, Nat.le_of_ble_eq_true rfl⟩) | (simp; done) | (simp; omega)) ?_
      | refine e_two hTT false [] rfl rfl rfl rfl rfl (by conv => { lhs; whnf; try dsimp only [List.take, List.drop, List.set, setCells, splice, List.append_eq, List.nil_append, List.cons_append, List.append_nil, List.length_cons, List.length_nil, Nat.zero_add, Nat.add_zero] }) (by conv => { lhs; whnf }) (by conv => { lhs; try dsimp only [List.take, List.drop, List.set, setCells, splice, List.append_eq, List.nil_append, List.cons_append, List.append_nil, List.length_cons, List.length_nil, Nat.zero_add, Nat.add_zero] }) (by conv => { lhs; whnf }) (by conv => { lhs; try dsimp only [List.take, List.drop, List.set, setCells, splice, List.append_eq, List.nil_append, List.cons_append, List.append_nil, List.length_cons, List.length_nil, Nat.zero_add, Nat.add_zero] }) (by conv => { lhs; dsimp only [keysP, List.map] }) (by first | exact True.intro | omega | (simp only [inR]; omega) | exact Nat.le_of_ble_eq_true rfl | (refine ⟨by omega, Nat.le_of_ble_eq_true rfl⟩) | (simp; done) | (simp; omega)) ?_
      | refine e_pickG rfl rfl (by first | exact pickV_or _ _ | exact pickV_and _ _ | rfl) (by first | exact True.intro | exact fun h => h) (by intro h; first | exact True.intro | (intro h2; first | (rw [h2]; rfl) | simp_all)) (by intro h; first | exact True.intro | (intro h2; first | (rw [h2]; rfl) | simp_all)) ?_))
  refine w_loop (fun k : Nat => [(1, V.pts l), (2, .ptr [V.ints t]), (7, .i k)]) (fun k => []) (fun k => k ≤ l.length ∧ ∀ i, i < k → missRow t l i = none) (fun k => l.length - k) 0 ⟨Nat.zero_le _, fun i hi => by omega⟩ ?_ ?_
  · exact le_ren [] (.cons rfl (.cons rfl (.cons rfl .nil))) .nil rfl rfl
  rintro k ⟨hk, hrow⟩
  repeat (first
    | (refine aw_seq_k fun K hK => ?_)
    | (refine xt_n ?_)
    | (refine xt_r ?_)
    | (refine xt_x ?_)
    | (refine xb_n ?_)
    | (refine xb_r ?_)
    | (refine xb_same ?_)
    | (refine xb_ne rfl ?_)
    | (refine aw_block ?_)
    | (refine aw_ret ?_)
    | (refine aw_exit ?_)
    | (refine aw_skip ?_)
    | (refine aw_label ?_)
    | (refine hK _ ?_; clear hK; clear K)
    | (clear hK; clear K; refine hK _ ?_; clear hK; clear K)
    | (clear hK; clear K; clear hK; clear K; refine hK _ ?_; clear hK; clear K)
    | (clear hK; clear K; clear hK; clear K; clear hK; clear K; refine hK _ ?_; clear hK; clear K)
    | (clear hK; clear K; clear hK; clear K; clear hK; clear K; clear hK; clear K; refine hK _ ?_; clear hK; clear K)
    | (first | refine w_region (by kernel_rfl) (by conv => { lhs; whnf }) ?_ | refine w_regionD (by kernel_rfl) (by conv => { lhs; whnf }) ?_)
    | refine aops_nil ⟨by kernel_rfl, ?_⟩
    | refine aops_nil ?_
    | (first
      | refine e_val hTT false [] rfl rfl rfl rfl rfl (by conv => { lhs; whnf; try dsimp only [List.take, List.drop, List.set, setCells, splice, List.append_eq, List.nil_append, List.cons_append, List.append_nil, List.length_cons, List.length_nil, Nat.zero_add, Nat.add_zero] }) (by conv => { lhs; dsimp only [keysP, List.map] }) (by first | exact True.intro | omega | (simp only [inR]; omega) | exact Nat.le_of_ble_eq_true rfl | (refine ⟨by omega, Nat.le_of_ble_eq_true rfl⟩) | (simp; done) | (simp; omega)) ?_
      | refine e_pick rfl (by first | exact True.intro | (intro h; first | (rw [h]; rfl) | simpa using h)) (by first | exact True.intro | (intro h; first | (rw [h]; rfl) | simpa using h)) (by first | exact pickV_or _ _ | exact pickV_and _ _ | rfl) ?_
      | refine e_grd hTT false [] 1 rfl rfl rfl rfl rfl (by conv => { lhs; whnf; try dsimp only [List.take, List.drop, List.set, setCells, splice, List.append_eq, List.nil_append, List.cons_append, List.append_nil, List.length_cons, List.length_nil, Nat.zero_add, Nat.add_zero] }) (by conv => { lhs; dsimp only [keysP, List.map] }) (by intro hg; first | exact True.intro | exact Nat.le_of_ble_eq_true rfl | (simp at hg; first | omega | (simp only [inR]; omega) | (simp; omega))) ?_
      | refine e_grd hTT false [] 0 rfl rfl rfl rfl rfl (by conv => { lhs; whnf; try dsimp only [List.take, List.drop, List.set, setCells, splice, List.append_eq, List.nil_append, List.cons_append, List.append_nil, List.length_cons, List.length_nil, Nat.zero_add, Nat.add_zero] }) (by conv => { lhs; dsimp only [keysP, List.map] }) (by intro hg; first | exact True.intro | exact Nat.le_of_ble_eq_true rfl | (simp at hg; first | omega | (simp only [inR]; omega) | (simp; omega))) ?_
      | refine e_grd hTT false [] 2 rfl rfl rfl rfl rfl (by conv => { lhs; whnf; try dsimp only [List.take, List.drop, List.set, setCells, splice, List.append_eq, List.nil_append, List.cons_append, List.append_nil, List.length_cons, List.length_nil, Nat.zero_add, Nat.add_zero] }) (by conv => { lhs; dsimp only [keysP, List.map] }) (by intro hg; first | exact True.intro | exact Nat.le_of_ble_eq_true rfl | (simp at hg; first | omega | (simp only [inR]; omega) | (simp; omega))) ?_
      | refine e_store hTT false [] rfl rfl rfl rfl rfl (by conv => { lhs; whnf }) (by conv => { lhs; try dsimp only [List.take, List.drop, List.set, setCells, splice, List.append_eq, List.nil_append, List.cons_append, List.append_nil, List.length_cons, List.length_nil, Nat.zero_add, Nat.add_zero] }) (by conv => { lhs; dsimp only [keysP, List.map] }) (by first | exact True.intro | omega | (simp only [inR]; omega) | exact Nat.le_of_ble_eq_true rfl | (refine ⟨by omega, Nat.le_of_ble_eq_true rfl⟩) | (simp; done) | (simp; omega)) ?_
      | refine e_new hTT false [] rfl rfl rfl rfl rfl (by conv => { lhs; whnf; try dsimp only [List.take, List.drop, List.set, setCells, splice, List.append_eq, List.nil_append, List.cons_append, List.append_nil, List.length_cons, List.length_nil, Nat.zero_add, Nat.add_zero] }) (by conv => { lhs; whnf }) (by conv => { lhs; try dsimp only [List.take, List.drop, List.set, setCells, splice, List.append_eq, List.nil_append, List.cons_append, List.append_nil, List.length_cons, List.length_nil, Nat.zero_add, Nat.add_zero] }) (by conv => { lhs; dsimp only [keysP, List.map] }) (by first | exact True.intro | omega | (simp only [inR]; omega) | exact Nat.le_of_ble_eq_true rfl | (refine ⟨by omega, Nat.le_of_ble_eq_true rfl⟩) | (simp; done) | (simp; omega)) ?_
      | refine e_two hTT false [] rfl rfl rfl rfl rfl (by conv => { lhs; whnf; try dsimp only [List.take, List.drop, List.set, setCells, splice, List.append_eq, List.nil_append, List.cons_append, List.append_nil, List.length_cons, List.length_nil, Nat.zero_add, Nat.add_zero] }) (by conv => { lhs; whnf }) (by conv => { lhs; try dsimp only [List.take, List.drop, List.set, setCells, splice, List.append_eq, List.nil_append, List.cons_append, List.append_nil, List.length_cons, List.length_nil, Nat.zero_add, Nat.add_zero] }) (by conv => { lhs; whnf }) (by conv => { lhs; try dsimp only [List.take, List.drop, List.set, setCells, splice, List.append_eq, List.nil_append, List.cons_append, List.append_nil, List.length_cons, List.length_nil, Nat.zero_add, Nat.add_zero] }) (by conv => { lhs; dsimp only [keysP, List.map] }) (by first | exact True.intro | omega | (simp only [inR]; omega) | exact Nat.le_of_ble_eq_true rfl | (refine ⟨by omega, Nat.le_of_ble_eq_true rfl⟩) | (simp; done) | (simp; omega)) ?_
      | refine e_pickG rfl rfl (by first | exact pickV_or _ _ | exact pickV_and _ _ | rfl) (by first | exact True.intro | exact fun h => h) (by intro h; first | exact True.intro | (intro h2; first | (rw [h2]; rfl) | simp_all)) (by intro h; first | exact True.intro | (intro h2; first | (rw [h2]; rfl) | simp_all)) ?_))
  refine w_cond rfl (fun h => ?_) (fun h => ?_)
  · simp at h
    repeat (first
      | (refine aw_seq_k fun K hK => ?_)
      | (refine xt_n ?_)
      | (refine xt_r ?_)
      | (refine xt_x ?_)
      | (refine xb_n ?_)
      | (refine xb_r ?_)
      | (refine xb_same ?_)
      | (refine xb_ne rfl ?_)
      | (refine aw_block ?_)
      | (refine aw_ret ?_)
      | (refine aw_exit ?_)
      | (refine aw_skip ?_)
      | (refine aw_label ?_)
      | (refine hK _ ?_; clear hK; clear K)
      | (clear hK; clear K; refine hK _ ?_; clear hK; clear K)
      | (clear hK; clear K; clear hK; clear K; refine hK _ ?_; clear hK; clear K)
      | (clear hK; clear K; clear hK; clear K; clear hK; clear K; refine hK _ ?_; clear hK; clear K)
      | (clear hK; clear K; clear hK; clear K; clear hK; clear K; clear hK; clear K; refine hK _ ?_; clear hK; clear K)
      | (first | refine w_region (by kernel_rfl) (by conv => { lhs; whnf }) ?_ | refine w_regionD (by kernel_rfl) (by conv => { lhs; whnf }) ?_)
      | refine aops_nil ⟨by kernel_rfl, ?_⟩
      | refine aops_nil ?_
      | (first
        | refine e_val hTT false [] rfl rfl rfl rfl rfl (by conv => { lhs; whnf; try dsimp only [List.take, List.drop, List.set, setCells, splice, List.append_eq, List.nil_append, List.cons_append, List.append_nil, List.length_cons, List.length_nil, Nat.zero_add, Nat.add_zero] }) (by conv => { lhs; dsimp only [keysP, List.map] }) (by first | exact True.intro | omega | (simp only [inR]; omega) | exact Nat.le_of_ble_eq_true rfl | (refine ⟨by omega, Nat.le_of_ble_eq_true rfl⟩) | (simp; done) | (simp; omega)) ?_
        | refine e_pick rfl (by first | exact True.intro | (intro h; first | (rw [h]; rfl) | simpa using h)) (by first | exact True.intro | (intro h; first | (rw [h]; rfl) | simpa using h)) (by first | exact pickV_or _ _ | exact pickV_and _ _ | rfl) ?_
        | refine e_grd hTT false [] 1 rfl rfl rfl rfl rfl (by conv => { lhs; whnf; try dsimp only [List.take, List.drop, List.set, setCells, splice, List.append_eq, List.nil_append, List.cons_append, List.append_nil, List.length_cons, List.length_nil, Nat.zero_add, Nat.add_zero] }) (by conv => { lhs; dsimp only [keysP, List.map] }) (by intro hg; first | exact True.intro | exact Nat.le_of_ble_eq_true rfl | (simp at hg; first | omega | (simp only [inR]; omega) | (simp; omega))) ?_
        | refine e_grd hTT false [] 0 rfl rfl rfl rfl rfl (by conv => { lhs; whnf; try dsimp only [List.take, List.drop, List.set, setCells, splice, List.append_eq, List.nil_append, List.cons_append, List.append_nil, List.length_cons, List.length_nil, Nat.zero_add, Nat.add_zero] }) (by conv => { lhs; dsimp only [keysP, List.map] }) (by intro hg; first | exact True.intro | exact Nat.le_of_ble_eq_true rfl | (simp at hg; first | omega | (simp only [inR]; omega) | (simp; omega))) ?_
        | refine e_grd hTT false [] 2 rfl rfl rfl rfl rfl (by conv => { lhs; whnf; try dsimp only [List.take, List.drop, List.set, setCells, splice, List.append_eq, List.nil_append, List.cons_append, List.append_nil, List.length_cons, List.length_nil, Nat.zero_add, Nat.add_zero] }) (by conv => { lhs; dsimp only [keysP, List.map] }) (by intro hg; first | exact True.intro | exact Nat.le_of_ble_eq_true rfl | (simp at hg; first | omega | (simp only [inR]; omega) | (simp; omega))) ?_
        | refine e_store hTT false [] rfl rfl rfl rfl rfl (by conv => { lhs; whnf }) (by conv => { lhs; try dsimp only [List.take, List.drop, List.set, setCells, splice, List.append_eq, List.nil_append, List.cons_append, List.append_nil, List.length_cons, List.length_nil, Nat.zero_add, Nat.add_zero] }) (by conv => { lhs; dsimp only [keysP, List.map] }) (by first | exact True.intro | omega | (simp only [inR]; omega) | exact Nat.le_of_ble_eq_true rfl | (refine ⟨by omega, Nat.le_of_ble_eq_true rfl⟩) | (simp; done) | (simp; omega)) ?_
        | refine e_new hTT false [] rfl rfl rfl rfl rfl (by conv => { lhs; whnf; try dsimp only [List.take, List.drop, List.set, setCells, splice, List.append_eq, List.nil_append, List.cons_append, List.append_nil, List.length_cons, List.length_nil, Nat.zero_add, Nat.add_zero] }) (by conv => { lhs; whnf }) (by conv => { lhs; try dsimp only [List.take, List.drop, List.set, setCells, splice, List.append_eq, List.nil_append, List.cons_append, List.append_nil, List.length_cons, List.length_nil, Nat.zero_add, Nat.add_zero] }) (by conv => { lhs; dsimp only [keysP, List.map] }) (by first | exact True.intro | omega | (simp only [inR]; omega) | exact Nat.le_of_ble_eq_true rfl | (refine ⟨by omega, Nat.le_of_ble_eq_true rfl⟩) | (simp; done) | (simp; omega)) ?_
        | refine e_two hTT false [] rfl rfl rfl rfl rfl (by conv => { lhs; whnf; try dsimp only [List.take, List.drop, List.set, setCells, splice, List.append_eq, List.nil_append, List.cons_append, List.append_nil, List.length_cons, List.length_nil, Nat.zero_add, Nat.add_zero] }) (by conv => { lhs; whnf }) (by conv => { lhs; try dsimp only [List.take, List.drop, List.set, setCells, splice, List.append_eq, List.nil_append, List.cons_append, List.append_nil, List.length_cons, List.length_nil, Nat.zero_add, Nat.add_zero] }) (by conv => { lhs; whnf }) (by conv => { lhs; try dsimp only [List.take, List.drop, List.set, setCells, splice, List.append_eq, List.nil_append, List.cons_append, List.append_nil, List.length_cons, List.length_nil, Nat.zero_add, Nat.add_zero] }) (by conv => { lhs; dsimp only [keysP, List.map] }) (by first | exact True.intro | omega | (simp only [inR]; omega) | exact Nat.le_of_ble_eq_true rfl | (refine ⟨by omega, Nat.le_of_ble_eq_true rfl⟩) | (simp; done) | (simp; omega)) ?_
        | refine e_pickG rfl rfl (by first | exact pickV_or _ _ | exact pickV_and _ _ | rfl) (by first | exact True.intro | exact fun h => h) (by intro h; first | exact True.intro | (intro h2; first | (rw [h2]; rfl) | simp_all)) (by intro h; first | exact True.intro | (intro h2; first | (rw [h2]; rfl) | simp_all)) ?_))
    refine w_loop (fun u : Nat => [(1, V.pts l), (2, .ptr [V.ints t]), (7, .i k), (8, .i u)]) (fun k => []) (fun u => u ≤ l.length ∧ ∀ j, j < u → missB t l k j = false) (fun u => l.length - u) 0 ⟨Nat.zero_le _, fun i hi => by omega⟩ ?_ ?_
    · exact le_ren [] (.cons rfl (.cons rfl (.cons rfl (.cons rfl .nil)))) .nil rfl rfl
    rintro u ⟨hu, hbad⟩
    repeat (first
      | (refine aw_seq_k fun K hK => ?_)
      | (refine xt_n ?_)
      | (refine xt_r ?_)
      | (refine xt_x ?_)
      | (refine xb_n ?_)
      | (refine xb_r ?_)
      | (refine xb_same ?_)
      | (refine xb_ne rfl ?_)
      | (refine aw_block ?_)
      | (refine aw_ret ?_)
      | (refine aw_exit ?_)
      | (refine aw_skip ?_)
      | (refine aw_label ?_)
      | (refine hK _ ?_; clear hK; clear K)
      | (clear hK; clear K; refine hK _ ?_; clear hK; clear K)
      | (clear hK; clear K; clear hK; clear K; refine hK _ ?_; clear hK; clear K)
      | (clear hK; clear K; clear hK; clear K; clear hK; clear K; refine hK _ ?_; clear hK; clear K)
      | (clear hK; clear K; clear hK; clear K; clear hK; clear K; clear hK; clear K; refine hK _ ?_; clear hK; clear K)
      | (first | refine w_region (by kernel_rfl) (by conv => { lhs; whnf }) ?_ | refine w_regionD (by kernel_rfl) (by conv => { lhs; whnf }) ?_)
      | refine aops_nil ⟨by kernel_rfl, ?_⟩
      | refine aops_nil ?_
      | (first
        | refine e_val hTT false [] rfl rfl rfl rfl rfl (by conv => { lhs; whnf; try dsimp only [List.take, List.drop, List.set, setCells, splice, List.append_eq, List.nil_append, List.cons_append, List.append_nil, List.length_cons, List.length_nil, Nat.zero_add, Nat.add_zero] }) (by conv => { lhs; dsimp only [keysP, List.map] }) (by first | exact True.intro | omega | (simp only [inR]; omega) | exact Nat.le_of_ble_eq_true rfl | (refine ⟨by omega, Nat.le_of_ble_eq_true rfl⟩) | (simp; done) | (simp; omega)) ?_
        | refine e_pick rfl (by first | exact True.intro | (intro h; first | (rw [h]; rfl) | simpa using h)) (by first | exact True.intro | (intro h; first | (rw [h]; rfl) | simpa using h)) (by first | exact pickV_or _ _ | exact pickV_and _ _ | rfl) ?_
        | refine e_grd hTT false [] 1 rfl rfl rfl rfl rfl (by conv => { lhs; whnf; try dsimp only [List.take, List.drop, List.set, setCells, splice, List.append_eq, List.nil_append, List.cons_append, List.append_nil, List.length_cons, List.length_nil, Nat.zero_add, Nat.add_zero] }) (by conv => { lhs; dsimp only [keysP, List.map] }) (by intro hg; first | exact True.intro | exact Nat.le_of_ble_eq_true rfl | (simp at hg; first | omega | (simp only [inR]; omega) | (simp; omega))) ?_
        | refine e_grd hTT false [] 0 rfl rfl rfl rfl rfl (by conv => { lhs; whnf; try dsimp only [List.take, List.drop, List.set, setCells, splice, List.append_eq, List.nil_append, List.cons_append, List.append_nil, List.length_cons, List.length_nil, Nat.zero_add, Nat.add_zero] }) (by conv => { lhs; dsimp only [keysP, List.map] }) (by intro hg; first | exact True.intro | exact Nat.le_of_ble_eq_true rfl | (simp at hg; first | omega | (simp only [inR]; omega) | (simp; omega))) ?_
        | refine e_grd hTT false [] 2 rfl rfl rfl rfl rfl (by conv => { lhs; whnf; try dsimp only [List.take, List.drop, List.set, setCells, splice, List.append_eq, List.nil_append, List.cons_append, List.append_nil, List.length_cons, List.length_nil, Nat.zero_add, Nat.add_zero] }) (by conv => { lhs; dsimp only [keysP, List.map] }) (by intro hg; first | exact True.intro | exact Nat.le_of_ble_eq_true rfl | (simp at hg; first | omega | (simp only [inR]; omega) | (simp; omega))) ?_
        | refine e_store hTT false [] rfl rfl rfl rfl rfl (by conv => { lhs; whnf }) (by conv => { lhs; try dsimp only [List.take, List.drop, List.set, setCells, splice, List.append_eq, List.nil_append, List.cons_append, List.append_nil, List.length_cons, List.length_nil, Nat.zero_add, Nat.add_zero] }) (by conv => { lhs; dsimp only [keysP, List.map] }) (by first | exact True.intro | omega | (simp only [inR]; omega) | exact Nat.le_of_ble_eq_true rfl | (refine ⟨by omega, Nat.le_of_ble_eq_true rfl⟩) | (simp; done) | (simp; omega)) ?_
        | refine e_new hTT false [] rfl rfl rfl rfl rfl (by conv => { lhs; whnf; try dsimp only [List.take, List.drop, List.set, setCells, splice, List.append_eq, List.nil_append, List.cons_append, List.append_nil, List.length_cons, List.length_nil, Nat.zero_add, Nat.add_zero] }) (by conv => { lhs; whnf }) (by conv => { lhs; try dsimp only [List.take, List.drop, List.set, setCells, splice, List.append_eq, List.nil_append, List.cons_append, List.append_nil, List.length_cons, List.length_nil, Nat.zero_add, Nat.add_zero] }) (by conv => { lhs; dsimp only [keysP, List.map] }) (by first | exact True.intro | omega | (simp only [inR]; omega) | exact Nat.le_of_ble_eq_true rfl | (refine ⟨by omega, Nat.le_of_ble_eq_true rfl⟩) | (simp; done) | (simp; omega)) ?_
        | refine e_two hTT false [] rfl rfl rfl rfl rfl (by conv => { lhs; whnf; try dsimp only [List.take, List.drop, List.set, setCells, splice, List.append_eq, List.nil_append, List.cons_append, List.append_nil, List.length_cons, List.length_nil, Nat.zero_add, Nat.add_zero] }) (by conv => { lhs; whnf }) (by conv => { lhs; try dsimp only [List.take, List.drop, List.set, setCells, splice, List.append_eq, List.nil_append, List.cons_append, List.append_nil, List.length_cons, List.length_nil, Nat.zero_add, Nat.add_zero] }) (by conv => { lhs; whnf }) (by conv => { lhs; try dsimp only [List.take, List.drop, List.set, setCells, splice, List.append_eq, List.nil_append, List.cons_append, List.append_nil, List.length_cons, List.length_nil, Nat.zero_add, Nat.add_zero] }) (by conv => { lhs; dsimp only [keysP, List.map] }) (by first | exact True.intro | omega | (simp only [inR]; omega) | exact Nat.le_of_ble_eq_true rfl | (refine ⟨by omega, Nat.le_of_ble_eq_true rfl⟩) | (simp; done) | (simp; omega)) ?_
        | refine e_pickG rfl rfl (by first | exact pickV_or _ _ | exact pickV_and _ _ | rfl) (by first | exact True.intro | exact fun h => h) (by intro h; first | exact True.intro | (intro h2; first | (rw [h2]; rfl) | simp_all)) (by intro h; first | exact True.intro | (intro h2; first | (rw [h2]; rfl) | simp_all)) ?_))
    refine w_cond rfl (fun hul => ?_) (fun hul => ?_)
    · simp at hul
      have b0 := gp_bd m5 (k : Int).toNat
      have b1 := gp_bd m5 (u : Int).toNat
      have b2 := gi_bd m3 (max ((u : Int) - (k : Int)) ((k : Int) - (u : Int))).toNat
      repeat (first
        | (refine aw_seq_k fun K hK => ?_)
        | (refine xt_n ?_)
        | (refine xt_r ?_)
        | (refine xt_x ?_)
        | (refine xb_n ?_)
        | (refine xb_r ?_)
        | (refine xb_same ?_)
        | (refine xb_ne rfl ?_)
        | (refine aw_block ?_)
        | (refine aw_ret ?_)
        | (refine aw_exit ?_)
        | (refine aw_skip ?_)
        | (refine aw_label ?_)
        | (refine hK _ ?_; clear hK; clear K)
        | (clear hK; clear K; refine hK _ ?_; clear hK; clear K)
        | (clear hK; clear K; clear hK; clear K; refine hK _ ?_; clear hK; clear K)
        | (clear hK; clear K; clear hK; clear K; clear hK; clear K; refine hK _ ?_; clear hK; clear K)
        | (clear hK; clear K; clear hK; clear K; clear hK; clear K; clear hK; clear K; refine hK _ ?_; clear hK; clear K)
        | (first | refine w_region (by kernel_rfl) (by conv => { lhs; whnf }) ?_ | refine w_regionD (by kernel_rfl) (by conv => { lhs; whnf }) ?_)
        | refine aops_nil ⟨by kernel_rfl, ?_⟩
        | refine aops_nil ?_
        | (first
          | refine e_val hTT false [] rfl rfl rfl rfl rfl (by conv => { lhs; whnf; try dsimp only [List.take, List.drop, List.set, setCells, splice, List.append_eq, List.nil_append, List.cons_append, List.append_nil, List.length_cons, List.length_nil, Nat.zero_add, Nat.add_zero] }) (by conv => { lhs; dsimp only [keysP, List.map] }) (by first | exact True.intro | omega | (simp only [inR]; omega) | exact Nat.le_of_ble_eq_true rfl | (refine ⟨by omega, Nat.le_of_ble_eq_true rfl⟩) | (simp; done) | (simp; omega)) ?_
          | refine e_pick rfl (by first | exact True.intro | (intro h; first | (rw [h]; rfl) | simpa using h)) (by first | exact True.intro | (intro h; first | (rw [h]; rfl) | simpa using h)) (by first | exact pickV_or _ _ | exact pickV_and _ _ | rfl) ?_
          | refine e_grd hTT false [] 1 rfl rfl rfl rfl rfl (by conv => { lhs; whnf; try dsimp only [List.take, List.drop, List.set, setCells, splice, List.append_eq, List.nil_append, List.cons_append, List.append_nil, List.length_cons, List.length_nil, Nat.zero_add, Nat.add_zero] }) (by conv => { lhs; dsimp only [keysP, List.map] }) (by intro hg; first | exact True.intro | exact Nat.le_of_ble_eq_true rfl | (simp at hg; first | omega | (simp only [inR]; omega) | (simp; omega))) ?_
          | refine e_grd hTT false [] 0 rfl rfl rfl rfl rfl (by conv => { lhs; whnf; try dsimp only [List.take, List.drop, List.set, setCells, splice, List.append_eq, List.nil_append, List.cons_append, List.append_nil, List.length_cons, List.length_nil, Nat.zero_add, Nat.add_zero] }) (by conv => { lhs; dsimp only [keysP, List.map] }) (by intro hg; first | exact True.intro | exact Nat.le_of_ble_eq_true rfl | (simp at hg; first | omega | (simp only [inR]; omega) | (simp; omega))) ?_
          | refine e_grd hTT false [] 2 rfl rfl rfl rfl rfl (by conv => { lhs; whnf; try dsimp only [List.take, List.drop, List.set, setCells, splice, List.append_eq, List.nil_append, List.cons_append, List.append_nil, List.length_cons, List.length_nil, Nat.zero_add, Nat.add_zero] }) (by conv => { lhs; dsimp only [keysP, List.map] }) (by intro hg; first | exact True.intro | exact Nat.le_of_ble_eq_true rfl | (simp at hg; first | omega | (simp only [inR]; omega) | (simp; omega))) ?_
          | refine e_store hTT false [] rfl rfl rfl rfl rfl (by conv => { lhs; whnf }) (by conv => { lhs; try dsimp only [List.take, List.drop, List.set, setCells, splice, List.append_eq, List.nil_append, List.cons_append, List.append_nil, List.length_cons, List.length_nil, Nat.zero_add, Nat.add_zero] }) (by conv => { lhs; dsimp only [keysP, List.map] }) (by first | exact True.intro | omega | (simp only [inR]; omega) | exact Nat.le_of_ble_eq_true rfl | (refine ⟨by omega, Nat.le_of_ble_eq_true rfl⟩) | (simp; done) | (simp; omega)) ?_
          | refine e_new hTT false [] rfl rfl rfl rfl rfl (by conv => { lhs; whnf; try dsimp only [List.take, List.drop, List.set, setCells, splice, List.append_eq, List.nil_append, List.cons_append, List.append_nil, List.length_cons, List.length_nil, Nat.zero_add, Nat.add_zero] }) (by conv => { lhs; whnf }) (by conv => { lhs; try dsimp only [List.take, List.drop, List.set, setCells, splice, List.append_eq, List.nil_append, List.cons_append, List.append_nil, List.length_cons, List.length_nil, Nat.zero_add, Nat.add_zero] }) (by conv => { lhs; dsimp only [keysP, List.map] }) (by first | exact True.intro | omega | (simp only [inR]; omega) | exact Nat.le_of_ble_eq_true rfl | (refine ⟨by omega, Nat.le_of_ble_eq_true rfl⟩) | (simp; done) | (simp; omega)) ?_
          | refine e_two hTT false [] rfl rfl rfl rfl rfl (by conv => { lhs; whnf; try dsimp only [List.take, List.drop, List.set, setCells, splice, List.append_eq, List.nil_append, List.cons_append, List.append_nil, List.length_cons, List.length_nil, Nat.zero_add, Nat.add_zero] }) (by conv => { lhs; whnf }) (by conv => { lhs; try dsimp only [List.take, List.drop, List.set, setCells, splice, List.append_eq, List.nil_append, List.cons_append, List.append_nil, List.length_cons, List.length_nil, Nat.zero_add, Nat.add_zero] }) (by conv => { lhs; whnf }) (by conv => { lhs; try dsimp only [List.take, List.drop, List.set, setCells, splice, List.append_eq, List.nil_append, List.cons_append, List.append_nil, List.length_cons, List.length_nil, Nat.zero_add, Nat.add_zero] }) (by conv => { lhs; dsimp only [keysP, List.map] }) (by first | exact True.intro | omega | (simp only [inR]; omega) | exact Nat.le_of_ble_eq_true rfl | (refine ⟨by omega, Nat.le_of_ble_eq_true rfl⟩) | (simp; done) | (simp; omega)) ?_
          | refine e_pickG rfl rfl (by first | exact pickV_or _ _ | exact pickV_and _ _ | rfl) (by first | exact True.intro | exact fun h => h) (by intro h; first | exact True.intro | (intro h2; first | (rw [h2]; rfl) | simp_all)) (by intro h; first | exact True.intro | (intro h2; first | (rw [h2]; rfl) | simp_all)) ?_))
      refine w_cond rfl (fun hc => ?_) (fun hc => ?_)
      · have hm : missB t l k u = true := by rw [missB_form]; exact hc
        repeat (first
          | (refine aw_seq_k fun K hK => ?_)
          | (refine xt_n ?_)
          | (refine xt_r ?_)
          | (refine xt_x ?_)
          | (refine xb_n ?_)
          | (refine xb_r ?_)
          | (refine xb_same ?_)
          | (refine xb_ne rfl ?_)
          | (refine aw_block ?_)
          | (refine aw_ret ?_)
          | (refine aw_exit ?_)
          | (refine aw_skip ?_)
          | (refine aw_label ?_)
          | (refine hK _ ?_; clear hK; clear K)
          | (clear hK; clear K; refine hK _ ?_; clear hK; clear K)
          | (clear hK; clear K; clear hK; clear K; refine hK _ ?_; clear hK; clear K)
          | (clear hK; clear K; clear hK; clear K; clear hK; clear K; refine hK _ ?_; clear hK; clear K)
          | (clear hK; clear K; clear hK; clear K; clear hK; clear K; clear hK; clear K; refine hK _ ?_; clear hK; clear K)
          | (first | refine w_region (by kernel_rfl) (by conv => { lhs; whnf }) ?_ | refine w_regionD (by kernel_rfl) (by conv => { lhs; whnf }) ?_)
          | refine aops_nil ⟨by kernel_rfl, ?_⟩
          | refine aops_nil ?_
          | (first
            | refine e_val hTT false [] rfl rfl rfl rfl rfl (by conv => { lhs; whnf; try dsimp only [List.take, List.drop, List.set, setCells, splice, List.append_eq, List.nil_append, List.cons_append, List.append_nil, List.length_cons, List.length_nil, Nat.zero_add, Nat.add_zero] }) (by conv => { lhs; dsimp only [keysP, List.map] }) (by first | exact True.intro | omega | (simp only [inR]; omega) | exact Nat.le_of_ble_eq_true rfl | (refine ⟨by omega, Nat.le_of_ble_eq_true rfl⟩) | (simp; done) | (simp; omega)) ?_
            | refine e_pick rfl (by first | exact True.intro | (intro h; first | (rw [h]; rfl) | simpa using h)) (by first | exact True.intro | (intro h; first | (rw [h]; rfl) | simpa using h)) (by first | exact pickV_or _ _ | exact pickV_and _ _ | rfl) ?_
            | refine e_grd hTT false [] 1 rfl rfl rfl rfl rfl (by conv => { lhs; whnf; try dsimp only [List.take, List.drop, List.set, setCells, splice, List.append_eq, List.nil_append, List.cons_append, List.append_nil, List.length_cons, List.length_nil, Nat.zero_add, Nat.add_zero] }) (by conv => { lhs; dsimp only [keysP, List.map] }) (by intro hg; first | exact True.intro | exact Nat.le_of_ble_eq_true rfl | (simp at hg; first | omega | (simp only [inR]; omega) | (simp; omega))) ?_
            | refine e_grd hTT false [] 0 rfl rfl rfl rfl rfl (by conv => { lhs; whnf; try dsimp only [List.take, List.drop, List.set, setCells, splice, List.append_eq, List.nil_append, List.cons_append, List.append_nil, List.length_cons, List.length_nil, Nat.zero_add, Nat.add_zero] }) (by conv => { lhs; dsimp only [keysP, List.map] }) (by intro hg; first | exact True.intro | exact Nat.le_of_ble_eq_true rfl | (simp at hg; first | omega | (simp only [inR]; omega) | (simp; omega))) ?_
            | refine e_grd hTT false [] 2 rfl rfl rfl rfl rfl (by conv => { lhs; whnf; try dsimp only [List.take, List.drop, List.set, setCells, splice, List.append_eq, List.nil_append, List.cons_append, List.append_nil, List.length_cons, List.length_nil, Nat.zero_add, Nat.add_zero] }) (by conv => { lhs; dsimp only [keysP, List.map] }) (by intro hg; first | exact True.intro | exact Nat.le_of_ble_eq_true rfl | (simp at hg; first | omega | (simp only [inR]; omega) | (simp; omega))) ?_
            | refine e_store hTT false [] rfl rfl rfl rfl rfl (by conv => { lhs; whnf }) (by conv => { lhs; try dsimp only [List.take, List.drop, List.set, setCells, splice, List.append_eq, List.nil_append, List.cons_append, List.append_nil, List.length_cons, List.length_nil, Nat.zero_add, Nat.add_zero] }) (by conv => { lhs; dsimp only [keysP, List.map] }) (by first | exact True.intro | omega | (simp only [inR]; omega) | exact Nat.le_of_ble_eq_true rfl | (refine ⟨by omega, Nat.le_of_ble_eq_true rfl⟩) | (simp; done) | (simp; omega)) ?_
            | refine e_new hTT false [] rfl rfl rfl rfl rfl (by conv => { lhs; whnf; try dsimp only [List.take, List.drop, List.set, setCells, splice, List.append_eq, List.nil_append, List.cons_append, List.append_nil, List.length_cons, List.length_nil, Nat.zero_add, Nat.add_zero] }) (by conv => { lhs; whnf }) (by conv => { lhs; try dsimp only [List.take, List.drop, List.set, setCells, splice, List.append_eq, List.nil_append, List.cons_append, List.append_nil, List.length_cons, List.length_nil, Nat.zero_add, Nat.add_zero] }) (by conv => { lhs; dsimp only [keysP, List.map] }) (by first | exact True.intro | omega | (simp only [inR]; omega) | exact Nat.le_of_ble_eq_true rfl | (refine ⟨by omega, Nat.le_of_ble_eq_true rfl⟩) | (simp; done) | (simp; omega)) ?_
            | refine e_two hTT false [] rfl rfl rfl rfl rfl (by conv => { lhs; whnf; try dsimp only [List.take, List.drop, List.set, setCells, splice, List.append_eq, List.nil_append, List.cons_append, List.append_nil, List.length_cons, List.length_nil, Nat.zero_add, Nat.add_zero] }) (by conv => { lhs; whnf }) (by conv => { lhs; try dsimp only [List.take, List.drop, List.set, setCells, splice, List.append_eq, List.nil_append, List.cons_append, List.append_nil, List.length_cons, List.length_nil, Nat.zero_add, Nat.add_zero] }) (by conv => { lhs; whnf }) (by conv => { lhs; try dsimp only [List.take, List.drop, List.set, setCells, splice, List.append_eq, List.nil_append, List.cons_append, List.append_nil, List.length_cons, List.length_nil, Nat.zero_add, Nat.add_zero] }) (by conv => { lhs; dsimp only [keysP, List.map] }) (by first | exact True.intro | omega | (simp only [inR]; omega) | exact Nat.le_of_ble_eq_true rfl | (refine ⟨by omega, Nat.le_of_ble_eq_true rfl⟩) | (simp; done) | (simp; omega)) ?_
            | refine e_pickG rfl rfl (by first | exact pickV_or _ _ | exact pickV_and _ _ | rfl) (by first | exact True.intro | exact fun h => h) (by intro h; first | exact True.intro | (intro h2; first | (rw [h2]; rfl) | simp_all)) (by intro h; first | exact True.intro | (intro h2; first | (rw [h2]; rfl) | simp_all)) ?_))
        rw [missI_some h hul hm hbad hrow]
        refine ret_pure (.inr rfl) rfl rfl rfl
      · have hm : missB t l k u = false := by rw [missB_form]; exact hc
        repeat (first
          | (refine aw_seq_k fun K hK => ?_)
          | (refine xt_n ?_)
          | (refine xt_r ?_)
          | (refine xt_x ?_)
          | (refine xb_n ?_)
          | (refine xb_r ?_)
          | (refine xb_same ?_)
          | (refine xb_ne rfl ?_)
          | (refine aw_block ?_)
          | (refine aw_ret ?_)
          | (refine aw_exit ?_)
          | (refine aw_skip ?_)
          | (refine aw_label ?_)
          | (refine hK _ ?_; clear hK; clear K)
          | (clear hK; clear K; refine hK _ ?_; clear hK; clear K)
          | (clear hK; clear K; clear hK; clear K; refine hK _ ?_; clear hK; clear K)
          | (clear hK; clear K; clear hK; clear K; clear hK; clear K; refine hK _ ?_; clear hK; clear K)
          | (clear hK; clear K; clear hK; clear K; clear hK; clear K; clear hK; clear K; refine hK _ ?_; clear hK; clear K)
          | (first | refine w_region (by kernel_rfl) (by conv => { lhs; whnf }) ?_ | refine w_regionD (by kernel_rfl) (by conv => { lhs; whnf }) ?_)
          | refine aops_nil ⟨by kernel_rfl, ?_⟩
          | refine aops_nil ?_
          | (first
            | refine e_val hTT false [] rfl rfl rfl rfl rfl (by conv => { lhs; whnf; try dsimp only [List.take, List.drop, List.set, setCells, splice, List.append_eq, List.nil_append, List.cons_append, List.append_nil, List.length_cons, List.length_nil, Nat.zero_add, Nat.add_zero] }) (by conv => { lhs; dsimp only [keysP, List.map] }) (by first | exact True.intro | omega | (simp only [inR]; omega) | exact Nat.le_of_ble_eq_true rfl | (refine ⟨by omega, Nat.le_of_ble_eq_true rfl⟩) | (simp; done) | (simp; omega)) ?_
            | refine e_pick rfl (by first | exact True.intro | (intro h; first | (rw [h]; rfl) | simpa using h)) (by first | exact True.intro | (intro h; first | (rw [h]; rfl) | simpa using h)) (by first | exact pickV_or _ _ | exact pickV_and _ _ | rfl) ?_
            | refine e_grd hTT false [] 1 rfl rfl rfl rfl rfl (by conv => { lhs; whnf; try dsimp only [List.take, List.drop, List.set, setCells, splice, List.append_eq, List.nil_append, List.cons_append, List.append_nil, List.length_cons, List.length_nil, Nat.zero_add, Nat.add_zero] }) (by conv => { lhs; dsimp only [keysP, List.map] }) (by intro hg; first | exact True.intro | exact Nat.le_of_ble_eq_true rfl | (simp at hg; first | omega | (simp only [inR]; omega) | (simp; omega))) ?_
            | refine e_grd hTT false [] 0 rfl rfl rfl rfl rfl (by conv => { lhs; whnf; try dsimp only [List.take, List.drop, List.set, setCells, splice, List.append_eq, List.nil_append, List.cons_append, List.append_nil, List.length_cons, List.length_nil, Nat.zero_add, Nat.add_zero] }) (by conv => { lhs; dsimp only [keysP, List.map] }) (by intro hg; first | exact True.intro | exact Nat.le_of_ble_eq_true rfl | (simp at hg; first | omega | (simp only [inR]; omega) | (simp; omega))) ?_
            | refine e_grd hTT false [] 2 rfl rfl rfl rfl rfl (by conv => { lhs; whnf; try dsimp only [List.take, List.drop, List.set, setCells, splice, List.append_eq, List.nil_append, List.cons_append, List.append_nil, List.length_cons, List.length_nil, Nat.zero_add, Nat.add_zero] }) (by conv => { lhs; dsimp only [keysP, List.map] }) (by intro hg; first | exact True.intro | exact Nat.le_of_ble_eq_true rfl | (simp at hg; first | omega | (simp only [inR]; omega) | (simp; omega))) ?_
            | refine e_store hTT false [] rfl rfl rfl rfl rfl (by conv => { lhs; whnf }) (by conv => { lhs; try dsimp only [List.take, List.drop, List.set, setCells, splice, List.append_eq, List.nil_append, List.cons_append, List.append_nil, List.length_cons, List.length_nil, Nat.zero_add, Nat.add_zero] }) (by conv => { lhs; dsimp only [keysP, List.map] }) (by first | exact True.intro | omega | (simp only [inR]; omega) | exact Nat.le_of_ble_eq_true rfl | (refine ⟨by omega, Nat.le_of_ble_eq_true rfl⟩) | (simp; done) | (simp; omega)) ?_
            | refine e_new hTT false [] rfl rfl rfl rfl rfl (by conv => { lhs; whnf; try dsimp only [List.take, List.drop, List.set, setCells, splice, List.append_eq, List.nil_append, List.cons_append, List.append_nil, List.length_cons, List.length_nil, Nat.zero_add, Nat.add_zero] }) (by conv => { lhs; whnf }) (by conv => { lhs; try dsimp only [List.take, List.drop, List.set, setCells, splice, List.append_eq, List.nil_append, List.cons_append, List.append_nil, List.length_cons, List.length_nil, Nat.zero_add, Nat.add_zero] }) (by conv => { lhs; dsimp only [keysP, List.map] }) (by first | exact True.intro | omega | (simp only [inR]; omega) | exact Nat.le_of_ble_eq_true rfl | (refine ⟨by omega, Nat.le_of_ble_eq_true rfl⟩) | (simp; done) | (simp; omega)) ?_
            | refine e_two hTT false [] rfl rfl rfl rfl rfl (by conv => { lhs; whnf; try dsimp only [List.take, List.drop, List.set, setCells, splice, List.append_eq, List.nil_append, List.cons_append, List.append_nil, List.length_cons, List.length_nil, Nat.zero_add, Nat.add_zero] }) (by conv => { lhs; whnf }) (by conv => { lhs; try dsimp only [List.take, List.drop, List.set, setCells, splice, List.append_eq, List.nil_append, List.cons_append, List.append_nil, List.length_cons, List.length_nil, Nat.zero_add, Nat.add_zero] }) (by conv => { lhs; whnf }) (by conv => { lhs; try dsimp only [List.take, List.drop, List.set, setCells, splice, List.append_eq, List.nil_append, List.cons_append, List.append_nil, List.length_cons, List.length_nil, Nat.zero_add, Nat.add_zero] }) (by conv => { lhs; dsimp only [keysP, List.map] }) (by first | exact True.intro | omega | (simp only [inR]; omega) | exact Nat.le_of_ble_eq_true rfl | (refine ⟨by omega, Nat.le_of_ble_eq_true rfl⟩) | (simp; done) | (simp; omega)) ?_
            | refine e_pickG rfl rfl (by first | exact pickV_or _ _ | exact pickV_and _ _ | rfl) (by first | exact True.intro | exact fun h => h) (by intro h; first | exact True.intro | (intro h2; first | (rw [h2]; rfl) | simp_all)) (by intro h; first | exact True.intro | (intro h2; first | (rw [h2]; rfl) | simp_all)) ?_))
        refine ⟨u + 1, ⟨by omega, fun j hj => ?_⟩, le_ren [] (.cons rfl (.cons rfl (.cons rfl (.cons rfl .nil)))) .nil rfl rfl, by omega⟩
        by_cases he : j = u
        · subst he; exact hm
        · exact hbad j (by omega)
    · simp at hul
      have hr : missRow t l k = none := find_none fun j hj => hbad j (by omega)
      repeat (first
        | (refine aw_seq_k fun K hK => ?_)
        | (refine xt_n ?_)
        | (refine xt_r ?_)
        | (refine xt_x ?_)
        | (refine xb_n ?_)
        | (refine xb_r ?_)
        | (refine xb_same ?_)
        | (refine xb_ne rfl ?_)
        | (refine aw_block ?_)
        | (refine aw_ret ?_)
        | (refine aw_exit ?_)
        | (refine aw_skip ?_)
        | (refine aw_label ?_)
        | (refine hK _ ?_; clear hK; clear K)
        | (clear hK; clear K; refine hK _ ?_; clear hK; clear K)
        | (clear hK; clear K; clear hK; clear K; refine hK _ ?_; clear hK; clear K)
        | (clear hK; clear K; clear hK; clear K; clear hK; clear K; refine hK _ ?_; clear hK; clear K)
        | (clear hK; clear K; clear hK; clear K; clear hK; clear K; clear hK; clear K; refine hK _ ?_; clear hK; clear K)
        | (first | refine w_region (by kernel_rfl) (by conv => { lhs; whnf }) ?_ | refine w_regionD (by kernel_rfl) (by conv => { lhs; whnf }) ?_)
        | refine aops_nil ⟨by kernel_rfl, ?_⟩
        | refine aops_nil ?_
        | (first
          | refine e_val hTT false [] rfl rfl rfl rfl rfl (by conv => { lhs; whnf; try dsimp only [List.take, List.drop, List.set, setCells, splice, List.append_eq, List.nil_append, List.cons_append, List.append_nil, List.length_cons, List.length_nil, Nat.zero_add, Nat.add_zero] }) (by conv => { lhs; dsimp only [keysP, List.map] }) (by first | exact True.intro | omega | (simp only [inR]; omega) | exact Nat.le_of_ble_eq_true rfl | (refine ⟨by omega, Nat.le_of_ble_eq_true rfl⟩) | (simp; done) | (simp; omega)) ?_
          | refine e_pick rfl (by first | exact True.intro | (intro h; first | (rw [h]; rfl) | simpa using h)) (by first | exact True.intro | (intro h; first | (rw [h]; rfl) | simpa using h)) (by first | exact pickV_or _ _ | exact pickV_and _ _ | rfl) ?_
          | refine e_grd hTT false [] 1 rfl rfl rfl rfl rfl (by conv => { lhs; whnf; try dsimp only [List.take, List.drop, List.set, setCells, splice, List.append_eq, List.nil_append, List.cons_append, List.append_nil, List.length_cons, List.length_nil, Nat.zero_add, Nat.add_zero] }) (by conv => { lhs; dsimp only [keysP, List.map] }) (by intro hg; first | exact True.intro | exact Nat.le_of_ble_eq_true rfl | (simp at hg; first | omega | (simp only [inR]; omega) | (simp; omega))) ?_
          | refine e_grd hTT false [] 0 rfl rfl rfl rfl rfl (by conv => { lhs; whnf; try dsimp only [List.take, List.drop, List.set, setCells, splice, List.append_eq, List.nil_append, List.cons_append, List.append_nil, List.length_cons, List.length_nil, Nat.zero_add, Nat.add_zero] }) (by conv => { lhs; dsimp only [keysP, List.map] }) (by intro hg; first | exact True.intro | exact Nat.le_of_ble_eq_true rfl | (simp at hg; first | omega | (simp only [inR]; omega) | (simp; omega))) ?_
          | refine e_grd hTT false [] 2 rfl rfl rfl rfl rfl (by conv => { lhs; whnf; try dsimp only [List.take, List.drop, List.set, setCells, splice, List.append_eq, List.nil_append, List.cons_append, List.append_nil, List.length_cons, List.length_nil, Nat.zero_add, Nat.add_zero] }) (by conv => { lhs; dsimp only [keysP, List.map] }) (by intro hg; first | exact True.intro | exact Nat.le_of_ble_eq_true rfl | (simp at hg; first | omega | (simp only [inR]; omega) | (simp; omega))) ?_
          | refine e_store hTT false [] rfl rfl rfl rfl rfl (by conv => { lhs; whnf }) (by conv => { lhs; try dsimp only [List.take, List.drop, List.set, setCells, splice, List.append_eq, List.nil_append, List.cons_append, List.append_nil, List.length_cons, List.length_nil, Nat.zero_add, Nat.add_zero] }) (by conv => { lhs; dsimp only [keysP, List.map] }) (by first | exact True.intro | omega | (simp only [inR]; omega) | exact Nat.le_of_ble_eq_true rfl | (refine ⟨by omega, Nat.le_of_ble_eq_true rfl⟩) | (simp; done) | (simp; omega)) ?_
          | refine e_new hTT false [] rfl rfl rfl rfl rfl (by conv => { lhs; whnf; try dsimp only [List.take, List.drop, List.set, setCells, splice, List.append_eq, List.nil_append, List.cons_append, List.append_nil, List.length_cons, List.length_nil, Nat.zero_add, Nat.add_zero] }) (by conv => { lhs; whnf }) (by conv => { lhs; try dsimp only [List.take, List.drop, List.set, setCells, splice, List.append_eq, List.nil_append, List.cons_append, List.append_nil, List.length_cons, List.length_nil, Nat.zero_add, Nat.add_zero] }) (by conv => { lhs; dsimp only [keysP, List.map] }) (by first | exact True.intro | omega | (simp only [inR]; omega) | exact Nat.le_of_ble_eq_true rfl | (refine ⟨by omega, Nat.le_of_ble_eq_true rfl⟩) | (simp; done) | (simp; omega)) ?_
          | refine e_two hTT false [] rfl rfl rfl rfl rfl (by conv => { lhs; whnf; try dsimp only [List.take, List.drop, List.set, setCells, splice, List.append_eq, List.nil_append, List.cons_append, List.append_nil, List.length_cons, List.length_nil, Nat.zero_add, Nat.add_zero] }) (by conv => { lhs; whnf }) (by conv => { lhs; try dsimp only [List.take, List.drop, List.set, setCells, splice, List.append_eq, List.nil_append, List.cons_append, List.append_nil, List.length_cons, List.length_nil, Nat.zero_add, Nat.add_zero] }) (by conv => { lhs; whnf }) (by conv => { lhs; try dsimp only [List.take, List.drop, List.set, setCells, splice, List.append_eq, List.nil_append, List.cons_append, List.append_nil, List.length_cons, List.length_nil, Nat.zero_add, Nat.add_zero] }) (by conv => { lhs; dsimp only [keysP, List.map] }) (by first | exact True.intro | omega | (simp only [inR]; omega) | exact Nat.le_of_ble_eq_true rfl | (refine ⟨by omega, Nat.le_of_ble_eq_true rfl⟩) | (simp; done) | (simp; omega)) ?_
          | refine e_pickG rfl rfl (by first | exact pickV_or _ _ | exact pickV_and _ _ | rfl) (by first | exact True.intro | exact fun h => h) (by intro h; first | exact True.intro | (intro h2; first | (rw [h2]; rfl) | simp_all)) (by intro h; first | exact True.intro | (intro h2; first | (rw [h2]; rfl) | simp_all)) ?_))
      refine ⟨k + 1, ⟨by omega, fun i hi => ?_⟩, le_ren [] (.cons rfl (.cons rfl (.cons rfl .nil))) .nil rfl rfl, by omega⟩
      by_cases he : i = k
      · subst he; exact hr
      · exact hrow i (by omega)
  · simp at h
    repeat (first
      | (refine aw_seq_k fun K hK => ?_)
      | (refine xt_n ?_)
      | (refine xt_r ?_)
      | (refine xt_x ?_)
      | (refine xb_n ?_)
      | (refine xb_r ?_)
      | (refine xb_same ?_)
      | (refine xb_ne rfl ?_)
      | (refine aw_block ?_)
      | (refine aw_ret ?_)
      | (refine aw_exit ?_)
      | (refine aw_skip ?_)
      | (refine aw_label ?_)
      | (refine hK _ ?_; clear hK; clear K)
      | (clear hK; clear K; refine hK _ ?_; clear hK; clear K)
      | (clear hK; clear K; clear hK; clear K; refine hK _ ?_; clear hK; clear K)
      | (clear hK; clear K; clear hK; clear K; clear hK; clear K; refine hK _ ?_; clear hK; clear K)
      | (clear hK; clear K; clear hK; clear K; clear hK; clear K; clear hK; clear K; refine hK _ ?_; clear hK; clear K)
      | (first | refine w_region (by kernel_rfl) (by conv => { lhs; whnf }) ?_ | refine w_regionD (by kernel_rfl) (by conv => { lhs; whnf }) ?_)
      | refine aops_nil ⟨by kernel_rfl, ?_⟩
      | refine aops_nil ?_
      | (first
        | refine e_val hTT false [] rfl rfl rfl rfl rfl (by conv => { lhs; whnf; try dsimp only [List.take, List.drop, List.set, setCells, splice, List.append_eq, List.nil_append, List.cons_append, List.append_nil, List.length_cons, List.length_nil, Nat.zero_add, Nat.add_zero] }) (by conv => { lhs; dsimp only [keysP, List.map] }) (by first | exact True.intro | omega | (simp only [inR]; omega) | exact Nat.le_of_ble_eq_true rfl | (refine ⟨by omega, Nat.le_of_ble_eq_true rfl⟩) | (simp; done) | (simp; omega)) ?_
        | refine e_pick rfl (by first | exact True.intro | (intro h; first | (rw [h]; rfl) | simpa using h)) (by first | exact True.intro | (intro h; first | (rw [h]; rfl) | simpa using h)) (by first | exact pickV_or _ _ | exact pickV_and _ _ | rfl) ?_
        | refine e_grd hTT false [] 1 rfl rfl rfl rfl rfl (by conv => { lhs; whnf; try dsimp only [List.take, List.drop, List.set, setCells, splice, List.append_eq, List.nil_append, List.cons_append, List.append_nil, List.length_cons, List.length_nil, Nat.zero_add, Nat.add_zero] }) (by conv => { lhs; dsimp only [keysP, List.map] }) (by intro hg; first | exact True.intro | exact Nat.le_of_ble_eq_true rfl | (simp at hg; first | omega | (simp only [inR]; omega) | (simp; omega))) ?_
        | refine e_grd hTT false [] 0 rfl rfl rfl rfl rfl (by conv => { lhs; whnf; try dsimp only [List.take, List.drop, List.set, setCells, splice, List.append_eq, List.nil_append, List.cons_append, List.append_nil, List.length_cons, List.length_nil, Nat.zero_add, Nat.add_zero] }) (by conv => { lhs; dsimp only [keysP, List.map] }) (by intro hg; first | exact True.intro | exact Nat.le_of_ble_eq_true rfl | (simp at hg; first | omega | (simp only [inR]; omega) | (simp; omega))) ?_
        | refine e_grd hTT false [] 2 rfl rfl rfl rfl rfl (by conv => { lhs; whnf; try dsimp only [List.take, List.drop, List.set, setCells, splice, List.append_eq, List.nil_append, List.cons_append, List.append_nil, List.length_cons, List.length_nil, Nat.zero_add, Nat.add_zero] }) (by conv => { lhs; dsimp only [keysP, List.map] }) (by intro hg; first | exact True.intro | exact Nat.le_of_ble_eq_true rfl | (simp at hg; first | omega | (simp only [inR]; omega) | (simp; omega))) ?_
        | refine e_store hTT false [] rfl rfl rfl rfl rfl (by conv => { lhs; whnf }) (by conv => { lhs; try dsimp only [List.take, List.drop, List.set, setCells, splice, List.append_eq, List.nil_append, List.cons_append, List.append_nil, List.length_cons, List.length_nil, Nat.zero_add, Nat.add_zero] }) (by conv => { lhs; dsimp only [keysP, List.map] }) (by first | exact True.intro | omega | (simp only [inR]; omega) | exact Nat.le_of_ble_eq_true rfl | (refine ⟨by omega, Nat.le_of_ble_eq_true rfl⟩) | (simp; done) | (simp; omega)) ?_
        | refine e_new hTT false [] rfl rfl rfl rfl rfl (by conv => { lhs; whnf; try dsimp only [List.take, List.drop, List.set, setCells, splice, List.append_eq, List.nil_append, List.cons_append, List.append_nil, List.length_cons, List.length_nil, Nat.zero_add, Nat.add_zero] }) (by conv => { lhs; whnf }) (by conv => { lhs; try dsimp only [List.take, List.drop, List.set, setCells, splice, List.append_eq, List.nil_append, List.cons_append, List.append_nil, List.length_cons, List.length_nil, Nat.zero_add, Nat.add_zero] }) (by conv => { lhs; dsimp only [keysP, List.map] }) (by first | exact True.intro | omega | (simp only [inR]; omega) | exact Nat.le_of_ble_eq_true rfl | (refine ⟨by omega, Nat.le_of_ble_eq_true rfl⟩) | (simp; done) | (simp; omega)) ?_
        | refine e_two hTT false [] rfl rfl rfl rfl rfl (by conv => { lhs; whnf; try dsimp only [List.take, List.drop, List.set, setCells, splice, List.append_eq, List.nil_append, List.cons_append, List.append_nil, List.length_cons, List.length_nil, Nat.zero_add, Nat.add_zero] }) (by conv => { lhs; whnf }) (by conv => { lhs; try dsimp only [List.take, List.drop, List.set, setCells, splice, List.append_eq, List.nil_append, List.cons_append, List.append_nil, List.length_cons, List.length_nil, Nat.zero_add, Nat.add_zero] }) (by conv => { lhs; whnf }) (by conv => { lhs; try dsimp only [List.take, List.drop, List.set, setCells, splice, List.append_eq, List.nil_append, List.cons_append, List.append_nil, List.length_cons, List.length_nil, Nat.zero_add, Nat.add_zero] }) (by conv => { lhs; dsimp only [keysP, List.map] }) (by first | exact True.intro | omega | (simp only [inR]; omega) | exact Nat.le_of_ble_eq_true rfl | (refine ⟨by omega, Nat.le_of_ble_eq_true rfl⟩) | (simp; done) | (simp; omega)) ?_
        | refine e_pickG rfl rfl (by first | exact pickV_or _ _ | exact pickV_and _ _ | rfl) (by first | exact True.intro | exact fun h => h) (by intro h; first | exact True.intro | (intro h2; first | (rw [h2]; rfl) | simp_all)) (by intro h; first | exact True.intro | (intro h2; first | (rw [h2]; rfl) | simp_all)) ?_))
    rw [missI_none fun j hj => hrow j (by omega)]
    refine ret_pure (.inr rfl) rfl rfl rfl

/-- what Miss returns -/
def missO (t : List Int) (l : List Pt) : Int × Int × Int := if checkBoth t l = 0 then missI t l else (0, 0, checkBoth t l)
set_option maxRecDepth 100000 in
theorem Miss_ac (t : List Int) (l : List Pt) (ht : t.length ≤ 4611686018427387904) (hl : l.length ≤ 4611686018427387904) : AC Try.prog 35 [.agg [V.ints t], V.pts l] (.tup [.i (missO t l).1, .i (missO t l).2.1, .i (missO t l).2.2]) [] := by
  refine ac_intro hTT hMX (fn := Try.f35) (N := _) ⟨Try.func35, rfl, Try.ntmps35, by kernel_rfl⟩ (by simp) fun C hC hF => ?_
  repeat (first
    | (refine aw_seq_k fun K hK => ?_)
    | (refine xt_n ?_)
    | (refine xt_r ?_)
    | (refine xt_x ?_)
    | (refine xb_n ?_)
    | (refine xb_r ?_)
    | (refine xb_same ?_)
    | (refine xb_ne rfl ?_)
    | (refine aw_block ?_)
    | (refine aw_ret ?_)
    | (refine aw_exit ?_)
    | (refine aw_skip ?_)
    | (refine aw_label ?_)
    | (refine hK _ ?_; clear hK; clear K)
    | (clear hK; clear K; refine hK _ ?_; clear hK; clear K)
    | (clear hK; clear K; clear hK; clear K; refine hK _ ?_; clear hK; clear K)
    | (clear hK; clear K; clear hK; clear K; clear hK; clear K; refine hK _ ?_; clear hK; clear K)
    | (clear hK; clear K; clear hK; clear K; clear hK; clear K; clear hK; clear K; refine hK _ ?_; clear hK; clear K)
    | (first | refine w_region (by kernel_rfl) (by conv => { lhs; whnf }) ?_ | refine w_regionD (by kernel_rfl) (by conv => { lhs; whnf }) ?_)
    | refine aops_nil ⟨by kernel_rfl, ?_⟩
    | refine aops_nil ?_
    | (first
      | refine e_val hTT false [] rfl rfl rfl rfl rfl (by conv => { lhs; whnf; try dsimp only [List.take, List.drop, List.set, setCells, splice, List.append_eq, List.nil_append, List.cons_append, List.append_nil, List.length_cons, List.length_nil, Nat.zero_add, Nat.add_zero] }) (by conv => { lhs; dsimp only [keysP, List.map] }) (by first | exact True.intro | omega | (simp only [inR]; omega) | exact Nat.le_of_ble_eq_true rfl | (refine ⟨by omega, Nat.le_of_ble_eq_true rfl⟩) | (simp; done) | (simp; omega)) ?_
      | refine e_pick rfl (by first | exact True.intro | (intro h; first | (rw [h]; rfl) | simpa using h)) (by first | exact True.intro | (intro h; first | (rw [h]; rfl) | simpa using h)) (by first | exact pickV_or _ _ | exact pickV_and _ _ | rfl) ?_
      | refine e_grd hTT false [] 1 rfl rfl rfl rfl rfl (by conv => { lhs; whnf; try dsimp only [List.take, List.drop, List.set, setCells, splice, List.append_eq, List.nil_append, List.cons_append, List.append_nil, List.length_cons, List.length_nil, Nat.zero_add, Nat.add_zero] }) (by conv => { lhs; dsimp only [keysP, List.map] }) (by intro hg; first | exact True.intro | exact Nat.le_of_ble_eq_true rfl | (simp at hg; first | omega | (simp only [inR]; omega) | (simp; omega))) ?_
      | refine e_grd hTT false [] 0 rfl rfl rfl rfl rfl (by conv => { lhs; whnf; try dsimp only [List.take, List.drop, List.set, setCells, splice, List.append_eq, List.nil_append, List.cons_append, List.append_nil, List.length_cons, List.length_nil, Nat.zero_add, Nat.add_zero] }) (by conv => { lhs; dsimp only [keysP, List.map] }) (by intro hg; first | exact True.intro | exact Nat.le_of_ble_eq_true rfl | (simp at hg; first | omega | (simp only [inR]; omega) | (simp; omega))) ?_
      | refine e_grd hTT false [] 2 rfl rfl rfl rfl rfl (by conv => { lhs; whnf; try dsimp only [List.take, List.drop, List.set, setCells, splice, List.append_eq, List.nil_append, List.cons_append, List.append_nil, List.length_cons, List.length_nil, Nat.zero_add, Nat.add_zero] }) (by conv => { lhs; dsimp only [keysP, List.map] }) (by intro hg; first | exact True.intro | exact Nat.le_of_ble_eq_true rfl | (simp at hg; first | omega | (simp only [inR]; omega) | (simp; omega))) ?_
      | refine e_store hTT false [] rfl rfl rfl rfl rfl (by conv => { lhs; whnf }) (by conv => { lhs; try dsimp only [List.take, List.drop, List.set, setCells, splice, List.append_eq, List.nil_append, List.cons_append, List.append_nil, List.length_cons, List.length_nil, Nat.zero_add, Nat.add_zero] }) (by conv => { lhs; dsimp only [keysP, List.map] }) (by first | exact True.intro | omega | (simp only [inR]; omega) | exact Nat.le_of_ble_eq_true rfl | (refine ⟨by omega, Nat.le_of_ble_eq_true rfl⟩) | (simp; done) | (simp; omega)) ?_
      | refine e_new hTT false [] rfl rfl rfl rfl rfl (by conv => { lhs; whnf; try dsimp only [List.take, List.drop, List.set, setCells, splice, List.append_eq, List.nil_append, List.cons_append, List.append_nil, List.length_cons, List.length_nil, Nat.zero_add, Nat.add_zero] }) (by conv => { lhs; whnf }) (by conv => { lhs; try dsimp only [List.take, List.drop, List.set, setCells, splice, List.append_eq, List.nil_append, List.cons_append, List.append_nil, List.length_cons, List.length_nil, Nat.zero_add, Nat.add_zero] }) (by conv => { lhs; dsimp only [keysP, List.map] }) (by first | exact True.intro | omega | (simp only [inR]; omega) | exact Nat.le_of_ble_eq_true rfl | (refine ⟨by omega, Nat.le_of_ble_eq_true rfl⟩) | (simp; done) | (simp; omega)) ?_
      | refine e_two hTT false [] rfl rfl rfl rfl rfl (by conv => { lhs; whnf; try dsimp only [List.take, List.drop, List.set, setCells, splice, List.append_eq, List.nil_append, List.cons_append, List.append_nil, List.length_cons, List.length_nil, Nat.zero_add, Nat.add_zero] }) (by conv => { lhs; whnf }) (by conv => { lhs; try dsimp only [List.take, List.drop, List.set, setCells, splice, List.append_eq, List.nil_append, List.cons_append, List.append_nil, List.length_cons, List.length_nil, Nat.zero_add, Nat.add_zero] }) (by conv => { lhs; whnf }) (by conv => { lhs; try dsimp only [List.take, List.drop, List.set, setCells, splice, List.append_eq, List.nil_append, List.cons_append, List.append_nil, List.length_cons, List.length_nil, Nat.zero_add, Nat.add_zero] }) (by conv => { lhs; dsimp only [keysP, List.map] }) (by first | exact True.intro | omega | (simp only [inR]; omega) | exact Nat.le_of_ble_eq_true rfl | (refine ⟨by omega, Nat.le_of_ble_eq_true rfl⟩) | (simp; done) | (simp; omega)) ?_
      | refine e_pickG rfl rfl (by first | exact pickV_or _ _ | exact pickV_and _ _ | rfl) (by first | exact True.intro | exact fun h => h) (by intro h; first | exact True.intro | (intro h2; first | (rw [h2]; rfl) | simp_all)) (by intro h; first | exact True.intro | (intro h2; first | (rw [h2]; rfl) | simp_all)) ?_))
  refine e_call (check_ac t l ht hl) rfl rfl rfl rfl rfl ?_
  repeat (first
    | (refine aw_seq_k fun K hK => ?_)
    | (refine xt_n ?_)
    | (refine xt_r ?_)
    | (refine xt_x ?_)
    | (refine xb_n ?_)
    | (refine xb_r ?_)
    | (refine xb_same ?_)
    | (refine xb_ne rfl ?_)
    | (refine aw_block ?_)
    | (refine aw_ret ?_)
    | (refine aw_exit ?_)
    | (refine aw_skip ?_)
    | (refine aw_label ?_)
    | (refine hK _ ?_; clear hK; clear K)
    | (clear hK; clear K; refine hK _ ?_; clear hK; clear K)
    | (clear hK; clear K; clear hK; clear K; refine hK _ ?_; clear hK; clear K)
    | (clear hK; clear K; clear hK; clear K; clear hK; clear K; refine hK _ ?_; clear hK; clear K)
    | (clear hK; clear K; clear hK; clear K; clear hK; clear K; clear hK; clear K; refine hK _ ?_; clear hK; clear K)
    | (first | refine w_region (by kernel_rfl) (by conv => { lhs; whnf }) ?_ | refine w_regionD (by kernel_rfl) (by conv => { lhs; whnf }) ?_)
    | refine aops_nil ⟨by kernel_rfl, ?_⟩
    | refine aops_nil ?_
    | (first
      | refine e_val hTT false [] rfl rfl rfl rfl rfl (by conv => { lhs; whnf; try dsimp only [List.take, List.drop, List.set, setCells, splice, List.append_eq, List.nil_append, List.cons_append, List.append_nil, List.length_cons, List.length_nil, Nat.zero_add, Nat.add_zero] }) (by conv => { lhs; dsimp only [keysP, List.map] }) (by first | exact True.intro | omega | (simp only [inR]; omega) | exact Nat.le_of_ble_eq_true rfl | (refine ⟨by omega, Nat.le_of_ble_eq_true rfl⟩) | (simp; done) | (simp; omega)) ?_
      | refine e_pick rfl (by first | exact True.intro | (intro h; first | (rw [h]; rfl) | simpa using h)) (by first | exact True.intro | (intro h; first | (rw [h]; rfl) | simpa using h)) (by first | exact pickV_or _ _ | exact pickV_and _ _ | rfl) ?_
      | refine e_grd hTT false [] 1 rfl rfl rfl rfl rfl (by conv => { lhs; whnf; try dsimp only [List.take, List.drop, List.set, setCells, splice, List.append_eq, List.nil_append, List.cons_append, List.append_nil, List.length_cons, List.length_nil, Nat.zero_add, Nat.add_zero] }) (by conv => { lhs; dsimp only [keysP, List.map] }) (by intro hg; first | exact True.intro | exact Nat.le_of_ble_eq_true rfl | (simp at hg; first | omega | (simp only [inR]; omega) | (simp; omega))) ?_
      | refine e_grd hTT false [] 0 rfl rfl rfl rfl rfl (by conv => { lhs; whnf; try dsimp only [List.take, List.drop, List.set, setCells, splice, List.append_eq, List.nil_append, List.cons_append, List.append_nil, List.length_cons, List.length_nil, Nat.zero_add, Nat.add_zero] }) (by conv => { lhs; dsimp only [keysP, List.map] }) (by intro hg; first | exact True.intro | exact Nat.le_of_ble_eq_true rfl | (simp at hg; first | omega | (simp only [inR]; omega) | (simp; omega))) ?_
      | refine e_grd hTT false [] 2 rfl rfl rfl rfl rfl (by conv => { lhs; whnf; try dsimp only [List.take, List.drop, List.set, setCells, splice, List.append_eq, List.nil_append, List.cons_append, List.append_nil, List.length_cons, List.length_nil, Nat.zero_add, Nat.add_zero] }) (by conv => { lhs; dsimp only [keysP, List.map] }) (by intro hg; first | exact True.intro | exact Nat.le_of_ble_eq_true rfl | (simp at hg; first | omega | (simp only [inR]; omega) | (simp; omega))) ?_
      | refine e_store hTT false [] rfl rfl rfl rfl rfl (by conv => { lhs; whnf }) (by conv => { lhs; try dsimp only [List.take, List.drop, List.set, setCells, splice, List.append_eq, List.nil_append, List.cons_append, List.append_nil, List.length_cons, List.length_nil, Nat.zero_add, Nat.add_zero] }) (by conv => { lhs; dsimp only [keysP, List.map] }) (by first | exact True.intro | omega | (simp only [inR]; omega) | exact Nat.le_of_ble_eq_true rfl | (refine ⟨by omega, Nat.le_of_ble_eq_true rfl⟩) | (simp; done) | (simp; omega)) ?_
      | refine e_new hTT false [] rfl rfl rfl rfl rfl (by conv => { lhs; whnf; try dsimp only [List.take, List.drop, List.set, setCells, splice, List.append_eq, List.nil_append, List.cons_append, List.append_nil, List.length_cons, List.length_nil, Nat.zero_add, Nat.add_zero] }) (by conv => { lhs; whnf }) (by conv => { lhs; try dsimp only [List.take, List.drop, List.set, setCells, splice, List.append_eq, List.nil_append, List.cons_append, List.append_nil, List.length_cons, List.length_nil, Nat.zero_add, Nat.add_zero] }) (by conv => { lhs; dsimp only [keysP, List.map] }) (by first | exact True.intro | omega | (simp only [inR]; omega) | exact Nat.le_of_ble_eq_true rfl | (refine ⟨by omega, Nat.le_of_ble_eq_true rfl⟩) | (simp; done) | (simp; omega)) ?_
      | refine e_two hTT false [] rfl rfl rfl rfl rfl (by conv => { lhs; whnf; try dsimp only [List.take, List.drop, List.set, setCells, splice, List.append_eq, List.nil_append, List.cons_append, List.append_nil, List.length_cons, List.length_nil, Nat.zero_add, Nat.add_zero] }) (by conv => { lhs; whnf }) (by conv => { lhs; try dsimp only [List.take, List.drop, List.set, setCells, splice, List.append_eq, List.nil_append, List.cons_append, List.append_nil, List.length_cons, List.length_nil, Nat.zero_add, Nat.add_zero] }) (by conv => { lhs; whnf }) (by conv => { lhs; try dsimp only [List.take, List.drop, List.set, setCells, splice, List.append_eq, List.nil_append, List.cons_append, List.append_nil, List.length_cons, List.length_nil, Nat.zero_add, Nat.add_zero] }) (by conv => { lhs; dsimp only [keysP, List.map] }) (by first | exact True.intro | omega | (simp only [inR]; omega) | exact Nat.le_of_ble_eq_true rfl | (refine ⟨by omega, Nat.le_of_ble_eq_true rfl⟩) | (simp; done) | (simp; omega)) ?_
      | refine e_pickG rfl rfl (by first | exact pickV_or _ _ | exact pickV_and _ _ | rfl) (by first | exact True.intro | exact fun h => h) (by intro h; first | exact True.intro | (intro h2; first | (rw [h2]; rfl) | simp_all)) (by intro h; first | exact True.intro | (intro h2; first | (rw [h2]; rfl) | simp_all)) ?_))
  refine w_cond rfl (fun h => ?_) (fun h => ?_)
  · simp at h
    repeat (first
      | (refine aw_seq_k fun K hK => ?_)
      | (refine xt_n ?_)
      | (refine xt_r ?_)
      | (refine xt_x ?_)
      | (refine xb_n ?_)
      | (refine xb_r ?_)
      | (refine xb_same ?_)
      | (refine xb_ne rfl ?_)
      | (refine aw_block ?_)
      | (refine aw_ret ?_)
      | (refine aw_exit ?_)
      | (refine aw_skip ?_)
      | (refine aw_label ?_)
      | (refine hK _ ?_; clear hK; clear K)
      | (clear hK; clear K; refine hK _ ?_; clear hK; clear K)
      | (clear hK; clear K; clear hK; clear K; refine hK _ ?_; clear hK; clear K)
      | (clear hK; clear K; clear hK; clear K; clear hK; clear K; refine hK _ ?_; clear hK; clear K)
      | (clear hK; clear K; clear hK; clear K; clear hK; clear K; clear hK; clear K; refine hK _ ?_; clear hK; clear K)
      | (first | refine w_region (by kernel_rfl) (by conv => { lhs; whnf }) ?_ | refine w_regionD (by kernel_rfl) (by conv => { lhs; whnf }) ?_)
      | refine aops_nil ⟨by kernel_rfl, ?_⟩
      | refine aops_nil ?_
      | (first
        | refine e_val hTT false [] rfl rfl rfl rfl rfl (by conv => { lhs; whnf; try dsimp only [List.take, List.drop, List.set, setCells, splice, List.append_eq, List.nil_append, List.cons_append, List.append_nil, List.length_cons, List.length_nil, Nat.zero_add, Nat.add_zero] }) (by conv => { lhs; dsimp only [keysP, List.map] }) (by first | exact True.intro | omega | (simp only [inR]; omega) | exact Nat.le_of_ble_eq_true rfl | (refine ⟨by omega, Nat.le_of_ble_eq_true rfl⟩) | (simp; done) | (simp; omega)) ?_
        | refine e_pick rfl (by first | exact True.intro | (intro h; first | (rw [h]; rfl) | simpa using h)) (by first | exact True.intro | (intro h; first | (rw [h]; rfl) | simpa using h)) (by first | exact pickV_or _ _ | exact pickV_and _ _ | rfl) ?_
        | refine e_grd hTT false [] 1 rfl rfl rfl rfl rfl (by conv => { lhs; whnf; try dsimp only [List.take, List.drop, List.set, setCells, splice, List.append_eq, List.nil_append, List.cons_append, List.append_nil, List.length_cons, List.length_nil, Nat.zero_add, Nat.add_zero] }) (by conv => { lhs; dsimp only [keysP, List.map] }) (by intro hg; first | exact True.intro | exact Nat.le_of_ble_eq_true rfl | (simp at hg; first | omega | (simp only [inR]; omega) | (simp; omega))) ?_
        | refine e_grd hTT false [] 0 rfl rfl rfl rfl rfl (by conv => { lhs; whnf; try dsimp only [List.take, List.drop, List.set, setCells, splice, List.append_eq, List.nil_append, List.cons_append, List.append_nil, List.length_cons, List.length_nil, Nat.zero_add, Nat.add_zero] }) (by conv => { lhs; dsimp only [keysP, List.map] }) (by intro hg; first | exact True.intro | exact Nat.le_of_ble_eq_true rfl | (simp at hg; first | omega | (simp only [inR]; omega) | (simp; omega))) ?_
        | refine e_grd hTT false [] 2 rfl rfl rfl rfl rfl (by conv => { lhs; whnf; try dsimp only [List.take, List.drop, List.set, setCells, splice, List.append_eq, List.nil_append, List.cons_append, List.append_nil, List.length_cons, List.length_nil, Nat.zero_add, Nat.add_zero] }) (by conv => { lhs; dsimp only [keysP, List.map] }) (by intro hg; first | exact True.intro | exact Nat.le_of_ble_eq_true rfl | (simp at hg; first | omega | (simp only [inR]; omega) | (simp; omega))) ?_
        | refine e_store hTT false [] rfl rfl rfl rfl rfl (by conv => { lhs; whnf }) (by conv => { lhs; try dsimp only [List.take, List.drop, List.set, setCells, splice, List.append_eq, List.nil_append, List.cons_append, List.append_nil, List.length_cons, List.length_nil, Nat.zero_add, Nat.add_zero] }) (by conv => { lhs; dsimp only [keysP, List.map] }) (by first | exact True.intro | omega | (simp only [inR]; omega) | exact Nat.le_of_ble_eq_true rfl | (refine ⟨by omega, Nat.le_of_ble_eq_true rfl⟩) | (simp; done) | (simp; omega)) ?_
        | refine e_new hTT false [] rfl rfl rfl rfl rfl (by conv => { lhs; whnf; try dsimp only [List.take, List.drop, List.set, setCells, splice, List.append_eq, List.nil_append, List.cons_append, List.append_nil, List.length_cons, List.length_nil, Nat.zero_add, Nat.add_zero] }) (by conv => { lhs; whnf }) (by conv => { lhs; try dsimp only [List.take, List.drop, List.set, setCells, splice, List.append_eq, List.nil_append, List.cons_append, List.append_nil, List.length_cons, List.length_nil, Nat.zero_add, Nat.add_zero] }) (by conv => { lhs; dsimp only [keysP, List.map] }) (by first | exact True.intro | omega | (simp only [inR]; omega) | exact Nat.le_of_ble_eq_true rfl | (refine ⟨by omega, Nat.le_of_ble_eq_true rfl⟩) | (simp; done) | (simp; omega)) ?_
        | refine e_two hTT false [] rfl rfl rfl rfl rfl (by conv => { lhs; whnf; try dsimp only [List.take, List.drop, List.set, setCells, splice, List.append_eq, List.nil_append, List.cons_append, List.append_nil, List.length_cons, List.length_nil, Nat.zero_add, Nat.add_zero] }) (by conv => { lhs; whnf }) (by conv => { lhs; try dsimp only [List.take, List.drop, List.set, setCells, splice, List.append_eq, List.nil_append, List.cons_append, List.append_nil, List.length_cons, List.length_nil, Nat.zero_add, Nat.add_zero] }) (by conv => { lhs; whnf }) (by conv => { lhs; try dsimp only [List.take, List.drop, List.set, setCells, splice, List.append_eq, List.nil_append, List.cons_append, List.append_nil, List.length_cons, List.length_nil, Nat.zero_add, Nat.add_zero] }) (by conv => { lhs; dsimp only [keysP, List.map] }) (by first | exact True.intro | omega | (simp only [inR]; omega) | exact Nat.le_of_ble_eq_true rfl | (refine ⟨by omega, Nat.le_of_ble_eq_true rfl⟩) | (simp; done) | (simp; omega)) ?_
        | refine e_pickG rfl rfl (by first | exact pickV_or _ _ | exact pickV_and _ _ | rfl) (by first | exact True.intro | exact fun h => h) (by intro h; first | exact True.intro | (intro h2; first | (rw [h2]; rfl) | simp_all)) (by intro h; first | exact True.intro | (intro h2; first | (rw [h2]; rfl) | simp_all)) ?_))
    rw [missO, if_neg h]
    refine ret_pure (.inr rfl) rfl rfl rfl
  · simp at h
    repeat (first
      | (refine aw_seq_k fun K hK => ?_)
      | (refine xt_n ?_)
      | (refine xt_r ?_)
      | (refine xt_x ?_)
      | (refine xb_n ?_)
      | (refine xb_r ?_)
      | (refine xb_same ?_)
      | (refine xb_ne rfl ?_)
      | (refine aw_block ?_)
      | (refine aw_ret ?_)
      | (refine aw_exit ?_)
      | (refine aw_skip ?_)
      | (refine aw_label ?_)
      | (refine hK _ ?_; clear hK; clear K)
      | (clear hK; clear K; refine hK _ ?_; clear hK; clear K)
      | (clear hK; clear K; clear hK; clear K; refine hK _ ?_; clear hK; clear K)
      | (clear hK; clear K; clear hK; clear K; clear hK; clear K; refine hK _ ?_; clear hK; clear K)
      | (clear hK; clear K; clear hK; clear K; clear hK; clear K; clear hK; clear K; refine hK _ ?_; clear hK; clear K)
      | (first | refine w_region (by kernel_rfl) (by conv => { lhs; whnf }) ?_ | refine w_regionD (by kernel_rfl) (by conv => { lhs; whnf }) ?_)
      | refine aops_nil ⟨by kernel_rfl, ?_⟩
      | refine aops_nil ?_
      | (first
        | refine e_val hTT false [] rfl rfl rfl rfl rfl (by conv => { lhs; whnf; try dsimp only [List.take, List.drop, List.set, setCells, splice, List.append_eq, List.nil_append, List.cons_append, List.append_nil, List.length_cons, List.length_nil, Nat.zero_add, Nat.add_zero] }) (by conv => { lhs; dsimp only [keysP, List.map] }) (by first | exact True.intro | omega | (simp only [inR]; omega) | exact Nat.le_of_ble_eq_true rfl | (refine ⟨by omega, Nat.le_of_ble_eq_true rfl⟩) | (simp; done) | (simp; omega)) ?_
        | refine e_pick rfl (by first | exact True.intro | (intro h; first | (rw [h]; rfl) | simpa using h)) (by first | exact True.intro | (intro h; first | (rw [h]; rfl) | simpa using h)) (by first | exact pickV_or _ _ | exact pickV_and _ _ | rfl) ?_
        | refine e_grd hTT false [] 1 rfl rfl rfl rfl rfl (by conv => { lhs; whnf; try dsimp only [List.take, List.drop, List.set, setCells, splice, List.append_eq, List.nil_append, List.cons_append, List.append_nil, List.length_cons, List.length_nil, Nat.zero_add, Nat.add_zero] }) (by conv => { lhs; dsimp only [keysP, List.map] }) (by intro hg; first | exact True.intro | exact Nat.le_of_ble_eq_true rfl | (simp at hg; first | omega | (simp only [inR]; omega) | (simp; omega))) ?_
        | refine e_grd hTT false [] 0 rfl rfl rfl rfl rfl (by conv => { lhs; whnf; try dsimp only [List.take, List.drop, List.set, setCells, splice, List.append_eq, List.nil_append, List.cons_append, List.append_nil, List.length_cons, List.length_nil, Nat.zero_add, Nat.add_zero] }) (by conv => { lhs; dsimp only [keysP, List.map] }) (by intro hg; first | exact True.intro | exact Nat.le_of_ble_eq_true rfl | (simp at hg; first | omega | (simp only [inR]; omega) | (simp; omega))) ?_
        | refine e_grd hTT false [] 2 rfl rfl rfl rfl rfl (by conv => { lhs; whnf; try dsimp only [List.take, List.drop, List.set, setCells, splice, List.append_eq, List.nil_append, List.cons_append, List.append_nil, List.length_cons, List.length_nil, Nat.zero_add, Nat.add_zero] }) (by conv => { lhs; dsimp only [keysP, List.map] }) (by intro hg; first | exact True.intro | exact Nat.le_of_ble_eq_true rfl | (simp at hg; first | omega | (simp only [inR]; omega) | (simp; omega))) ?_
        | refine e_store hTT false [] rfl rfl rfl rfl rfl (by conv => { lhs; whnf }) (by conv => { lhs; try dsimp only [List.take, List.drop, List.set, setCells, splice, List.append_eq, List.nil_append, List.cons_append, List.append_nil, List.length_cons, List.length_nil, Nat.zero_add, Nat.add_zero] }) (by conv => { lhs; dsimp only [keysP, List.map] }) (by first | exact True.intro | omega | (simp only [inR]; omega) | exact Nat.le_of_ble_eq_true rfl | (refine ⟨by omega, Nat.le_of_ble_eq_true rfl⟩) | (simp; done) | (simp; omega)) ?_
        | refine e_new hTT false [] rfl rfl rfl rfl rfl (by conv => { lhs; whnf; try dsimp only [List.take, List.drop, List.set, setCells, splice, List.append_eq, List.nil_append, List.cons_append, List.append_nil, List.length_cons, List.length_nil, Nat.zero_add, Nat.add_zero] }) (by conv => { lhs; whnf }) (by conv => { lhs; try dsimp only [List.take, List.drop, List.set, setCells, splice, List.append_eq, List.nil_append, List.cons_append, List.append_nil, List.length_cons, List.length_nil, Nat.zero_add, Nat.add_zero] }) (by conv => { lhs; dsimp only [keysP, List.map] }) (by first | exact True.intro | omega | (simp only [inR]; omega) | exact Nat.le_of_ble_eq_true rfl | (refine ⟨by omega, Nat.le_of_ble_eq_true rfl⟩) | (simp; done) | (simp; omega)) ?_
        | refine e_two hTT false [] rfl rfl rfl rfl rfl (by conv => { lhs; whnf; try dsimp only [List.take, List.drop, List.set, setCells, splice, List.append_eq, List.nil_append, List.cons_append, List.append_nil, List.length_cons, List.length_nil, Nat.zero_add, Nat.add_zero] }) (by conv => { lhs; whnf }) (by conv => { lhs; try dsimp only [List.take, List.drop, List.set, setCells, splice, List.append_eq, List.nil_append, List.cons_append, List.append_nil, List.length_cons, List.length_nil, Nat.zero_add, Nat.add_zero] }) (by conv => { lhs; whnf }) (by conv => { lhs; try dsimp only [List.take, List.drop, List.set, setCells, splice, List.append_eq, List.nil_append, List.cons_append, List.append_nil, List.length_cons, List.length_nil, Nat.zero_add, Nat.add_zero] }) (by conv => { lhs; dsimp only [keysP, List.map] }) (by first | exact True.intro | omega | (simp only [inR]; omega) | exact Nat.le_of_ble_eq_true rfl | (refine ⟨by omega, Nat.le_of_ble_eq_true rfl⟩) | (simp; done) | (simp; omega)) ?_
        | refine e_pickG rfl rfl (by first | exact pickV_or _ _ | exact pickV_and _ _ | rfl) (by first | exact True.intro | exact fun h => h) (by intro h; first | exact True.intro | (intro h2; first | (rw [h2]; rfl) | simp_all)) (by intro h; first | exact True.intro | (intro h2; first | (rw [h2]; rfl) | simp_all)) ?_))
    refine e_call (miss_ac t l h) rfl rfl rfl rfl rfl ?_
    repeat (first
      | (refine aw_seq_k fun K hK => ?_)
      | (refine xt_n ?_)
      | (refine xt_r ?_)
      | (refine xt_x ?_)
      | (refine xb_n ?_)
      | (refine xb_r ?_)
      | (refine xb_same ?_)
      | (refine xb_ne rfl ?_)
      | (refine aw_block ?_)
      | (refine aw_ret ?_)
      | (refine aw_exit ?_)
      | (refine aw_skip ?_)
      | (refine aw_label ?_)
      | (refine hK _ ?_; clear hK; clear K)
      | (clear hK; clear K; refine hK _ ?_; clear hK; clear K)
      | (clear hK; clear K; clear hK; clear K; refine hK _ ?_; clear hK; clear K)
      | (clear hK; clear K; clear hK; clear K; clear hK; clear K; refine hK _ ?_; clear hK; clear K)
      | (clear hK; clear K; clear hK; clear K; clear hK; clear K; clear hK; clear K; refine hK _ ?_; clear hK; clear K)
      | (first | refine w_region (by kernel_rfl) (by conv => { lhs; whnf }) ?_ | refine w_regionD (by kernel_rfl) (by conv => { lhs; whnf }) ?_)
      | refine aops_nil ⟨by kernel_rfl, ?_⟩
      | refine aops_nil ?_
      | (first
        | refine e_val hTT false [] rfl rfl rfl rfl rfl (by conv => { lhs; whnf; try dsimp only [List.take, List.drop, List.set, setCells, splice, List.append_eq, List.nil_append, List.cons_append, List.append_nil, List.length_cons, List.length_nil, Nat.zero_add, Nat.add_zero] }) (by conv => { lhs; dsimp only [keysP, List.map] }) (by first | exact True.intro | omega | (simp only [inR]; omega) | exact Nat.le_of_ble_eq_true rfl | (refine ⟨by omega, Nat.le_of_ble_eq_true rfl⟩) | (simp; done) | (simp; omega)) ?_
        | refine e_pick rfl (by first | exact True.intro | (intro h; first | (rw [h]; rfl) | simpa using h)) (by first | exact True.intro | (intro h; first | (rw [h]; rfl) | simpa using h)) (by first | exact pickV_or _ _ | exact pickV_and _ _ | rfl) ?_
        | refine e_grd hTT false [] 1 rfl rfl rfl rfl rfl (by conv => { lhs; whnf; try dsimp only [List.take, List.drop, List.set, setCells, splice, List.append_eq, List.nil_append, List.cons_append, List.append_nil, List.length_cons, List.length_nil, Nat.zero_add, Nat.add_zero] }) (by conv => { lhs; dsimp only [keysP, List.map] }) (by intro hg; first | exact True.intro | exact Nat.le_of_ble_eq_true rfl | (simp at hg; first | omega | (simp only [inR]; omega) | (simp; omega))) ?_
        | refine e_grd hTT false [] 0 rfl rfl rfl rfl rfl (by conv => { lhs; whnf; try dsimp only [List.take, List.drop, List.set, setCells, splice, List.append_eq, List.nil_append, List.cons_append, List.append_nil, List.length_cons, List.length_nil, Nat.zero_add, Nat.add_zero] }) (by conv => { lhs; dsimp only [keysP, List.map] }) (by intro hg; first | exact True.intro | exact Nat.le_of_ble_eq_true rfl | (simp at hg; first | omega | (simp only [inR]; omega) | (simp; omega))) ?_
        | refine e_grd hTT false [] 2 rfl rfl rfl rfl rfl (by conv => { lhs; whnf; try dsimp only [List.take, List.drop, List.set, setCells, splice, List.append_eq, List.nil_append, List.cons_append, List.append_nil, List.length_cons, List.length_nil, Nat.zero_add, Nat.add_zero] }) (by conv => { lhs; dsimp only [keysP, List.map] }) (by intro hg; first | exact True.intro | exact Nat.le_of_ble_eq_true rfl | (simp at hg; first | omega | (simp only [inR]; omega) | (simp; omega))) ?_
        | refine e_store hTT false [] rfl rfl rfl rfl rfl (by conv => { lhs; whnf }) (by conv => { lhs; try dsimp only [List.take, List.drop, List.set, setCells, splice, List.append_eq, List.nil_append, List.cons_append, List.append_nil, List.length_cons, List.length_nil, Nat.zero_add, Nat.add_zero] }) (by conv => { lhs; dsimp only [keysP, List.map] }) (by first | exact True.intro | omega | (simp only [inR]; omega) | exact Nat.le_of_ble_eq_true rfl | (refine ⟨by omega, Nat.le_of_ble_eq_true rfl⟩) | (simp; done) | (simp; omega)) ?_
        | refine e_new hTT false [] rfl rfl rfl rfl rfl (by conv => { lhs; whnf; try dsimp only [List.take, List.drop, List.set, setCells, splice, List.append_eq, List.nil_append, List.cons_append, List.append_nil, List.length_cons, List.length_nil, Nat.zero_add, Nat.add_zero] }) (by conv => { lhs; whnf }) (by conv => { lhs; try dsimp only [List.take, List.drop, List.set, setCells, splice, List.append_eq, List.nil_append, List.cons_append, List.append_nil, List.length_cons, List.length_nil, Nat.zero_add, Nat.add_zero] }) (by conv => { lhs; dsimp only [keysP, List.map] }) (by first | exact True.intro | omega | (simp only [inR]; omega) | exact Nat.le_of_ble_eq_true rfl | (refine ⟨by omega, Nat.le_of_ble_eq_true rfl⟩) | (simp; done) | (simp; omega)) ?_
        | refine e_two hTT false [] rfl rfl rfl rfl rfl (by conv => { lhs; whnf; try dsimp only [List.take, List.drop, List.set, setCells, splice, List.append_eq, List.nil_append, List.cons_append, List.append_nil, List.length_cons, List.length_nil, Nat.zero_add, Nat.add_zero] }) (by conv => { lhs; whnf }) (by conv => { lhs; try dsimp only [List.take, List.drop, List.set, setCells, splice, List.append_eq, List.nil_append, List.cons_append, List.append_nil, List.length_cons, List.length_nil, Nat.zero_add, Nat.add_zero] }) (by conv => { lhs; whnf }) (by conv => { lhs; try dsimp only [List.take, List.drop, List.set, setCells, splice, List.append_eq, List.nil_append, List.cons_append, List.append_nil, List.length_cons, List.length_nil, Nat.zero_add, Nat.add_zero] }) (by conv => { lhs; dsimp only [keysP, List.map] }) (by first | exact True.intro | omega | (simp only [inR]; omega) | exact Nat.le_of_ble_eq_true rfl | (refine ⟨by omega, Nat.le_of_ble_eq_true rfl⟩) | (simp; done) | (simp; omega)) ?_
        | refine e_pickG rfl rfl (by first | exact pickV_or _ _ | exact pickV_and _ _ | rfl) (by first | exact True.intro | exact fun h => h) (by intro h; first | exact True.intro | (intro h2; first | (rw [h2]; rfl) | simp_all)) (by intro h; first | exact True.intro | (intro h2; first | (rw [h2]; rfl) | simp_all)) ?_))
    rw [missO, if_pos h]
    refine ret_pure (.inr rfl) rfl rfl rfl
theorem missI_cases (t : List Int) (l : List Pt) : (missI t l).2.2 = 0 ∨ missI t l = (0, 0, 5) := by
  unfold missI
  cases missP t l with
  | none => exact .inr rfl
  | some p => exact .inl rfl
set_option maxRecDepth 100000 in
theorem refMiss_ac (t : List Int) (l : List Pt) (ht : t.length ≤ 4611686018427387904) (hl : l.length ≤ 4611686018427387904) : AC Try.prog 36 [.agg [V.ints t], V.pts l] (.tup [.i (missO t l).1, .i (missO t l).2.1, .i (missO t l).2.2]) [] := by
  refine ac_intro hTT hMX (fn := Try.f36) (N := _) ⟨Try.func36, rfl, Try.ntmps36, by kernel_rfl⟩ (by simp) fun C hC hF => ?_
  repeat (first
    | (refine aw_seq_k fun K hK => ?_)
    | (refine xt_n ?_)
    | (refine xt_r ?_)
    | (refine xt_x ?_)
    | (refine xb_n ?_)
    | (refine xb_r ?_)
    | (refine xb_same ?_)
    | (refine xb_ne rfl ?_)
    | (refine aw_block ?_)
    | (refine aw_ret ?_)
    | (refine aw_exit ?_)
    | (refine aw_skip ?_)
    | (refine aw_label ?_)
    | (refine hK _ ?_; clear hK; clear K)
    | (clear hK; clear K; refine hK _ ?_; clear hK; clear K)
    | (clear hK; clear K; clear hK; clear K; refine hK _ ?_; clear hK; clear K)
    | (clear hK; clear K; clear hK; clear K; clear hK; clear K; refine hK _ ?_; clear hK; clear K)
    | (clear hK; clear K; clear hK; clear K; clear hK; clear K; clear hK; clear K; refine hK _ ?_; clear hK; clear K)
    | (first | refine w_region (by kernel_rfl) (by conv => { lhs; whnf }) ?_ | refine w_regionD (by kernel_rfl) (by conv => { lhs; whnf }) ?_)
    | refine aops_nil ⟨by kernel_rfl, ?_⟩
    | refine aops_nil ?_
    | (first
      | refine e_val hTT false [] rfl rfl rfl rfl rfl (by conv => { lhs; whnf; try dsimp only [List.take, List.drop, List.set, setCells, splice, List.append_eq, List.nil_append, List.cons_append, List.append_nil, List.length_cons, List.length_nil, Nat.zero_add, Nat.add_zero] }) (by conv => { lhs; dsimp only [keysP, List.map] }) (by first | exact True.intro | omega | (simp only [inR]; omega) | exact Nat.le_of_ble_eq_true rfl | (refine ⟨by omega, Nat.le_of_ble_eq_true rfl⟩) | (simp; done) | (simp; omega)) ?_
      | refine e_pick rfl (by first | exact True.intro | (intro h; first | (rw [h]; rfl) | simpa using h)) (by first | exact True.intro | (intro h; first | (rw [h]; rfl) | simpa using h)) (by first | exact pickV_or _ _ | exact pickV_and _ _ | rfl) ?_
      | refine e_grd hTT false [] 1 rfl rfl rfl rfl rfl (by conv => { lhs; whnf; try dsimp only [List.take, List.drop, List.set, setCells, splice, List.append_eq, List.nil_append, List.cons_append, List.append_nil, List.length_cons, List.length_nil, Nat.zero_add, Nat.add_zero] }) (by conv => { lhs; dsimp only [keysP, List.map] }) (by intro hg; first | exact True.intro | exact Nat.le_of_ble_eq_true rfl | (simp at hg; first | omega | (simp only [inR]; omega) | (simp; omega))) ?_
      | refine e_grd hTT false [] 0 rfl rfl rfl rfl rfl (by conv => { lhs; whnf; try dsimp only [List.take, List.drop, List.set, setCells, splice, List.append_eq, List.nil_append, List.cons_append, List.append_nil, List.length_cons, List.length_nil, Nat.zero_add, Nat.add_zero] }) (by conv => { lhs; dsimp only [keysP, List.map] }) (by intro hg; first | exact True.intro | exact Nat.le_of_ble_eq_true rfl | (simp at hg; first | omega | (simp only [inR]; omega) | (simp; omega))) ?_
      | refine e_grd hTT false [] 2 rfl rfl rfl rfl rfl (by conv => { lhs; whnf; try dsimp only [List.take, List.drop, List.set, setCells, splice, List.append_eq, List.nil_append, List.cons_append, List.append_nil, List.length_cons, List.length_nil, Nat.zero_add, Nat.add_zero] }) (by conv => { lhs; dsimp only [keysP, List.map] }) (by intro hg; first | exact True.intro | exact Nat.le_of_ble_eq_true rfl | (simp at hg; first | omega | (simp only [inR]; omega) | (simp; omega))) ?_
      | refine e_store hTT false [] rfl rfl rfl rfl rfl (by conv => { lhs; whnf }) (by conv => { lhs; try dsimp only [List.take, List.drop, List.set, setCells, splice, List.append_eq, List.nil_append, List.cons_append, List.append_nil, List.length_cons, List.length_nil, Nat.zero_add, Nat.add_zero] }) (by conv => { lhs; dsimp only [keysP, List.map] }) (by first | exact True.intro | omega | (simp only [inR]; omega) | exact Nat.le_of_ble_eq_true rfl | (refine ⟨by omega, Nat.le_of_ble_eq_true rfl⟩) | (simp; done) | (simp; omega)) ?_
      | refine e_new hTT false [] rfl rfl rfl rfl rfl (by conv => { lhs; whnf; try dsimp only [List.take, List.drop, List.set, setCells, splice, List.append_eq, List.nil_append, List.cons_append, List.append_nil, List.length_cons, List.length_nil, Nat.zero_add, Nat.add_zero] }) (by conv => { lhs; whnf }) (by conv => { lhs; try dsimp only [List.take, List.drop, List.set, setCells, splice, List.append_eq, List.nil_append, List.cons_append, List.append_nil, List.length_cons, List.length_nil, Nat.zero_add, Nat.add_zero] }) (by conv => { lhs; dsimp only [keysP, List.map] }) (by first | exact True.intro | omega | (simp only [inR]; omega) | exact Nat.le_of_ble_eq_true rfl | (refine ⟨by omega, Nat.le_of_ble_eq_true rfl⟩) | (simp; done) | (simp; omega)) ?_
      | refine e_two hTT false [] rfl rfl rfl rfl rfl (by conv => { lhs; whnf; try dsimp only [List.take, List.drop, List.set, setCells, splice, List.append_eq, List.nil_append, List.cons_append, List.append_nil, List.length_cons, List.length_nil, Nat.zero_add, Nat.add_zero] }) (by conv => { lhs; whnf }) (by conv => { lhs; try dsimp only [List.take, List.drop, List.set, setCells, splice, List.append_eq, List.nil_append, List.cons_append, List.append_nil, List.length_cons, List.length_nil, Nat.zero_add, Nat.add_zero] }) (by conv => { lhs; whnf }) (by conv => { lhs; try dsimp only [List.take, List.drop, List.set, setCells, splice, List.append_eq, List.nil_append, List.cons_append, List.append_nil, List.length_cons, List.length_nil, Nat.zero_add, Nat.add_zero] }) (by conv => { lhs; dsimp only [keysP, List.map] }) (by first | exact True.intro | omega | (simp only [inR]; omega) | exact Nat.le_of_ble_eq_true rfl | (refine ⟨by omega, Nat.le_of_ble_eq_true rfl⟩) | (simp; done) | (simp; omega)) ?_
      | refine e_pickG rfl rfl (by first | exact pickV_or _ _ | exact pickV_and _ _ | rfl) (by first | exact True.intro | exact fun h => h) (by intro h; first | exact True.intro | (intro h2; first | (rw [h2]; rfl) | simp_all)) (by intro h; first | exact True.intro | (intro h2; first | (rw [h2]; rfl) | simp_all)) ?_))
  refine e_call (both_ac t l ht hl) rfl rfl rfl rfl rfl ?_
  repeat (first
    | (refine aw_seq_k fun K hK => ?_)
    | (refine xt_n ?_)
    | (refine xt_r ?_)
    | (refine xt_x ?_)
    | (refine xb_n ?_)
    | (refine xb_r ?_)
    | (refine xb_same ?_)
    | (refine xb_ne rfl ?_)
    | (refine aw_block ?_)
    | (refine aw_ret ?_)
    | (refine aw_exit ?_)
    | (refine aw_skip ?_)
    | (refine aw_label ?_)
    | (refine hK _ ?_; clear hK; clear K)
    | (clear hK; clear K; refine hK _ ?_; clear hK; clear K)
    | (clear hK; clear K; clear hK; clear K; refine hK _ ?_; clear hK; clear K)
    | (clear hK; clear K; clear hK; clear K; clear hK; clear K; refine hK _ ?_; clear hK; clear K)
    | (clear hK; clear K; clear hK; clear K; clear hK; clear K; clear hK; clear K; refine hK _ ?_; clear hK; clear K)
    | (first | refine w_region (by kernel_rfl) (by conv => { lhs; whnf }) ?_ | refine w_regionD (by kernel_rfl) (by conv => { lhs; whnf }) ?_)
    | refine aops_nil ⟨by kernel_rfl, ?_⟩
    | refine aops_nil ?_
    | (first
      | refine e_val hTT false [] rfl rfl rfl rfl rfl (by conv => { lhs; whnf; try dsimp only [List.take, List.drop, List.set, setCells, splice, List.append_eq, List.nil_append, List.cons_append, List.append_nil, List.length_cons, List.length_nil, Nat.zero_add, Nat.add_zero] }) (by conv => { lhs; dsimp only [keysP, List.map] }) (by first | exact True.intro | omega | (simp only [inR]; omega) | exact Nat.le_of_ble_eq_true rfl | (refine ⟨by omega, Nat.le_of_ble_eq_true rfl⟩) | (simp; done) | (simp; omega)) ?_
      | refine e_pick rfl (by first | exact True.intro | (intro h; first | (rw [h]; rfl) | simpa using h)) (by first | exact True.intro | (intro h; first | (rw [h]; rfl) | simpa using h)) (by first | exact pickV_or _ _ | exact pickV_and _ _ | rfl) ?_
      | refine e_grd hTT false [] 1 rfl rfl rfl rfl rfl (by conv => { lhs; whnf; try dsimp only [List.take, List.drop, List.set, setCells, splice, List.append_eq, List.nil_append, List.cons_append, List.append_nil, List.length_cons, List.length_nil, Nat.zero_add, Nat.add_zero] }) (by conv => { lhs; dsimp only [keysP, List.map] }) (by intro hg; first | exact True.intro | exact Nat.le_of_ble_eq_true rfl | (simp at hg; first | omega | (simp only [inR]; omega) | (simp; omega))) ?_
      | refine e_grd hTT false [] 0 rfl rfl rfl rfl rfl (by conv => { lhs; whnf; try dsimp only [List.take, List.drop, List.set, setCells, splice, List.append_eq, List.nil_append, List.cons_append, List.append_nil, List.length_cons, List.length_nil, Nat.zero_add, Nat.add_zero] }) (by conv => { lhs; dsimp only [keysP, List.map] }) (by intro hg; first | exact True.intro | exact Nat.le_of_ble_eq_true rfl | (simp at hg; first | omega | (simp only [inR]; omega) | (simp; omega))) ?_
      | refine e_grd hTT false [] 2 rfl rfl rfl rfl rfl (by conv => { lhs; whnf; try dsimp only [List.take, List.drop, List.set, setCells, splice, List.append_eq, List.nil_append, List.cons_append, List.append_nil, List.length_cons, List.length_nil, Nat.zero_add, Nat.add_zero] }) (by conv => { lhs; dsimp only [keysP, List.map] }) (by intro hg; first | exact True.intro | exact Nat.le_of_ble_eq_true rfl | (simp at hg; first | omega | (simp only [inR]; omega) | (simp; omega))) ?_
      | refine e_store hTT false [] rfl rfl rfl rfl rfl (by conv => { lhs; whnf }) (by conv => { lhs; try dsimp only [List.take, List.drop, List.set, setCells, splice, List.append_eq, List.nil_append, List.cons_append, List.append_nil, List.length_cons, List.length_nil, Nat.zero_add, Nat.add_zero] }) (by conv => { lhs; dsimp only [keysP, List.map] }) (by first | exact True.intro | omega | (simp only [inR]; omega) | exact Nat.le_of_ble_eq_true rfl | (refine ⟨by omega, Nat.le_of_ble_eq_true rfl⟩) | (simp; done) | (simp; omega)) ?_
      | refine e_new hTT false [] rfl rfl rfl rfl rfl (by conv => { lhs; whnf; try dsimp only [List.take, List.drop, List.set, setCells, splice, List.append_eq, List.nil_append, List.cons_append, List.append_nil, List.length_cons, List.length_nil, Nat.zero_add, Nat.add_zero] }) (by conv => { lhs; whnf }) (by conv => { lhs; try dsimp only [List.take, List.drop, List.set, setCells, splice, List.append_eq, List.nil_append, List.cons_append, List.append_nil, List.length_cons, List.length_nil, Nat.zero_add, Nat.add_zero] }) (by conv => { lhs; dsimp only [keysP, List.map] }) (by first | exact True.intro | omega | (simp only [inR]; omega) | exact Nat.le_of_ble_eq_true rfl | (refine ⟨by omega, Nat.le_of_ble_eq_true rfl⟩) | (simp; done) | (simp; omega)) ?_
      | refine e_two hTT false [] rfl rfl rfl rfl rfl (by conv => { lhs; whnf; try dsimp only [List.take, List.drop, List.set, setCells, splice, List.append_eq, List.nil_append, List.cons_append, List.append_nil, List.length_cons, List.length_nil, Nat.zero_add, Nat.add_zero] }) (by conv => { lhs; whnf }) (by conv => { lhs; try dsimp only [List.take, List.drop, List.set, setCells, splice, List.append_eq, List.nil_append, List.cons_append, List.append_nil, List.length_cons, List.length_nil, Nat.zero_add, Nat.add_zero] }) (by conv => { lhs; whnf }) (by conv => { lhs; try dsimp only [List.take, List.drop, List.set, setCells, splice, List.append_eq, List.nil_append, List.cons_append, List.append_nil, List.length_cons, List.length_nil, Nat.zero_add, Nat.add_zero] }) (by conv => { lhs; dsimp only [keysP, List.map] }) (by first | exact True.intro | omega | (simp only [inR]; omega) | exact Nat.le_of_ble_eq_true rfl | (refine ⟨by omega, Nat.le_of_ble_eq_true rfl⟩) | (simp; done) | (simp; omega)) ?_
      | refine e_pickG rfl rfl (by first | exact pickV_or _ _ | exact pickV_and _ _ | rfl) (by first | exact True.intro | exact fun h => h) (by intro h; first | exact True.intro | (intro h2; first | (rw [h2]; rfl) | simp_all)) (by intro h; first | exact True.intro | (intro h2; first | (rw [h2]; rfl) | simp_all)) ?_))
  refine w_cond rfl (fun h => ?_) (fun h => ?_)
  · simp at h
    repeat (first
      | (refine aw_seq_k fun K hK => ?_)
      | (refine xt_n ?_)
      | (refine xt_r ?_)
      | (refine xt_x ?_)
      | (refine xb_n ?_)
      | (refine xb_r ?_)
      | (refine xb_same ?_)
      | (refine xb_ne rfl ?_)
      | (refine aw_block ?_)
      | (refine aw_ret ?_)
      | (refine aw_exit ?_)
      | (refine aw_skip ?_)
      | (refine aw_label ?_)
      | (refine hK _ ?_; clear hK; clear K)
      | (clear hK; clear K; refine hK _ ?_; clear hK; clear K)
      | (clear hK; clear K; clear hK; clear K; refine hK _ ?_; clear hK; clear K)
      | (clear hK; clear K; clear hK; clear K; clear hK; clear K; refine hK _ ?_; clear hK; clear K)
      | (clear hK; clear K; clear hK; clear K; clear hK; clear K; clear hK; clear K; refine hK _ ?_; clear hK; clear K)
      | (first | refine w_region (by kernel_rfl) (by conv => { lhs; whnf }) ?_ | refine w_regionD (by kernel_rfl) (by conv => { lhs; whnf }) ?_)
      | refine aops_nil ⟨by kernel_rfl, ?_⟩
      | refine aops_nil ?_
      | (first
        | refine e_val hTT false [] rfl rfl rfl rfl rfl (by conv => { lhs; whnf; try dsimp only [List.take, List.drop, List.set, setCells, splice, List.append_eq, List.nil_append, List.cons_append, List.append_nil, List.length_cons, List.length_nil, Nat.zero_add, Nat.add_zero] }) (by conv => { lhs; dsimp only [keysP, List.map] }) (by first | exact True.intro | omega | (simp only [inR]; omega) | exact Nat.le_of_ble_eq_true rfl | (refine ⟨by omega, Nat.le_of_ble_eq_true rfl⟩) | (simp; done) | (simp; omega)) ?_
        | refine e_pick rfl (by first | exact True.intro | (intro h; first | (rw [h]; rfl) | simpa using h)) (by first | exact True.intro | (intro h; first | (rw [h]; rfl) | simpa using h)) (by first | exact pickV_or _ _ | exact pickV_and _ _ | rfl) ?_
        | refine e_grd hTT false [] 1 rfl rfl rfl rfl rfl (by conv => { lhs; whnf; try dsimp only [List.take, List.drop, List.set, setCells, splice, List.append_eq, List.nil_append, List.cons_append, List.append_nil, List.length_cons, List.length_nil, Nat.zero_add, Nat.add_zero] }) (by conv => { lhs; dsimp only [keysP, List.map] }) (by intro hg; first | exact True.intro | exact Nat.le_of_ble_eq_true rfl | (simp at hg; first | omega | (simp only [inR]; omega) | (simp; omega))) ?_
        | refine e_grd hTT false [] 0 rfl rfl rfl rfl rfl (by conv => { lhs; whnf; try dsimp only [List.take, List.drop, List.set, setCells, splice, List.append_eq, List.nil_append, List.cons_append, List.append_nil, List.length_cons, List.length_nil, Nat.zero_add, Nat.add_zero] }) (by conv => { lhs; dsimp only [keysP, List.map] }) (by intro hg; first | exact True.intro | exact Nat.le_of_ble_eq_true rfl | (simp at hg; first | omega | (simp only [inR]; omega) | (simp; omega))) ?_
        | refine e_grd hTT false [] 2 rfl rfl rfl rfl rfl (by conv => { lhs; whnf; try dsimp only [List.take, List.drop, List.set, setCells, splice, List.append_eq, List.nil_append, List.cons_append, List.append_nil, List.length_cons, List.length_nil, Nat.zero_add, Nat.add_zero] }) (by conv => { lhs; dsimp only [keysP, List.map] }) (by intro hg; first | exact True.intro | exact Nat.le_of_ble_eq_true rfl | (simp at hg; first | omega | (simp only [inR]; omega) | (simp; omega))) ?_
        | refine e_store hTT false [] rfl rfl rfl rfl rfl (by conv => { lhs; whnf }) (by conv => { lhs; try dsimp only [List.take, List.drop, List.set, setCells, splice, List.append_eq, List.nil_append, List.cons_append, List.append_nil, List.length_cons, List.length_nil, Nat.zero_add, Nat.add_zero] }) (by conv => { lhs; dsimp only [keysP, List.map] }) (by first | exact True.intro | omega | (simp only [inR]; omega) | exact Nat.le_of_ble_eq_true rfl | (refine ⟨by omega, Nat.le_of_ble_eq_true rfl⟩) | (simp; done) | (simp; omega)) ?_
        | refine e_new hTT false [] rfl rfl rfl rfl rfl (by conv => { lhs; whnf; try dsimp only [List.take, List.drop, List.set, setCells, splice, List.append_eq, List.nil_append, List.cons_append, List.append_nil, List.length_cons, List.length_nil, Nat.zero_add, Nat.add_zero] }) (by conv => { lhs; whnf }) (by conv => { lhs; try dsimp only [List.take, List.drop, List.set, setCells, splice, List.append_eq, List.nil_append, List.cons_append, List.append_nil, List.length_cons, List.length_nil, Nat.zero_add, Nat.add_zero] }) (by conv => { lhs; dsimp only [keysP, List.map] }) (by first | exact True.intro | omega | (simp only [inR]; omega) | exact Nat.le_of_ble_eq_true rfl | (refine ⟨by omega, Nat.le_of_ble_eq_true rfl⟩) | (simp; done) | (simp; omega)) ?_
        | refine e_two hTT false [] rfl rfl rfl rfl rfl (by conv => { lhs; whnf; try dsimp only [List.take, List.drop, List.set, setCells, splice, List.append_eq, List.nil_append, List.cons_append, List.append_nil, List.length_cons, List.length_nil, Nat.zero_add, Nat.add_zero] }) (by conv => { lhs; whnf }) (by conv => { lhs; try dsimp only [List.take, List.drop, List.set, setCells, splice, List.append_eq, List.nil_append, List.cons_append, List.append_nil, List.length_cons, List.length_nil, Nat.zero_add, Nat.add_zero] }) (by conv => { lhs; whnf }) (by conv => { lhs; try dsimp only [List.take, List.drop, List.set, setCells, splice, List.append_eq, List.nil_append, List.cons_append, List.append_nil, List.length_cons, List.length_nil, Nat.zero_add, Nat.add_zero] }) (by conv => { lhs; dsimp only [keysP, List.map] }) (by first | exact True.intro | omega | (simp only [inR]; omega) | exact Nat.le_of_ble_eq_true rfl | (refine ⟨by omega, Nat.le_of_ble_eq_true rfl⟩) | (simp; done) | (simp; omega)) ?_
        | refine e_pickG rfl rfl (by first | exact pickV_or _ _ | exact pickV_and _ _ | rfl) (by first | exact True.intro | exact fun h => h) (by intro h; first | exact True.intro | (intro h2; first | (rw [h2]; rfl) | simp_all)) (by intro h; first | exact True.intro | (intro h2; first | (rw [h2]; rfl) | simp_all)) ?_))
    rw [missO, if_neg h]
    refine ret_pure (.inr rfl) rfl rfl rfl
  · simp at h
    repeat (first
      | (refine aw_seq_k fun K hK => ?_)
      | (refine xt_n ?_)
      | (refine xt_r ?_)
      | (refine xt_x ?_)
      | (refine xb_n ?_)
      | (refine xb_r ?_)
      | (refine xb_same ?_)
      | (refine xb_ne rfl ?_)
      | (refine aw_block ?_)
      | (refine aw_ret ?_)
      | (refine aw_exit ?_)
      | (refine aw_skip ?_)
      | (refine aw_label ?_)
      | (refine hK _ ?_; clear hK; clear K)
      | (clear hK; clear K; refine hK _ ?_; clear hK; clear K)
      | (clear hK; clear K; clear hK; clear K; refine hK _ ?_; clear hK; clear K)
      | (clear hK; clear K; clear hK; clear K; clear hK; clear K; refine hK _ ?_; clear hK; clear K)
      | (clear hK; clear K; clear hK; clear K; clear hK; clear K; clear hK; clear K; refine hK _ ?_; clear hK; clear K)
      | (first | refine w_region (by kernel_rfl) (by conv => { lhs; whnf }) ?_ | refine w_regionD (by kernel_rfl) (by conv => { lhs; whnf }) ?_)
      | refine aops_nil ⟨by kernel_rfl, ?_⟩
      | refine aops_nil ?_
      | (first
        | refine e_val hTT false [] rfl rfl rfl rfl rfl (by conv => { lhs; whnf; try dsimp only [List.take, List.drop, List.set, setCells, splice, List.append_eq, List.nil_append, List.cons_append, List.append_nil, List.length_cons, List.length_nil, Nat.zero_add, Nat.add_zero] }) (by conv => { lhs; dsimp only [keysP, List.map] }) (by first | exact True.intro | omega | (simp only [inR]; omega) | exact Nat.le_of_ble_eq_true rfl | (refine ⟨by omega, Nat.le_of_ble_eq_true rfl⟩) | (simp; done) | (simp; omega)) ?_
        | refine e_pick rfl (by first | exact True.intro | (intro h; first | (rw [h]; rfl) | simpa using h)) (by first | exact True.intro | (intro h; first | (rw [h]; rfl) | simpa using h)) (by first | exact pickV_or _ _ | exact pickV_and _ _ | rfl) ?_
        | refine e_grd hTT false [] 1 rfl rfl rfl rfl rfl (by conv => { lhs; whnf; try dsimp only [List.take, List.drop, List.set, setCells, splice, List.append_eq, List.nil_append, List.cons_append, List.append_nil, List.length_cons, List.length_nil, Nat.zero_add, Nat.add_zero] }) (by conv => { lhs; dsimp only [keysP, List.map] }) (by intro hg; first | exact True.intro | exact Nat.le_of_ble_eq_true rfl | (simp at hg; first | omega | (simp only [inR]; omega) | (simp; omega))) ?_
        | refine e_grd hTT false [] 0 rfl rfl rfl rfl rfl (by conv => { lhs; whnf; try dsimp only [List.take, List.drop, List.set, setCells, splice, List.append_eq, List.nil_append, List.cons_append, List.append_nil, List.length_cons, List.length_nil, Nat.zero_add, Nat.add_zero] }) (by conv => { lhs; dsimp only [keysP, List.map] }) (by intro hg; first | exact True.intro | exact Nat.le_of_ble_eq_true rfl | (simp at hg; first | omega | (simp only [inR]; omega) | (simp; omega))) ?_
        | refine e_grd hTT false [] 2 rfl rfl rfl rfl rfl (by conv => { lhs; whnf; try dsimp only [List.take, List.drop, List.set, setCells, splice, List.append_eq, List.nil_append, List.cons_append, List.append_nil, List.length_cons, List.length_nil, Nat.zero_add, Nat.add_zero] }) (by conv => { lhs; dsimp only [keysP, List.map] }) (by intro hg; first | exact True.intro | exact Nat.le_of_ble_eq_true rfl | (simp at hg; first | omega | (simp only [inR]; omega) | (simp; omega))) ?_
        | refine e_store hTT false [] rfl rfl rfl rfl rfl (by conv => { lhs; whnf }) (by conv => { lhs; try dsimp only [List.take, List.drop, List.set, setCells, splice, List.append_eq, List.nil_append, List.cons_append, List.append_nil, List.length_cons, List.length_nil, Nat.zero_add, Nat.add_zero] }) (by conv => { lhs; dsimp only [keysP, List.map] }) (by first | exact True.intro | omega | (simp only [inR]; omega) | exact Nat.le_of_ble_eq_true rfl | (refine ⟨by omega, Nat.le_of_ble_eq_true rfl⟩) | (simp; done) | (simp; omega)) ?_
        | refine e_new hTT false [] rfl rfl rfl rfl rfl (by conv => { lhs; whnf; try dsimp only [List.take, List.drop, List.set, setCells, splice, List.append_eq, List.nil_append, List.cons_append, List.append_nil, List.length_cons, List.length_nil, Nat.zero_add, Nat.add_zero] }) (by conv => { lhs; whnf }) (by conv => { lhs; try dsimp only [List.take, List.drop, List.set, setCells, splice, List.append_eq, List.nil_append, List.cons_append, List.append_nil, List.length_cons, List.length_nil, Nat.zero_add, Nat.add_zero] }) (by conv => { lhs; dsimp only [keysP, List.map] }) (by first | exact True.intro | omega | (simp only [inR]; omega) | exact Nat.le_of_ble_eq_true rfl | (refine ⟨by omega, Nat.le_of_ble_eq_true rfl⟩) | (simp; done) | (simp; omega)) ?_
        | refine e_two hTT false [] rfl rfl rfl rfl rfl (by conv => { lhs; whnf; try dsimp only [List.take, List.drop, List.set, setCells, splice, List.append_eq, List.nil_append, List.cons_append, List.append_nil, List.length_cons, List.length_nil, Nat.zero_add, Nat.add_zero] }) (by conv => { lhs; whnf }) (by conv => { lhs; try dsimp only [List.take, List.drop, List.set, setCells, splice, List.append_eq, List.nil_append, List.cons_append, List.append_nil, List.length_cons, List.length_nil, Nat.zero_add, Nat.add_zero] }) (by conv => { lhs; whnf }) (by conv => { lhs; try dsimp only [List.take, List.drop, List.set, setCells, splice, List.append_eq, List.nil_append, List.cons_append, List.append_nil, List.length_cons, List.length_nil, Nat.zero_add, Nat.add_zero] }) (by conv => { lhs; dsimp only [keysP, List.map] }) (by first | exact True.intro | omega | (simp only [inR]; omega) | exact Nat.le_of_ble_eq_true rfl | (refine ⟨by omega, Nat.le_of_ble_eq_true rfl⟩) | (simp; done) | (simp; omega)) ?_
        | refine e_pickG rfl rfl (by first | exact pickV_or _ _ | exact pickV_and _ _ | rfl) (by first | exact True.intro | exact fun h => h) (by intro h; first | exact True.intro | (intro h2; first | (rw [h2]; rfl) | simp_all)) (by intro h; first | exact True.intro | (intro h2; first | (rw [h2]; rfl) | simp_all)) ?_))
    refine e_call (refmiss_ac t l h) rfl rfl rfl rfl rfl ?_
    repeat (first
      | (refine aw_seq_k fun K hK => ?_)
      | (refine xt_n ?_)
      | (refine xt_r ?_)
      | (refine xt_x ?_)
      | (refine xb_n ?_)
      | (refine xb_r ?_)
      | (refine xb_same ?_)
      | (refine xb_ne rfl ?_)
      | (refine aw_block ?_)
      | (refine aw_ret ?_)
      | (refine aw_exit ?_)
      | (refine aw_skip ?_)
      | (refine aw_label ?_)
      | (refine hK _ ?_; clear hK; clear K)
      | (clear hK; clear K; refine hK _ ?_; clear hK; clear K)
      | (clear hK; clear K; clear hK; clear K; refine hK _ ?_; clear hK; clear K)
      | (clear hK; clear K; clear hK; clear K; clear hK; clear K; refine hK _ ?_; clear hK; clear K)
      | (clear hK; clear K; clear hK; clear K; clear hK; clear K; clear hK; clear K; refine hK _ ?_; clear hK; clear K)
      | (first | refine w_region (by kernel_rfl) (by conv => { lhs; whnf }) ?_ | refine w_regionD (by kernel_rfl) (by conv => { lhs; whnf }) ?_)
      | refine aops_nil ⟨by kernel_rfl, ?_⟩
      | refine aops_nil ?_
      | (first
        | refine e_val hTT false [] rfl rfl rfl rfl rfl (by conv => { lhs; whnf; try dsimp only [List.take, List.drop, List.set, setCells, splice, List.append_eq, List.nil_append, List.cons_append, List.append_nil, List.length_cons, List.length_nil, Nat.zero_add, Nat.add_zero] }) (by conv => { lhs; dsimp only [keysP, List.map] }) (by first | exact True.intro | omega | (simp only [inR]; omega) | exact Nat.le_of_ble_eq_true rfl | (refine ⟨by omega, Nat.le_of_ble_eq_true rfl⟩) | (simp; done) | (simp; omega)) ?_
        | refine e_pick rfl (by first | exact True.intro | (intro h; first | (rw [h]; rfl) | simpa using h)) (by first | exact True.intro | (intro h; first | (rw [h]; rfl) | simpa using h)) (by first | exact pickV_or _ _ | exact pickV_and _ _ | rfl) ?_
        | refine e_grd hTT false [] 1 rfl rfl rfl rfl rfl (by conv => { lhs; whnf; try dsimp only [List.take, List.drop, List.set, setCells, splice, List.append_eq, List.nil_append, List.cons_append, List.append_nil, List.length_cons, List.length_nil, Nat.zero_add, Nat.add_zero] }) (by conv => { lhs; dsimp only [keysP, List.map] }) (by intro hg; first | exact True.intro | exact Nat.le_of_ble_eq_true rfl | (simp at hg; first | omega | (simp only [inR]; omega) | (simp; omega))) ?_
        | refine e_grd hTT false [] 0 rfl rfl rfl rfl rfl (by conv => { lhs; whnf; try dsimp only [List.take, List.drop, List.set, setCells, splice, List.append_eq, List.nil_append, List.cons_append, List.append_nil, List.length_cons, List.length_nil, Nat.zero_add, Nat.add_zero] }) (by conv => { lhs; dsimp only [keysP, List.map] }) (by intro hg; first | exact True.intro | exact Nat.le_of_ble_eq_true rfl | (simp at hg; first | omega | (simp only [inR]; omega) | (simp; omega))) ?_
        | refine e_grd hTT false [] 2 rfl rfl rfl rfl rfl (by conv => { lhs; whnf; try dsimp only [List.take, List.drop, List.set, setCells, splice, List.append_eq, List.nil_append, List.cons_append, List.append_nil, List.length_cons, List.length_nil, Nat.zero_add, Nat.add_zero] }) (by conv => { lhs; dsimp only [keysP, List.map] }) (by intro hg; first | exact True.intro | exact Nat.le_of_ble_eq_true rfl | (simp at hg; first | omega | (simp only [inR]; omega) | (simp; omega))) ?_
        | refine e_store hTT false [] rfl rfl rfl rfl rfl (by conv => { lhs; whnf }) (by conv => { lhs; try dsimp only [List.take, List.drop, List.set, setCells, splice, List.append_eq, List.nil_append, List.cons_append, List.append_nil, List.length_cons, List.length_nil, Nat.zero_add, Nat.add_zero] }) (by conv => { lhs; dsimp only [keysP, List.map] }) (by first | exact True.intro | omega | (simp only [inR]; omega) | exact Nat.le_of_ble_eq_true rfl | (refine ⟨by omega, Nat.le_of_ble_eq_true rfl⟩) | (simp; done) | (simp; omega)) ?_
        | refine e_new hTT false [] rfl rfl rfl rfl rfl (by conv => { lhs; whnf; try dsimp only [List.take, List.drop, List.set, setCells, splice, List.append_eq, List.nil_append, List.cons_append, List.append_nil, List.length_cons, List.length_nil, Nat.zero_add, Nat.add_zero] }) (by conv => { lhs; whnf }) (by conv => { lhs; try dsimp only [List.take, List.drop, List.set, setCells, splice, List.append_eq, List.nil_append, List.cons_append, List.append_nil, List.length_cons, List.length_nil, Nat.zero_add, Nat.add_zero] }) (by conv => { lhs; dsimp only [keysP, List.map] }) (by first | exact True.intro | omega | (simp only [inR]; omega) | exact Nat.le_of_ble_eq_true rfl | (refine ⟨by omega, Nat.le_of_ble_eq_true rfl⟩) | (simp; done) | (simp; omega)) ?_
        | refine e_two hTT false [] rfl rfl rfl rfl rfl (by conv => { lhs; whnf; try dsimp only [List.take, List.drop, List.set, setCells, splice, List.append_eq, List.nil_append, List.cons_append, List.append_nil, List.length_cons, List.length_nil, Nat.zero_add, Nat.add_zero] }) (by conv => { lhs; whnf }) (by conv => { lhs; try dsimp only [List.take, List.drop, List.set, setCells, splice, List.append_eq, List.nil_append, List.cons_append, List.append_nil, List.length_cons, List.length_nil, Nat.zero_add, Nat.add_zero] }) (by conv => { lhs; whnf }) (by conv => { lhs; try dsimp only [List.take, List.drop, List.set, setCells, splice, List.append_eq, List.nil_append, List.cons_append, List.append_nil, List.length_cons, List.length_nil, Nat.zero_add, Nat.add_zero] }) (by conv => { lhs; dsimp only [keysP, List.map] }) (by first | exact True.intro | omega | (simp only [inR]; omega) | exact Nat.le_of_ble_eq_true rfl | (refine ⟨by omega, Nat.le_of_ble_eq_true rfl⟩) | (simp; done) | (simp; omega)) ?_
        | refine e_pickG rfl rfl (by first | exact pickV_or _ _ | exact pickV_and _ _ | rfl) (by first | exact True.intro | exact fun h => h) (by intro h; first | exact True.intro | (intro h2; first | (rw [h2]; rfl) | simp_all)) (by intro h; first | exact True.intro | (intro h2; first | (rw [h2]; rfl) | simp_all)) ?_))
    refine w_cond rfl (fun h2 => ?_) (fun h2 => ?_)
    · simp at h2
      have h3 := (missI_cases t l).resolve_left h2
      repeat (first
        | (refine aw_seq_k fun K hK => ?_)
        | (refine xt_n ?_)
        | (refine xt_r ?_)
        | (refine xt_x ?_)
        | (refine xb_n ?_)
        | (refine xb_r ?_)
        | (refine xb_same ?_)
        | (refine xb_ne rfl ?_)
        | (refine aw_block ?_)
        | (refine aw_ret ?_)
        | (refine aw_exit ?_)
        | (refine aw_skip ?_)
        | (refine aw_label ?_)
        | (refine hK _ ?_; clear hK; clear K)
        | (clear hK; clear K; refine hK _ ?_; clear hK; clear K)
        | (clear hK; clear K; clear hK; clear K; refine hK _ ?_; clear hK; clear K)
        | (clear hK; clear K; clear hK; clear K; clear hK; clear K; refine hK _ ?_; clear hK; clear K)
        | (clear hK; clear K; clear hK; clear K; clear hK; clear K; clear hK; clear K; refine hK _ ?_; clear hK; clear K)
        | (first | refine w_region (by kernel_rfl) (by conv => { lhs; whnf }) ?_ | refine w_regionD (by kernel_rfl) (by conv => { lhs; whnf }) ?_)
        | refine aops_nil ⟨by kernel_rfl, ?_⟩
        | refine aops_nil ?_
        | (first
          | refine e_val hTT false [] rfl rfl rfl rfl rfl (by conv => { lhs; whnf; try dsimp only [List.take, List.drop, List.set, setCells, splice, List.append_eq, List.nil_append, List.cons_append, List.append_nil, List.length_cons, List.length_nil, Nat.zero_add, Nat.add_zero] }) (by conv => { lhs; dsimp only [keysP, List.map] }) (by first | exact True.intro | omega | (simp only [inR]; omega) | exact Nat.le_of_ble_eq_true rfl | (refine ⟨by omega, Nat.le_of_ble_eq_true rfl⟩) | (simp; done) | (simp; omega)) ?_
          | refine e_pick rfl (by first | exact True.intro | (intro h; first | (rw [h]; rfl) | simpa using h)) (by first | exact True.intro | (intro h; first | (rw [h]; rfl) | simpa using h)) (by first | exact pickV_or _ _ | exact pickV_and _ _ | rfl) ?_
          | refine e_grd hTT false [] 1 rfl rfl rfl rfl rfl (by conv => { lhs; whnf; try dsimp only [List.take, List.drop, List.set, setCells, splice, List.append_eq, List.nil_append, List.cons_append, List.append_nil, List.length_cons, List.length_nil, Nat.zero_add, Nat.add_zero] }) (by conv => { lhs; dsimp only [keysP, List.map] }) (by intro hg; first | exact True.intro | exact Nat.le_of_ble_eq_true rfl | (simp at hg; first | omega | (simp only [inR]; omega) | (simp; omega))) ?_
          | refine e_grd hTT false [] 0 rfl rfl rfl rfl rfl (by conv => { lhs; whnf; try dsimp only [List.take, List.drop, List.set, setCells, splice, List.append_eq, List.nil_append, List.cons_append, List.append_nil, List.length_cons, List.length_nil, Nat.zero_add, Nat.add_zero] }) (by conv => { lhs; dsimp only [keysP, List.map] }) (by intro hg; first | exact True.intro | exact Nat.le_of_ble_eq_true rfl | (simp at hg; first | omega | (simp only [inR]; omega) | (simp; omega))) ?_
          | refine e_grd hTT false [] 2 rfl rfl rfl rfl rfl (by conv => { lhs; whnf; try dsimp only [List.take, List.drop, List.set, setCells, splice, List.append_eq, List.nil_append, List.cons_append, List.append_nil, List.length_cons, List.length_nil, Nat.zero_add, Nat.add_zero] }) (by conv => { lhs; dsimp only [keysP, List.map] }) (by intro hg; first | exact True.intro | exact Nat.le_of_ble_eq_true rfl | (simp at hg; first | omega | (simp only [inR]; omega) | (simp; omega))) ?_
          | refine e_store hTT false [] rfl rfl rfl rfl rfl (by conv => { lhs; whnf }) (by conv => { lhs; try dsimp only [List.take, List.drop, List.set, setCells, splice, List.append_eq, List.nil_append, List.cons_append, List.append_nil, List.length_cons, List.length_nil, Nat.zero_add, Nat.add_zero] }) (by conv => { lhs; dsimp only [keysP, List.map] }) (by first | exact True.intro | omega | (simp only [inR]; omega) | exact Nat.le_of_ble_eq_true rfl | (refine ⟨by omega, Nat.le_of_ble_eq_true rfl⟩) | (simp; done) | (simp; omega)) ?_
          | refine e_new hTT false [] rfl rfl rfl rfl rfl (by conv => { lhs; whnf; try dsimp only [List.take, List.drop, List.set, setCells, splice, List.append_eq, List.nil_append, List.cons_append, List.append_nil, List.length_cons, List.length_nil, Nat.zero_add, Nat.add_zero] }) (by conv => { lhs; whnf }) (by conv => { lhs; try dsimp only [List.take, List.drop, List.set, setCells, splice, List.append_eq, List.nil_append, List.cons_append, List.append_nil, List.length_cons, List.length_nil, Nat.zero_add, Nat.add_zero] }) (by conv => { lhs; dsimp only [keysP, List.map] }) (by first | exact True.intro | omega | (simp only [inR]; omega) | exact Nat.le_of_ble_eq_true rfl | (refine ⟨by omega, Nat.le_of_ble_eq_true rfl⟩) | (simp; done) | (simp; omega)) ?_
          | refine e_two hTT false [] rfl rfl rfl rfl rfl (by conv => { lhs; whnf; try dsimp only [List.take, List.drop, List.set, setCells, splice, List.append_eq, List.nil_append, List.cons_append, List.append_nil, List.length_cons, List.length_nil, Nat.zero_add, Nat.add_zero] }) (by conv => { lhs; whnf }) (by conv => { lhs; try dsimp only [List.take, List.drop, List.set, setCells, splice, List.append_eq, List.nil_append, List.cons_append, List.append_nil, List.length_cons, List.length_nil, Nat.zero_add, Nat.add_zero] }) (by conv => { lhs; whnf }) (by conv => { lhs; try dsimp only [List.take, List.drop, List.set, setCells, splice, List.append_eq, List.nil_append, List.cons_append, List.append_nil, List.length_cons, List.length_nil, Nat.zero_add, Nat.add_zero] }) (by conv => { lhs; dsimp only [keysP, List.map] }) (by first | exact True.intro | omega | (simp only [inR]; omega) | exact Nat.le_of_ble_eq_true rfl | (refine ⟨by omega, Nat.le_of_ble_eq_true rfl⟩) | (simp; done) | (simp; omega)) ?_
          | refine e_pickG rfl rfl (by first | exact pickV_or _ _ | exact pickV_and _ _ | rfl) (by first | exact True.intro | exact fun h => h) (by intro h; first | exact True.intro | (intro h2; first | (rw [h2]; rfl) | simp_all)) (by intro h; first | exact True.intro | (intro h2; first | (rw [h2]; rfl) | simp_all)) ?_))
      rw [missO, if_pos h, h3]
      refine ret_pure (.inr rfl) rfl rfl rfl
    · simp at h2
      repeat (first
        | (refine aw_seq_k fun K hK => ?_)
        | (refine xt_n ?_)
        | (refine xt_r ?_)
        | (refine xt_x ?_)
        | (refine xb_n ?_)
        | (refine xb_r ?_)
        | (refine xb_same ?_)
        | (refine xb_ne rfl ?_)
        | (refine aw_block ?_)
        | (refine aw_ret ?_)
        | (refine aw_exit ?_)
        | (refine aw_skip ?_)
        | (refine aw_label ?_)
        | (refine hK _ ?_; clear hK; clear K)
        | (clear hK; clear K; refine hK _ ?_; clear hK; clear K)
        | (clear hK; clear K; clear hK; clear K; refine hK _ ?_; clear hK; clear K)
        | (clear hK; clear K; clear hK; clear K; clear hK; clear K; refine hK _ ?_; clear hK; clear K)
        | (clear hK; clear K; clear hK; clear K; clear hK; clear K; clear hK; clear K; refine hK _ ?_; clear hK; clear K)
        | (first | refine w_region (by kernel_rfl) (by conv => { lhs; whnf }) ?_ | refine w_regionD (by kernel_rfl) (by conv => { lhs; whnf }) ?_)
        | refine aops_nil ⟨by kernel_rfl, ?_⟩
        | refine aops_nil ?_
        | (first
          | refine e_val hTT false [] rfl rfl rfl rfl rfl (by conv => { lhs; whnf; try dsimp only [List.take, List.drop, List.set, setCells, splice, List.append_eq, List.nil_append, List.cons_append, List.append_nil, List.length_cons, List.length_nil, Nat.zero_add, Nat.add_zero] }) (by conv => { lhs; dsimp only [keysP, List.map] }) (by first | exact True.intro | omega | (simp only [inR]; omega) | exact Nat.le_of_ble_eq_true rfl | (refine ⟨by omega, Nat.le_of_ble_eq_true rfl⟩) | (simp; done) | (simp; omega)) ?_
          | refine e_pick rfl (by first | exact True.intro | (intro h; first | (rw [h]; rfl) | simpa using h)) (by first | exact True.intro | (intro h; first | (rw [h]; rfl) | simpa using h)) (by first | exact pickV_or _ _ | exact pickV_and _ _ | rfl) ?_
          | refine e_grd hTT false [] 1 rfl rfl rfl rfl rfl (by conv => { lhs; whnf; try dsimp only [List.take, List.drop, List.set, setCells, splice, List.append_eq, List.nil_append, List.cons_append, List.append_nil, List.length_cons, List.length_nil, Nat.zero_add, Nat.add_zero] }) (by conv => { lhs; dsimp only [keysP, List.map] }) (by intro hg; first | exact True.intro | exact Nat.le_of_ble_eq_true rfl | (simp at hg; first | omega | (simp only [inR]; omega) | (simp; omega))) ?_
          | refine e_grd hTT false [] 0 rfl rfl rfl rfl rfl (by conv => { lhs; whnf; try dsimp only [List.take, List.drop, List.set, setCells, splice, List.append_eq, List.nil_append, List.cons_append, List.append_nil, List.length_cons, List.length_nil, Nat.zero_add, Nat.add_zero] }) (by conv => { lhs; dsimp only [keysP, List.map] }) (by intro hg; first | exact True.intro | exact Nat.le_of_ble_eq_true rfl | (simp at hg; first | omega | (simp only [inR]; omega) | (simp; omega))) ?_
          | refine e_grd hTT false [] 2 rfl rfl rfl rfl rfl (by conv => { lhs; whnf; try dsimp only [List.take, List.drop, List.set, setCells, splice, List.append_eq, List.nil_append, List.cons_append, List.append_nil, List.length_cons, List.length_nil, Nat.zero_add, Nat.add_zero] }) (by conv => { lhs; dsimp only [keysP, List.map] }) (by intro hg; first | exact True.intro | exact Nat.le_of_ble_eq_true rfl | (simp at hg; first | omega | (simp only [inR]; omega) | (simp; omega))) ?_
          | refine e_store hTT false [] rfl rfl rfl rfl rfl (by conv => { lhs; whnf }) (by conv => { lhs; try dsimp only [List.take, List.drop, List.set, setCells, splice, List.append_eq, List.nil_append, List.cons_append, List.append_nil, List.length_cons, List.length_nil, Nat.zero_add, Nat.add_zero] }) (by conv => { lhs; dsimp only [keysP, List.map] }) (by first | exact True.intro | omega | (simp only [inR]; omega) | exact Nat.le_of_ble_eq_true rfl | (refine ⟨by omega, Nat.le_of_ble_eq_true rfl⟩) | (simp; done) | (simp; omega)) ?_
          | refine e_new hTT false [] rfl rfl rfl rfl rfl (by conv => { lhs; whnf; try dsimp only [List.take, List.drop, List.set, setCells, splice, List.append_eq, List.nil_append, List.cons_append, List.append_nil, List.length_cons, List.length_nil, Nat.zero_add, Nat.add_zero] }) (by conv => { lhs; whnf }) (by conv => { lhs; try dsimp only [List.take, List.drop, List.set, setCells, splice, List.append_eq, List.nil_append, List.cons_append, List.append_nil, List.length_cons, List.length_nil, Nat.zero_add, Nat.add_zero] }) (by conv => { lhs; dsimp only [keysP, List.map] }) (by first | exact True.intro | omega | (simp only [inR]; omega) | exact Nat.le_of_ble_eq_true rfl | (refine ⟨by omega, Nat.le_of_ble_eq_true rfl⟩) | (simp; done) | (simp; omega)) ?_
          | refine e_two hTT false [] rfl rfl rfl rfl rfl (by conv => { lhs; whnf; try dsimp only [List.take, List.drop, List.set, setCells, splice, List.append_eq, List.nil_append, List.cons_append, List.append_nil, List.length_cons, List.length_nil, Nat.zero_add, Nat.add_zero] }) (by conv => { lhs; whnf }) (by conv => { lhs; try dsimp only [List.take, List.drop, List.set, setCells, splice, List.append_eq, List.nil_append, List.cons_append, List.append_nil, List.length_cons, List.length_nil, Nat.zero_add, Nat.add_zero] }) (by conv => { lhs; whnf }) (by conv => { lhs; try dsimp only [List.take, List.drop, List.set, setCells, splice, List.append_eq, List.nil_append, List.cons_append, List.append_nil, List.length_cons, List.length_nil, Nat.zero_add, Nat.add_zero] }) (by conv => { lhs; dsimp only [keysP, List.map] }) (by first | exact True.intro | omega | (simp only [inR]; omega) | exact Nat.le_of_ble_eq_true rfl | (refine ⟨by omega, Nat.le_of_ble_eq_true rfl⟩) | (simp; done) | (simp; omega)) ?_
          | refine e_pickG rfl rfl (by first | exact pickV_or _ _ | exact pickV_and _ _ | rfl) (by first | exact True.intro | exact fun h => h) (by intro h; first | exact True.intro | (intro h2; first | (rw [h2]; rfl) | simp_all)) (by intro h; first | exact True.intro | (intro h2; first | (rw [h2]; rfl) | simp_all)) ?_))
      rw [missO, if_pos h, h2]
      refine ret_pure (.inr rfl) rfl rfl rfl
end Go.Proofs.Ytlhkpdnnopknnaa
