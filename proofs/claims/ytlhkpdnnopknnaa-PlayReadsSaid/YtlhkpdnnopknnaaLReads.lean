/-
  PlayReads: what a tip reads, sweeps and misses is what the definitions say. No condition.
-/
import Derived.Test.YtlhkpdnnopknnaaPAb4
import Derived.Test.YtlhkpdnnopknnaaLift2
import Derived.Test.YtlhkpdnnopknnaaAbs19
namespace Go.Proofs.Ytlhkpdnnopknnaa
open Go.Ab Go.RowKit Go.Dw Go.Shelf Go.ChangeShapes Go.WideShapes Go.ChangeAt Go.Deep

def longB (n : Nat) (m : Int) : Bool := (decide (m < (n : Int)) && decide ((n : Int) ≤ 4096)) || decide ((4106 : Int) < (n : Int))
set_option maxRecDepth 100000 in
theorem long_ac (l : List Pt) (m : Int) : AC Try.prog 32 [V.pts l, .i m] (.b (longB l.length m)) [] := by
  refine ac_intro hTT hMX (fn := Try.f32) (N := _) ⟨Try.func32, rfl, Try.ntmps32, by kernel_rfl⟩ (by simp) fun C hC hF => ?_
  repeat (first
    | (refine aw_seq_k fun K hK => ?_)
    | (refine xt_n ?_)
    | (refine xt_r ?_)
    | (refine xt_x ?_)
    | (refine xb_n ?_)
    | (refine xb_r ?_)
    | (refine xb_same ?_)
    | (refine xb_ne rfl ?_)
    | (refine aw_block ?_)
    | (refine aw_ret ?_)
    | (refine aw_exit ?_)
    | (refine aw_skip ?_)
    | (refine aw_label ?_)
    | (refine hK _ ?_; clear hK; clear K)
    | (clear hK; clear K; refine hK _ ?_; clear hK; clear K)
    | (clear hK; clear K; clear hK; clear K; refine hK _ ?_; clear hK; clear K)
    | (clear hK; clear K; clear hK; clear K; clear hK; clear K; refine hK _ ?_; clear hK; clear K)
    | (clear hK; clear K; clear hK; clear K; clear hK; clear K; clear hK; clear K; refine hK _ ?_; clear hK; clear K)
    | (first | refine w_region (by kernel_rfl) (by conv => { lhs; whnf }) ?_ | refine w_regionD (by kernel_rfl) (by conv => { lhs; whnf }) ?_)
    | refine aops_nil ⟨by kernel_rfl, ?_⟩
    | refine aops_nil ?_
    | (first
      | refine e_val hTT false [] rfl rfl rfl rfl rfl (by conv => { lhs; whnf; try dsimp only [List.take, List.drop, List.set, setCells, splice, List.append_eq, List.nil_append, List.cons_append, List.append_nil, List.length_cons, List.length_nil, Nat.zero_add, Nat.add_zero] }) (by conv => { lhs; dsimp only [keysP, List.map] }) (by first | exact True.intro | omega | (simp only [inR]; omega) | exact Nat.le_of_ble_eq_true rfl | (refine ⟨by omega, Nat.le_of_ble_eq_true rfl⟩) | (simp; done) | (simp; omega)) ?_
      | refine e_pick rfl (by first | exact True.intro | (intro h; first | (rw [h]; rfl) | simpa using h)) (by first | exact True.intro | (intro h; first | (rw [h]; rfl) | simpa using h)) (by first | exact pickV_or _ _ | exact pickV_and _ _ | rfl) ?_
      | refine e_grd hTT false [] 1 rfl rfl rfl rfl rfl (by conv => { lhs; whnf; try dsimp only [List.take, List.drop, List.set, setCells, splice, List.append_eq, List.nil_append, List.cons_append, List.append_nil, List.length_cons, List.length_nil, Nat.zero_add, Nat.add_zero] }) (by conv => { lhs; dsimp only [keysP, List.map] }) (by intro hg; first | exact True.intro | exact Nat.le_of_ble_eq_true rfl | (simp at hg; first | omega | (simp only [inR]; omega) | (simp; omega))) ?_
      | refine e_grd hTT false [] 0 rfl rfl rfl rfl rfl (by conv => { lhs; whnf; try dsimp only [List.take, List.drop, List.set, setCells, splice, List.append_eq, List.nil_append, List.cons_append, List.append_nil, List.length_cons, List.length_nil, Nat.zero_add, Nat.add_zero] }) (by conv => { lhs; dsimp only [keysP, List.map] }) (by intro hg; first | exact True.intro | exact Nat.le_of_ble_eq_true rfl | (simp at hg; first | omega | (simp only [inR]; omega) | (simp; omega))) ?_
      | refine e_grd hTT false [] 2 rfl rfl rfl rfl rfl (by conv => { lhs; whnf; try dsimp only [List.take, List.drop, List.set, setCells, splice, List.append_eq, List.nil_append, List.cons_append, List.append_nil, List.length_cons, List.length_nil, Nat.zero_add, Nat.add_zero] }) (by conv => { lhs; dsimp only [keysP, List.map] }) (by intro hg; first | exact True.intro | exact Nat.le_of_ble_eq_true rfl | (simp at hg; first | omega | (simp only [inR]; omega) | (simp; omega))) ?_
      | refine e_store hTT false [] rfl rfl rfl rfl rfl (by conv => { lhs; whnf }) (by conv => { lhs; try dsimp only [List.take, List.drop, List.set, setCells, splice, List.append_eq, List.nil_append, List.cons_append, List.append_nil, List.length_cons, List.length_nil, Nat.zero_add, Nat.add_zero] }) (by conv => { lhs; dsimp only [keysP, List.map] }) (by first | exact True.intro | omega | (simp only [inR]; omega) | exact Nat.le_of_ble_eq_true rfl | (refine ⟨by omega, Nat.le_of_ble_eq_true rfl⟩) | (simp; done) | (simp; omega)) ?_
      | refine e_new hTT false [] rfl rfl rfl rfl rfl (by conv => { lhs; whnf; try dsimp only [List.take, List.drop, List.set, setCells, splice, List.append_eq, List.nil_append, List.cons_append, List.append_nil, List.length_cons, List.length_nil, Nat.zero_add, Nat.add_zero] }) (by conv => { lhs; whnf }) (by conv => { lhs; try dsimp only [List.take, List.drop, List.set, setCells, splice, List.append_eq, List.nil_append, List.cons_append, List.append_nil, List.length_cons, List.length_nil, Nat.zero_add, Nat.add_zero] }) (by conv => { lhs; dsimp only [keysP, List.map] }) (by first | exact True.intro | omega | (simp only [inR]; omega) | exact Nat.le_of_ble_eq_true rfl | (refine ⟨by omega, Nat.le_of_ble_eq_true rfl⟩) | (simp; done) | (simp; omega)) ?_
      | refine e_two hTT false [] rfl rfl rfl rfl rfl (by conv => { lhs; whnf; try dsimp only [List.take, List.drop, List.set, setCells, splice, List.append_eq, List.nil_append, List.cons_append, List.append_nil, List.length_cons, List.length_nil, Nat.zero_add, Nat.add_zero] }) (by conv => { lhs; whnf }) (by conv => { lhs; try dsimp only [List.take, List.drop, List.set, setCells, splice, List.append_eq, List.nil_append, List.cons_append, List.append_nil, List.length_cons, List.length_nil, Nat.zero_add, Nat.add_zero] }) (by conv => { lhs; whnf }) (by conv => { lhs; try dsimp only [List.take, List.drop, List.set, setCells, splice, List.append_eq, List.nil_append, List.cons_append, List.append_nil, List.length_cons, List.length_nil, Nat.zero_add, Nat.add_zero] }) (by conv => { lhs; dsimp only [keysP, List.map] }) (by first | exact True.intro | omega | (simp only [inR]; omega) | exact Nat.le_of_ble_eq_true rfl | (refine ⟨by omega, Nat.le_of_ble_eq_true rfl⟩) | (simp; done) | (simp; omega)) ?_
      | refine e_pickG rfl rfl (by first | exact pickV_or _ _ | exact pickV_and _ _ | rfl) (by first | exact True.intro | exact fun h => h) (by intro h; first | exact True.intro | (intro h2; first | (rw [h2]; rfl) | simp_all)) (by intro h; first | exact True.intro | (intro h2; first | (rw [h2]; rfl) | simp_all)) ?_))
  refine ret_pure (.inr rfl) rfl rfl rfl
set_option maxRecDepth 100000 in
theorem reads_ac (t : List Int) (l : List Pt) (ht : t.length ≤ 4611686018427387904) (hl : l.length ≤ 4611686018427387904) : AC Try.prog 7 [.agg [V.ints t], V.pts l] (.b true) [] := by
  refine ac_intro hTT hMX (fn := Try.f7) (N := _) ⟨Try.func7, rfl, Try.ntmps7, by kernel_rfl⟩ (by simp) fun C hC hF => ?_
  repeat (first
    | (refine aw_seq_k fun K hK => ?_)
    | (refine xt_n ?_)
    | (refine xt_r ?_)
    | (refine xt_x ?_)
    | (refine xb_n ?_)
    | (refine xb_r ?_)
    | (refine xb_same ?_)
    | (refine xb_ne rfl ?_)
    | (refine aw_block ?_)
    | (refine aw_ret ?_)
    | (refine aw_exit ?_)
    | (refine aw_skip ?_)
    | (refine aw_label ?_)
    | (refine hK _ ?_; clear hK; clear K)
    | (clear hK; clear K; refine hK _ ?_; clear hK; clear K)
    | (clear hK; clear K; clear hK; clear K; refine hK _ ?_; clear hK; clear K)
    | (clear hK; clear K; clear hK; clear K; clear hK; clear K; refine hK _ ?_; clear hK; clear K)
    | (clear hK; clear K; clear hK; clear K; clear hK; clear K; clear hK; clear K; refine hK _ ?_; clear hK; clear K)
    | (first | refine w_region (by kernel_rfl) (by conv => { lhs; whnf }) ?_ | refine w_regionD (by kernel_rfl) (by conv => { lhs; whnf }) ?_)
    | refine aops_nil ⟨by kernel_rfl, ?_⟩
    | refine aops_nil ?_
    | (first
      | refine e_val hTT false [] rfl rfl rfl rfl rfl (by conv => { lhs; whnf; try dsimp only [List.take, List.drop, List.set, setCells, splice, List.append_eq, List.nil_append, List.cons_append, List.append_nil, List.length_cons, List.length_nil, Nat.zero_add, Nat.add_zero] }) (by conv => { lhs; dsimp only [keysP, List.map] }) (by first | exact True.intro | omega | (simp only [inR]; omega) | exact Nat.le_of_ble_eq_true rfl | (refine ⟨by omega, Nat.le_of_ble_eq_true rfl⟩) | (simp; done) | (simp; omega)) ?_
      | refine e_pick rfl (by first | exact True.intro | (intro h; first | (rw [h]; rfl) | simpa using h)) (by first | exact True.intro | (intro h; first | (rw [h]; rfl) | simpa using h)) (by first | exact pickV_or _ _ | exact pickV_and _ _ | rfl) ?_
      | refine e_grd hTT false [] 1 rfl rfl rfl rfl rfl (by conv => { lhs; whnf; try dsimp only [List.take, List.drop, List.set, setCells, splice, List.append_eq, List.nil_append, List.cons_append, List.append_nil, List.length_cons, List.length_nil, Nat.zero_add, Nat.add_zero] }) (by conv => { lhs; dsimp only [keysP, List.map] }) (by intro hg; first | exact True.intro | exact Nat.le_of_ble_eq_true rfl | (simp at hg; first | omega | (simp only [inR]; omega) | (simp; omega))) ?_
      | refine e_grd hTT false [] 0 rfl rfl rfl rfl rfl (by conv => { lhs; whnf; try dsimp only [List.take, List.drop, List.set, setCells, splice, List.append_eq, List.nil_append, List.cons_append, List.append_nil, List.length_cons, List.length_nil, Nat.zero_add, Nat.add_zero] }) (by conv => { lhs; dsimp only [keysP, List.map] }) (by intro hg; first | exact True.intro | exact Nat.le_of_ble_eq_true rfl | (simp at hg; first | omega | (simp only [inR]; omega) | (simp; omega))) ?_
      | refine e_grd hTT false [] 2 rfl rfl rfl rfl rfl (by conv => { lhs; whnf; try dsimp only [List.take, List.drop, List.set, setCells, splice, List.append_eq, List.nil_append, List.cons_append, List.append_nil, List.length_cons, List.length_nil, Nat.zero_add, Nat.add_zero] }) (by conv => { lhs; dsimp only [keysP, List.map] }) (by intro hg; first | exact True.intro | exact Nat.le_of_ble_eq_true rfl | (simp at hg; first | omega | (simp only [inR]; omega) | (simp; omega))) ?_
      | refine e_store hTT false [] rfl rfl rfl rfl rfl (by conv => { lhs; whnf }) (by conv => { lhs; try dsimp only [List.take, List.drop, List.set, setCells, splice, List.append_eq, List.nil_append, List.cons_append, List.append_nil, List.length_cons, List.length_nil, Nat.zero_add, Nat.add_zero] }) (by conv => { lhs; dsimp only [keysP, List.map] }) (by first | exact True.intro | omega | (simp only [inR]; omega) | exact Nat.le_of_ble_eq_true rfl | (refine ⟨by omega, Nat.le_of_ble_eq_true rfl⟩) | (simp; done) | (simp; omega)) ?_
      | refine e_new hTT false [] rfl rfl rfl rfl rfl (by conv => { lhs; whnf; try dsimp only [List.take, List.drop, List.set, setCells, splice, List.append_eq, List.nil_append, List.cons_append, List.append_nil, List.length_cons, List.length_nil, Nat.zero_add, Nat.add_zero] }) (by conv => { lhs; whnf }) (by conv => { lhs; try dsimp only [List.take, List.drop, List.set, setCells, splice, List.append_eq, List.nil_append, List.cons_append, List.append_nil, List.length_cons, List.length_nil, Nat.zero_add, Nat.add_zero] }) (by conv => { lhs; dsimp only [keysP, List.map] }) (by first | exact True.intro | omega | (simp only [inR]; omega) | exact Nat.le_of_ble_eq_true rfl | (refine ⟨by omega, Nat.le_of_ble_eq_true rfl⟩) | (simp; done) | (simp; omega)) ?_
      | refine e_two hTT false [] rfl rfl rfl rfl rfl (by conv => { lhs; whnf; try dsimp only [List.take, List.drop, List.set, setCells, splice, List.append_eq, List.nil_append, List.cons_append, List.append_nil, List.length_cons, List.length_nil, Nat.zero_add, Nat.add_zero] }) (by conv => { lhs; whnf }) (by conv => { lhs; try dsimp only [List.take, List.drop, List.set, setCells, splice, List.append_eq, List.nil_append, List.cons_append, List.append_nil, List.length_cons, List.length_nil, Nat.zero_add, Nat.add_zero] }) (by conv => { lhs; whnf }) (by conv => { lhs; try dsimp only [List.take, List.drop, List.set, setCells, splice, List.append_eq, List.nil_append, List.cons_append, List.append_nil, List.length_cons, List.length_nil, Nat.zero_add, Nat.add_zero] }) (by conv => { lhs; dsimp only [keysP, List.map] }) (by first | exact True.intro | omega | (simp only [inR]; omega) | exact Nat.le_of_ble_eq_true rfl | (refine ⟨by omega, Nat.le_of_ble_eq_true rfl⟩) | (simp; done) | (simp; omega)) ?_
      | refine e_pickG rfl rfl (by first | exact pickV_or _ _ | exact pickV_and _ _ | rfl) (by first | exact True.intro | exact fun h => h) (by intro h; first | exact True.intro | (intro h2; first | (rw [h2]; rfl) | simp_all)) (by intro h; first | exact True.intro | (intro h2; first | (rw [h2]; rfl) | simp_all)) ?_))
  refine e_callG 1 rfl (fun _ => long_ac l 100) rfl rfl rfl rfl rfl rfl ?_
  repeat (first
    | (refine aw_seq_k fun K hK => ?_)
    | (refine xt_n ?_)
    | (refine xt_r ?_)
    | (refine xt_x ?_)
    | (refine xb_n ?_)
    | (refine xb_r ?_)
    | (refine xb_same ?_)
    | (refine xb_ne rfl ?_)
    | (refine aw_block ?_)
    | (refine aw_ret ?_)
    | (refine aw_exit ?_)
    | (refine aw_skip ?_)
    | (refine aw_label ?_)
    | (refine hK _ ?_; clear hK; clear K)
    | (clear hK; clear K; refine hK _ ?_; clear hK; clear K)
    | (clear hK; clear K; clear hK; clear K; refine hK _ ?_; clear hK; clear K)
    | (clear hK; clear K; clear hK; clear K; clear hK; clear K; refine hK _ ?_; clear hK; clear K)
    | (clear hK; clear K; clear hK; clear K; clear hK; clear K; clear hK; clear K; refine hK _ ?_; clear hK; clear K)
    | (first | refine w_region (by kernel_rfl) (by conv => { lhs; whnf }) ?_ | refine w_regionD (by kernel_rfl) (by conv => { lhs; whnf }) ?_)
    | refine aops_nil ⟨by kernel_rfl, ?_⟩
    | refine aops_nil ?_
    | (first
      | refine e_val hTT false [] rfl rfl rfl rfl rfl (by conv => { lhs; whnf; try dsimp only [List.take, List.drop, List.set, setCells, splice, List.append_eq, List.nil_append, List.cons_append, List.append_nil, List.length_cons, List.length_nil, Nat.zero_add, Nat.add_zero] }) (by conv => { lhs; dsimp only [keysP, List.map] }) (by first | exact True.intro | omega | (simp only [inR]; omega) | exact Nat.le_of_ble_eq_true rfl | (refine ⟨by omega, Nat.le_of_ble_eq_true rfl⟩) | (simp; done) | (simp; omega)) ?_
      | refine e_pick rfl (by first | exact True.intro | (intro h; first | (rw [h]; rfl) | simpa using h)) (by first | exact True.intro | (intro h; first | (rw [h]; rfl) | simpa using h)) (by first | exact pickV_or _ _ | exact pickV_and _ _ | rfl) ?_
      | refine e_grd hTT false [] 1 rfl rfl rfl rfl rfl (by conv => { lhs; whnf; try dsimp only [List.take, List.drop, List.set, setCells, splice, List.append_eq, List.nil_append, List.cons_append, List.append_nil, List.length_cons, List.length_nil, Nat.zero_add, Nat.add_zero] }) (by conv => { lhs; dsimp only [keysP, List.map] }) (by intro hg; first | exact True.intro | exact Nat.le_of_ble_eq_true rfl | (simp at hg; first | omega | (simp only [inR]; omega) | (simp; omega))) ?_
      | refine e_grd hTT false [] 0 rfl rfl rfl rfl rfl (by conv => { lhs; whnf; try dsimp only [List.take, List.drop, List.set, setCells, splice, List.append_eq, List.nil_append, List.cons_append, List.append_nil, List.length_cons, List.length_nil, Nat.zero_add, Nat.add_zero] }) (by conv => { lhs; dsimp only [keysP, List.map] }) (by intro hg; first | exact True.intro | exact Nat.le_of_ble_eq_true rfl | (simp at hg; first | omega | (simp only [inR]; omega) | (simp; omega))) ?_
      | refine e_grd hTT false [] 2 rfl rfl rfl rfl rfl (by conv => { lhs; whnf; try dsimp only [List.take, List.drop, List.set, setCells, splice, List.append_eq, List.nil_append, List.cons_append, List.append_nil, List.length_cons, List.length_nil, Nat.zero_add, Nat.add_zero] }) (by conv => { lhs; dsimp only [keysP, List.map] }) (by intro hg; first | exact True.intro | exact Nat.le_of_ble_eq_true rfl | (simp at hg; first | omega | (simp only [inR]; omega) | (simp; omega))) ?_
      | refine e_store hTT false [] rfl rfl rfl rfl rfl (by conv => { lhs; whnf }) (by conv => { lhs; try dsimp only [List.take, List.drop, List.set, setCells, splice, List.append_eq, List.nil_append, List.cons_append, List.append_nil, List.length_cons, List.length_nil, Nat.zero_add, Nat.add_zero] }) (by conv => { lhs; dsimp only [keysP, List.map] }) (by first | exact True.intro | omega | (simp only [inR]; omega) | exact Nat.le_of_ble_eq_true rfl | (refine ⟨by omega, Nat.le_of_ble_eq_true rfl⟩) | (simp; done) | (simp; omega)) ?_
      | refine e_new hTT false [] rfl rfl rfl rfl rfl (by conv => { lhs; whnf; try dsimp only [List.take, List.drop, List.set, setCells, splice, List.append_eq, List.nil_append, List.cons_append, List.append_nil, List.length_cons, List.length_nil, Nat.zero_add, Nat.add_zero] }) (by conv => { lhs; whnf }) (by conv => { lhs; try dsimp only [List.take, List.drop, List.set, setCells, splice, List.append_eq, List.nil_append, List.cons_append, List.append_nil, List.length_cons, List.length_nil, Nat.zero_add, Nat.add_zero] }) (by conv => { lhs; dsimp only [keysP, List.map] }) (by first | exact True.intro | omega | (simp only [inR]; omega) | exact Nat.le_of_ble_eq_true rfl | (refine ⟨by omega, Nat.le_of_ble_eq_true rfl⟩) | (simp; done) | (simp; omega)) ?_
      | refine e_two hTT false [] rfl rfl rfl rfl rfl (by conv => { lhs; whnf; try dsimp only [List.take, List.drop, List.set, setCells, splice, List.append_eq, List.nil_append, List.cons_append, List.append_nil, List.length_cons, List.length_nil, Nat.zero_add, Nat.add_zero] }) (by conv => { lhs; whnf }) (by conv => { lhs; try dsimp only [List.take, List.drop, List.set, setCells, splice, List.append_eq, List.nil_append, List.cons_append, List.append_nil, List.length_cons, List.length_nil, Nat.zero_add, Nat.add_zero] }) (by conv => { lhs; whnf }) (by conv => { lhs; try dsimp only [List.take, List.drop, List.set, setCells, splice, List.append_eq, List.nil_append, List.cons_append, List.append_nil, List.length_cons, List.length_nil, Nat.zero_add, Nat.add_zero] }) (by conv => { lhs; dsimp only [keysP, List.map] }) (by first | exact True.intro | omega | (simp only [inR]; omega) | exact Nat.le_of_ble_eq_true rfl | (refine ⟨by omega, Nat.le_of_ble_eq_true rfl⟩) | (simp; done) | (simp; omega)) ?_
      | refine e_pickG rfl rfl (by first | exact pickV_or _ _ | exact pickV_and _ _ | rfl) (by first | exact True.intro | exact fun h => h) (by intro h; first | exact True.intro | (intro h2; first | (rw [h2]; rfl) | simp_all)) (by intro h; first | exact True.intro | (intro h2; first | (rw [h2]; rfl) | simp_all)) ?_))
  have lR : (wallsR t l).length ≤ 4611686018427387904 := by rw [wallsR]; split; rw [readP_length]; exact hl; exact Nat.zero_le _
  have lS : (wallsS t l).length ≤ 4611686018427387904 := by rw [wallsS]; split; rw [sweepP_length]; exact hl; exact Nat.zero_le _
  refine w_cond rfl (fun h => ?_) (fun h => ?_)
  ·
    repeat (first
      | (refine aw_seq_k fun K hK => ?_)
      | (refine xt_n ?_)
      | (refine xt_r ?_)
      | (refine xt_x ?_)
      | (refine xb_n ?_)
      | (refine xb_r ?_)
      | (refine xb_same ?_)
      | (refine xb_ne rfl ?_)
      | (refine aw_block ?_)
      | (refine aw_ret ?_)
      | (refine aw_exit ?_)
      | (refine aw_skip ?_)
      | (refine aw_label ?_)
      | (refine hK _ ?_; clear hK; clear K)
      | (clear hK; clear K; refine hK _ ?_; clear hK; clear K)
      | (clear hK; clear K; clear hK; clear K; refine hK _ ?_; clear hK; clear K)
      | (clear hK; clear K; clear hK; clear K; clear hK; clear K; refine hK _ ?_; clear hK; clear K)
      | (clear hK; clear K; clear hK; clear K; clear hK; clear K; clear hK; clear K; refine hK _ ?_; clear hK; clear K)
      | (first | refine w_region (by kernel_rfl) (by conv => { lhs; whnf }) ?_ | refine w_regionD (by kernel_rfl) (by conv => { lhs; whnf }) ?_)
      | refine aops_nil ⟨by kernel_rfl, ?_⟩
      | refine aops_nil ?_
      | (first
        | refine e_val hTT false [] rfl rfl rfl rfl rfl (by conv => { lhs; whnf; try dsimp only [List.take, List.drop, List.set, setCells, splice, List.append_eq, List.nil_append, List.cons_append, List.append_nil, List.length_cons, List.length_nil, Nat.zero_add, Nat.add_zero] }) (by conv => { lhs; dsimp only [keysP, List.map] }) (by first | exact True.intro | omega | (simp only [inR]; omega) | exact Nat.le_of_ble_eq_true rfl | (refine ⟨by omega, Nat.le_of_ble_eq_true rfl⟩) | (simp; done) | (simp; omega)) ?_
        | refine e_pick rfl (by first | exact True.intro | (intro h; first | (rw [h]; rfl) | simpa using h)) (by first | exact True.intro | (intro h; first | (rw [h]; rfl) | simpa using h)) (by first | exact pickV_or _ _ | exact pickV_and _ _ | rfl) ?_
        | refine e_grd hTT false [] 1 rfl rfl rfl rfl rfl (by conv => { lhs; whnf; try dsimp only [List.take, List.drop, List.set, setCells, splice, List.append_eq, List.nil_append, List.cons_append, List.append_nil, List.length_cons, List.length_nil, Nat.zero_add, Nat.add_zero] }) (by conv => { lhs; dsimp only [keysP, List.map] }) (by intro hg; first | exact True.intro | exact Nat.le_of_ble_eq_true rfl | (simp at hg; first | omega | (simp only [inR]; omega) | (simp; omega))) ?_
        | refine e_grd hTT false [] 0 rfl rfl rfl rfl rfl (by conv => { lhs; whnf; try dsimp only [List.take, List.drop, List.set, setCells, splice, List.append_eq, List.nil_append, List.cons_append, List.append_nil, List.length_cons, List.length_nil, Nat.zero_add, Nat.add_zero] }) (by conv => { lhs; dsimp only [keysP, List.map] }) (by intro hg; first | exact True.intro | exact Nat.le_of_ble_eq_true rfl | (simp at hg; first | omega | (simp only [inR]; omega) | (simp; omega))) ?_
        | refine e_grd hTT false [] 2 rfl rfl rfl rfl rfl (by conv => { lhs; whnf; try dsimp only [List.take, List.drop, List.set, setCells, splice, List.append_eq, List.nil_append, List.cons_append, List.append_nil, List.length_cons, List.length_nil, Nat.zero_add, Nat.add_zero] }) (by conv => { lhs; dsimp only [keysP, List.map] }) (by intro hg; first | exact True.intro | exact Nat.le_of_ble_eq_true rfl | (simp at hg; first | omega | (simp only [inR]; omega) | (simp; omega))) ?_
        | refine e_store hTT false [] rfl rfl rfl rfl rfl (by conv => { lhs; whnf }) (by conv => { lhs; try dsimp only [List.take, List.drop, List.set, setCells, splice, List.append_eq, List.nil_append, List.cons_append, List.append_nil, List.length_cons, List.length_nil, Nat.zero_add, Nat.add_zero] }) (by conv => { lhs; dsimp only [keysP, List.map] }) (by first | exact True.intro | omega | (simp only [inR]; omega) | exact Nat.le_of_ble_eq_true rfl | (refine ⟨by omega, Nat.le_of_ble_eq_true rfl⟩) | (simp; done) | (simp; omega)) ?_
        | refine e_new hTT false [] rfl rfl rfl rfl rfl (by conv => { lhs; whnf; try dsimp only [List.take, List.drop, List.set, setCells, splice, List.append_eq, List.nil_append, List.cons_append, List.append_nil, List.length_cons, List.length_nil, Nat.zero_add, Nat.add_zero] }) (by conv => { lhs; whnf }) (by conv => { lhs; try dsimp only [List.take, List.drop, List.set, setCells, splice, List.append_eq, List.nil_append, List.cons_append, List.append_nil, List.length_cons, List.length_nil, Nat.zero_add, Nat.add_zero] }) (by conv => { lhs; dsimp only [keysP, List.map] }) (by first | exact True.intro | omega | (simp only [inR]; omega) | exact Nat.le_of_ble_eq_true rfl | (refine ⟨by omega, Nat.le_of_ble_eq_true rfl⟩) | (simp; done) | (simp; omega)) ?_
        | refine e_two hTT false [] rfl rfl rfl rfl rfl (by conv => { lhs; whnf; try dsimp only [List.take, List.drop, List.set, setCells, splice, List.append_eq, List.nil_append, List.cons_append, List.append_nil, List.length_cons, List.length_nil, Nat.zero_add, Nat.add_zero] }) (by conv => { lhs; whnf }) (by conv => { lhs; try dsimp only [List.take, List.drop, List.set, setCells, splice, List.append_eq, List.nil_append, List.cons_append, List.append_nil, List.length_cons, List.length_nil, Nat.zero_add, Nat.add_zero] }) (by conv => { lhs; whnf }) (by conv => { lhs; try dsimp only [List.take, List.drop, List.set, setCells, splice, List.append_eq, List.nil_append, List.cons_append, List.append_nil, List.length_cons, List.length_nil, Nat.zero_add, Nat.add_zero] }) (by conv => { lhs; dsimp only [keysP, List.map] }) (by first | exact True.intro | omega | (simp only [inR]; omega) | exact Nat.le_of_ble_eq_true rfl | (refine ⟨by omega, Nat.le_of_ble_eq_true rfl⟩) | (simp; done) | (simp; omega)) ?_
        | refine e_pickG rfl rfl (by first | exact pickV_or _ _ | exact pickV_and _ _ | rfl) (by first | exact True.intro | exact fun h => h) (by intro h; first | exact True.intro | (intro h2; first | (rw [h2]; rfl) | simp_all)) (by intro h; first | exact True.intro | (intro h2; first | (rw [h2]; rfl) | simp_all)) ?_))
    refine e_call works_ac rfl rfl rfl rfl rfl ?_
    repeat (first
      | (refine aw_seq_k fun K hK => ?_)
      | (refine xt_n ?_)
      | (refine xt_r ?_)
      | (refine xt_x ?_)
      | (refine xb_n ?_)
      | (refine xb_r ?_)
      | (refine xb_same ?_)
      | (refine xb_ne rfl ?_)
      | (refine aw_block ?_)
      | (refine aw_ret ?_)
      | (refine aw_exit ?_)
      | (refine aw_skip ?_)
      | (refine aw_label ?_)
      | (refine hK _ ?_; clear hK; clear K)
      | (clear hK; clear K; refine hK _ ?_; clear hK; clear K)
      | (clear hK; clear K; clear hK; clear K; refine hK _ ?_; clear hK; clear K)
      | (clear hK; clear K; clear hK; clear K; clear hK; clear K; refine hK _ ?_; clear hK; clear K)
      | (clear hK; clear K; clear hK; clear K; clear hK; clear K; clear hK; clear K; refine hK _ ?_; clear hK; clear K)
      | (first | refine w_region (by kernel_rfl) (by conv => { lhs; whnf }) ?_ | refine w_regionD (by kernel_rfl) (by conv => { lhs; whnf }) ?_)
      | refine aops_nil ⟨by kernel_rfl, ?_⟩
      | refine aops_nil ?_
      | (first
        | refine e_val hTT false [] rfl rfl rfl rfl rfl (by conv => { lhs; whnf; try dsimp only [List.take, List.drop, List.set, setCells, splice, List.append_eq, List.nil_append, List.cons_append, List.append_nil, List.length_cons, List.length_nil, Nat.zero_add, Nat.add_zero] }) (by conv => { lhs; dsimp only [keysP, List.map] }) (by first | exact True.intro | omega | (simp only [inR]; omega) | exact Nat.le_of_ble_eq_true rfl | (refine ⟨by omega, Nat.le_of_ble_eq_true rfl⟩) | (simp; done) | (simp; omega)) ?_
        | refine e_pick rfl (by first | exact True.intro | (intro h; first | (rw [h]; rfl) | simpa using h)) (by first | exact True.intro | (intro h; first | (rw [h]; rfl) | simpa using h)) (by first | exact pickV_or _ _ | exact pickV_and _ _ | rfl) ?_
        | refine e_grd hTT false [] 1 rfl rfl rfl rfl rfl (by conv => { lhs; whnf; try dsimp only [List.take, List.drop, List.set, setCells, splice, List.append_eq, List.nil_append, List.cons_append, List.append_nil, List.length_cons, List.length_nil, Nat.zero_add, Nat.add_zero] }) (by conv => { lhs; dsimp only [keysP, List.map] }) (by intro hg; first | exact True.intro | exact Nat.le_of_ble_eq_true rfl | (simp at hg; first | omega | (simp only [inR]; omega) | (simp; omega))) ?_
        | refine e_grd hTT false [] 0 rfl rfl rfl rfl rfl (by conv => { lhs; whnf; try dsimp only [List.take, List.drop, List.set, setCells, splice, List.append_eq, List.nil_append, List.cons_append, List.append_nil, List.length_cons, List.length_nil, Nat.zero_add, Nat.add_zero] }) (by conv => { lhs; dsimp only [keysP, List.map] }) (by intro hg; first | exact True.intro | exact Nat.le_of_ble_eq_true rfl | (simp at hg; first | omega | (simp only [inR]; omega) | (simp; omega))) ?_
        | refine e_grd hTT false [] 2 rfl rfl rfl rfl rfl (by conv => { lhs; whnf; try dsimp only [List.take, List.drop, List.set, setCells, splice, List.append_eq, List.nil_append, List.cons_append, List.append_nil, List.length_cons, List.length_nil, Nat.zero_add, Nat.add_zero] }) (by conv => { lhs; dsimp only [keysP, List.map] }) (by intro hg; first | exact True.intro | exact Nat.le_of_ble_eq_true rfl | (simp at hg; first | omega | (simp only [inR]; omega) | (simp; omega))) ?_
        | refine e_store hTT false [] rfl rfl rfl rfl rfl (by conv => { lhs; whnf }) (by conv => { lhs; try dsimp only [List.take, List.drop, List.set, setCells, splice, List.append_eq, List.nil_append, List.cons_append, List.append_nil, List.length_cons, List.length_nil, Nat.zero_add, Nat.add_zero] }) (by conv => { lhs; dsimp only [keysP, List.map] }) (by first | exact True.intro | omega | (simp only [inR]; omega) | exact Nat.le_of_ble_eq_true rfl | (refine ⟨by omega, Nat.le_of_ble_eq_true rfl⟩) | (simp; done) | (simp; omega)) ?_
        | refine e_new hTT false [] rfl rfl rfl rfl rfl (by conv => { lhs; whnf; try dsimp only [List.take, List.drop, List.set, setCells, splice, List.append_eq, List.nil_append, List.cons_append, List.append_nil, List.length_cons, List.length_nil, Nat.zero_add, Nat.add_zero] }) (by conv => { lhs; whnf }) (by conv => { lhs; try dsimp only [List.take, List.drop, List.set, setCells, splice, List.append_eq, List.nil_append, List.cons_append, List.append_nil, List.length_cons, List.length_nil, Nat.zero_add, Nat.add_zero] }) (by conv => { lhs; dsimp only [keysP, List.map] }) (by first | exact True.intro | omega | (simp only [inR]; omega) | exact Nat.le_of_ble_eq_true rfl | (refine ⟨by omega, Nat.le_of_ble_eq_true rfl⟩) | (simp; done) | (simp; omega)) ?_
        | refine e_two hTT false [] rfl rfl rfl rfl rfl (by conv => { lhs; whnf; try dsimp only [List.take, List.drop, List.set, setCells, splice, List.append_eq, List.nil_append, List.cons_append, List.append_nil, List.length_cons, List.length_nil, Nat.zero_add, Nat.add_zero] }) (by conv => { lhs; whnf }) (by conv => { lhs; try dsimp only [List.take, List.drop, List.set, setCells, splice, List.append_eq, List.nil_append, List.cons_append, List.append_nil, List.length_cons, List.length_nil, Nat.zero_add, Nat.add_zero] }) (by conv => { lhs; whnf }) (by conv => { lhs; try dsimp only [List.take, List.drop, List.set, setCells, splice, List.append_eq, List.nil_append, List.cons_append, List.append_nil, List.length_cons, List.length_nil, Nat.zero_add, Nat.add_zero] }) (by conv => { lhs; dsimp only [keysP, List.map] }) (by first | exact True.intro | omega | (simp only [inR]; omega) | exact Nat.le_of_ble_eq_true rfl | (refine ⟨by omega, Nat.le_of_ble_eq_true rfl⟩) | (simp; done) | (simp; omega)) ?_
        | refine e_pickG rfl rfl (by first | exact pickV_or _ _ | exact pickV_and _ _ | rfl) (by first | exact True.intro | exact fun h => h) (by intro h; first | exact True.intro | (intro h2; first | (rw [h2]; rfl) | simp_all)) (by intro h; first | exact True.intro | (intro h2; first | (rw [h2]; rfl) | simp_all)) ?_))
    refine ret_pure (.inr rfl) rfl rfl rfl
  · simp at h
    repeat (first
      | (refine aw_seq_k fun K hK => ?_)
      | (refine xt_n ?_)
      | (refine xt_r ?_)
      | (refine xt_x ?_)
      | (refine xb_n ?_)
      | (refine xb_r ?_)
      | (refine xb_same ?_)
      | (refine xb_ne rfl ?_)
      | (refine aw_block ?_)
      | (refine aw_ret ?_)
      | (refine aw_exit ?_)
      | (refine aw_skip ?_)
      | (refine aw_label ?_)
      | (refine hK _ ?_; clear hK; clear K)
      | (clear hK; clear K; refine hK _ ?_; clear hK; clear K)
      | (clear hK; clear K; clear hK; clear K; refine hK _ ?_; clear hK; clear K)
      | (clear hK; clear K; clear hK; clear K; clear hK; clear K; refine hK _ ?_; clear hK; clear K)
      | (clear hK; clear K; clear hK; clear K; clear hK; clear K; clear hK; clear K; refine hK _ ?_; clear hK; clear K)
      | (first | refine w_region (by kernel_rfl) (by conv => { lhs; whnf }) ?_ | refine w_regionD (by kernel_rfl) (by conv => { lhs; whnf }) ?_)
      | refine aops_nil ⟨by kernel_rfl, ?_⟩
      | refine aops_nil ?_
      | (first
        | refine e_val hTT false [] rfl rfl rfl rfl rfl (by conv => { lhs; whnf; try dsimp only [List.take, List.drop, List.set, setCells, splice, List.append_eq, List.nil_append, List.cons_append, List.append_nil, List.length_cons, List.length_nil, Nat.zero_add, Nat.add_zero] }) (by conv => { lhs; dsimp only [keysP, List.map] }) (by first | exact True.intro | omega | (simp only [inR]; omega) | exact Nat.le_of_ble_eq_true rfl | (refine ⟨by omega, Nat.le_of_ble_eq_true rfl⟩) | (simp; done) | (simp; omega)) ?_
        | refine e_pick rfl (by first | exact True.intro | (intro h; first | (rw [h]; rfl) | simpa using h)) (by first | exact True.intro | (intro h; first | (rw [h]; rfl) | simpa using h)) (by first | exact pickV_or _ _ | exact pickV_and _ _ | rfl) ?_
        | refine e_grd hTT false [] 1 rfl rfl rfl rfl rfl (by conv => { lhs; whnf; try dsimp only [List.take, List.drop, List.set, setCells, splice, List.append_eq, List.nil_append, List.cons_append, List.append_nil, List.length_cons, List.length_nil, Nat.zero_add, Nat.add_zero] }) (by conv => { lhs; dsimp only [keysP, List.map] }) (by intro hg; first | exact True.intro | exact Nat.le_of_ble_eq_true rfl | (simp at hg; first | omega | (simp only [inR]; omega) | (simp; omega))) ?_
        | refine e_grd hTT false [] 0 rfl rfl rfl rfl rfl (by conv => { lhs; whnf; try dsimp only [List.take, List.drop, List.set, setCells, splice, List.append_eq, List.nil_append, List.cons_append, List.append_nil, List.length_cons, List.length_nil, Nat.zero_add, Nat.add_zero] }) (by conv => { lhs; dsimp only [keysP, List.map] }) (by intro hg; first | exact True.intro | exact Nat.le_of_ble_eq_true rfl | (simp at hg; first | omega | (simp only [inR]; omega) | (simp; omega))) ?_
        | refine e_grd hTT false [] 2 rfl rfl rfl rfl rfl (by conv => { lhs; whnf; try dsimp only [List.take, List.drop, List.set, setCells, splice, List.append_eq, List.nil_append, List.cons_append, List.append_nil, List.length_cons, List.length_nil, Nat.zero_add, Nat.add_zero] }) (by conv => { lhs; dsimp only [keysP, List.map] }) (by intro hg; first | exact True.intro | exact Nat.le_of_ble_eq_true rfl | (simp at hg; first | omega | (simp only [inR]; omega) | (simp; omega))) ?_
        | refine e_store hTT false [] rfl rfl rfl rfl rfl (by conv => { lhs; whnf }) (by conv => { lhs; try dsimp only [List.take, List.drop, List.set, setCells, splice, List.append_eq, List.nil_append, List.cons_append, List.append_nil, List.length_cons, List.length_nil, Nat.zero_add, Nat.add_zero] }) (by conv => { lhs; dsimp only [keysP, List.map] }) (by first | exact True.intro | omega | (simp only [inR]; omega) | exact Nat.le_of_ble_eq_true rfl | (refine ⟨by omega, Nat.le_of_ble_eq_true rfl⟩) | (simp; done) | (simp; omega)) ?_
        | refine e_new hTT false [] rfl rfl rfl rfl rfl (by conv => { lhs; whnf; try dsimp only [List.take, List.drop, List.set, setCells, splice, List.append_eq, List.nil_append, List.cons_append, List.append_nil, List.length_cons, List.length_nil, Nat.zero_add, Nat.add_zero] }) (by conv => { lhs; whnf }) (by conv => { lhs; try dsimp only [List.take, List.drop, List.set, setCells, splice, List.append_eq, List.nil_append, List.cons_append, List.append_nil, List.length_cons, List.length_nil, Nat.zero_add, Nat.add_zero] }) (by conv => { lhs; dsimp only [keysP, List.map] }) (by first | exact True.intro | omega | (simp only [inR]; omega) | exact Nat.le_of_ble_eq_true rfl | (refine ⟨by omega, Nat.le_of_ble_eq_true rfl⟩) | (simp; done) | (simp; omega)) ?_
        | refine e_two hTT false [] rfl rfl rfl rfl rfl (by conv => { lhs; whnf; try dsimp only [List.take, List.drop, List.set, setCells, splice, List.append_eq, List.nil_append, List.cons_append, List.append_nil, List.length_cons, List.length_nil, Nat.zero_add, Nat.add_zero] }) (by conv => { lhs; whnf }) (by conv => { lhs; try dsimp only [List.take, List.drop, List.set, setCells, splice, List.append_eq, List.nil_append, List.cons_append, List.append_nil, List.length_cons, List.length_nil, Nat.zero_add, Nat.add_zero] }) (by conv => { lhs; whnf }) (by conv => { lhs; try dsimp only [List.take, List.drop, List.set, setCells, splice, List.append_eq, List.nil_append, List.cons_append, List.append_nil, List.length_cons, List.length_nil, Nat.zero_add, Nat.add_zero] }) (by conv => { lhs; dsimp only [keysP, List.map] }) (by first | exact True.intro | omega | (simp only [inR]; omega) | exact Nat.le_of_ble_eq_true rfl | (refine ⟨by omega, Nat.le_of_ble_eq_true rfl⟩) | (simp; done) | (simp; omega)) ?_
        | refine e_pickG rfl rfl (by first | exact pickV_or _ _ | exact pickV_and _ _ | rfl) (by first | exact True.intro | exact fun h => h) (by intro h; first | exact True.intro | (intro h2; first | (rw [h2]; rfl) | simp_all)) (by intro h; first | exact True.intro | (intro h2; first | (rw [h2]; rfl) | simp_all)) ?_))
    refine e_call (Read_ac t l ht hl) rfl rfl rfl rfl rfl ?_
    repeat (first
      | (refine aw_seq_k fun K hK => ?_)
      | (refine xt_n ?_)
      | (refine xt_r ?_)
      | (refine xt_x ?_)
      | (refine xb_n ?_)
      | (refine xb_r ?_)
      | (refine xb_same ?_)
      | (refine xb_ne rfl ?_)
      | (refine aw_block ?_)
      | (refine aw_ret ?_)
      | (refine aw_exit ?_)
      | (refine aw_skip ?_)
      | (refine aw_label ?_)
      | (refine hK _ ?_; clear hK; clear K)
      | (clear hK; clear K; refine hK _ ?_; clear hK; clear K)
      | (clear hK; clear K; clear hK; clear K; refine hK _ ?_; clear hK; clear K)
      | (clear hK; clear K; clear hK; clear K; clear hK; clear K; refine hK _ ?_; clear hK; clear K)
      | (clear hK; clear K; clear hK; clear K; clear hK; clear K; clear hK; clear K; refine hK _ ?_; clear hK; clear K)
      | (first | refine w_region (by kernel_rfl) (by conv => { lhs; whnf }) ?_ | refine w_regionD (by kernel_rfl) (by conv => { lhs; whnf }) ?_)
      | refine aops_nil ⟨by kernel_rfl, ?_⟩
      | refine aops_nil ?_
      | (first
        | refine e_val hTT false [] rfl rfl rfl rfl rfl (by conv => { lhs; whnf; try dsimp only [List.take, List.drop, List.set, setCells, splice, List.append_eq, List.nil_append, List.cons_append, List.append_nil, List.length_cons, List.length_nil, Nat.zero_add, Nat.add_zero] }) (by conv => { lhs; dsimp only [keysP, List.map] }) (by first | exact True.intro | omega | (simp only [inR]; omega) | exact Nat.le_of_ble_eq_true rfl | (refine ⟨by omega, Nat.le_of_ble_eq_true rfl⟩) | (simp; done) | (simp; omega)) ?_
        | refine e_pick rfl (by first | exact True.intro | (intro h; first | (rw [h]; rfl) | simpa using h)) (by first | exact True.intro | (intro h; first | (rw [h]; rfl) | simpa using h)) (by first | exact pickV_or _ _ | exact pickV_and _ _ | rfl) ?_
        | refine e_grd hTT false [] 1 rfl rfl rfl rfl rfl (by conv => { lhs; whnf; try dsimp only [List.take, List.drop, List.set, setCells, splice, List.append_eq, List.nil_append, List.cons_append, List.append_nil, List.length_cons, List.length_nil, Nat.zero_add, Nat.add_zero] }) (by conv => { lhs; dsimp only [keysP, List.map] }) (by intro hg; first | exact True.intro | exact Nat.le_of_ble_eq_true rfl | (simp at hg; first | omega | (simp only [inR]; omega) | (simp; omega))) ?_
        | refine e_grd hTT false [] 0 rfl rfl rfl rfl rfl (by conv => { lhs; whnf; try dsimp only [List.take, List.drop, List.set, setCells, splice, List.append_eq, List.nil_append, List.cons_append, List.append_nil, List.length_cons, List.length_nil, Nat.zero_add, Nat.add_zero] }) (by conv => { lhs; dsimp only [keysP, List.map] }) (by intro hg; first | exact True.intro | exact Nat.le_of_ble_eq_true rfl | (simp at hg; first | omega | (simp only [inR]; omega) | (simp; omega))) ?_
        | refine e_grd hTT false [] 2 rfl rfl rfl rfl rfl (by conv => { lhs; whnf; try dsimp only [List.take, List.drop, List.set, setCells, splice, List.append_eq, List.nil_append, List.cons_append, List.append_nil, List.length_cons, List.length_nil, Nat.zero_add, Nat.add_zero] }) (by conv => { lhs; dsimp only [keysP, List.map] }) (by intro hg; first | exact True.intro | exact Nat.le_of_ble_eq_true rfl | (simp at hg; first | omega | (simp only [inR]; omega) | (simp; omega))) ?_
        | refine e_store hTT false [] rfl rfl rfl rfl rfl (by conv => { lhs; whnf }) (by conv => { lhs; try dsimp only [List.take, List.drop, List.set, setCells, splice, List.append_eq, List.nil_append, List.cons_append, List.append_nil, List.length_cons, List.length_nil, Nat.zero_add, Nat.add_zero] }) (by conv => { lhs; dsimp only [keysP, List.map] }) (by first | exact True.intro | omega | (simp only [inR]; omega) | exact Nat.le_of_ble_eq_true rfl | (refine ⟨by omega, Nat.le_of_ble_eq_true rfl⟩) | (simp; done) | (simp; omega)) ?_
        | refine e_new hTT false [] rfl rfl rfl rfl rfl (by conv => { lhs; whnf; try dsimp only [List.take, List.drop, List.set, setCells, splice, List.append_eq, List.nil_append, List.cons_append, List.append_nil, List.length_cons, List.length_nil, Nat.zero_add, Nat.add_zero] }) (by conv => { lhs; whnf }) (by conv => { lhs; try dsimp only [List.take, List.drop, List.set, setCells, splice, List.append_eq, List.nil_append, List.cons_append, List.append_nil, List.length_cons, List.length_nil, Nat.zero_add, Nat.add_zero] }) (by conv => { lhs; dsimp only [keysP, List.map] }) (by first | exact True.intro | omega | (simp only [inR]; omega) | exact Nat.le_of_ble_eq_true rfl | (refine ⟨by omega, Nat.le_of_ble_eq_true rfl⟩) | (simp; done) | (simp; omega)) ?_
        | refine e_two hTT false [] rfl rfl rfl rfl rfl (by conv => { lhs; whnf; try dsimp only [List.take, List.drop, List.set, setCells, splice, List.append_eq, List.nil_append, List.cons_append, List.append_nil, List.length_cons, List.length_nil, Nat.zero_add, Nat.add_zero] }) (by conv => { lhs; whnf }) (by conv => { lhs; try dsimp only [List.take, List.drop, List.set, setCells, splice, List.append_eq, List.nil_append, List.cons_append, List.append_nil, List.length_cons, List.length_nil, Nat.zero_add, Nat.add_zero] }) (by conv => { lhs; whnf }) (by conv => { lhs; try dsimp only [List.take, List.drop, List.set, setCells, splice, List.append_eq, List.nil_append, List.cons_append, List.append_nil, List.length_cons, List.length_nil, Nat.zero_add, Nat.add_zero] }) (by conv => { lhs; dsimp only [keysP, List.map] }) (by first | exact True.intro | omega | (simp only [inR]; omega) | exact Nat.le_of_ble_eq_true rfl | (refine ⟨by omega, Nat.le_of_ble_eq_true rfl⟩) | (simp; done) | (simp; omega)) ?_
        | refine e_pickG rfl rfl (by first | exact pickV_or _ _ | exact pickV_and _ _ | rfl) (by first | exact True.intro | exact fun h => h) (by intro h; first | exact True.intro | (intro h2; first | (rw [h2]; rfl) | simp_all)) (by intro h; first | exact True.intro | (intro h2; first | (rw [h2]; rfl) | simp_all)) ?_))
    refine e_call (refRead_ac t l ht hl) rfl rfl rfl rfl rfl ?_
    repeat (first
      | (refine aw_seq_k fun K hK => ?_)
      | (refine xt_n ?_)
      | (refine xt_r ?_)
      | (refine xt_x ?_)
      | (refine xb_n ?_)
      | (refine xb_r ?_)
      | (refine xb_same ?_)
      | (refine xb_ne rfl ?_)
      | (refine aw_block ?_)
      | (refine aw_ret ?_)
      | (refine aw_exit ?_)
      | (refine aw_skip ?_)
      | (refine aw_label ?_)
      | (refine hK _ ?_; clear hK; clear K)
      | (clear hK; clear K; refine hK _ ?_; clear hK; clear K)
      | (clear hK; clear K; clear hK; clear K; refine hK _ ?_; clear hK; clear K)
      | (clear hK; clear K; clear hK; clear K; clear hK; clear K; refine hK _ ?_; clear hK; clear K)
      | (clear hK; clear K; clear hK; clear K; clear hK; clear K; clear hK; clear K; refine hK _ ?_; clear hK; clear K)
      | (first | refine w_region (by kernel_rfl) (by conv => { lhs; whnf }) ?_ | refine w_regionD (by kernel_rfl) (by conv => { lhs; whnf }) ?_)
      | refine aops_nil ⟨by kernel_rfl, ?_⟩
      | refine aops_nil ?_
      | (first
        | refine e_val hTT false [] rfl rfl rfl rfl rfl (by conv => { lhs; whnf; try dsimp only [List.take, List.drop, List.set, setCells, splice, List.append_eq, List.nil_append, List.cons_append, List.append_nil, List.length_cons, List.length_nil, Nat.zero_add, Nat.add_zero] }) (by conv => { lhs; dsimp only [keysP, List.map] }) (by first | exact True.intro | omega | (simp only [inR]; omega) | exact Nat.le_of_ble_eq_true rfl | (refine ⟨by omega, Nat.le_of_ble_eq_true rfl⟩) | (simp; done) | (simp; omega)) ?_
        | refine e_pick rfl (by first | exact True.intro | (intro h; first | (rw [h]; rfl) | simpa using h)) (by first | exact True.intro | (intro h; first | (rw [h]; rfl) | simpa using h)) (by first | exact pickV_or _ _ | exact pickV_and _ _ | rfl) ?_
        | refine e_grd hTT false [] 1 rfl rfl rfl rfl rfl (by conv => { lhs; whnf; try dsimp only [List.take, List.drop, List.set, setCells, splice, List.append_eq, List.nil_append, List.cons_append, List.append_nil, List.length_cons, List.length_nil, Nat.zero_add, Nat.add_zero] }) (by conv => { lhs; dsimp only [keysP, List.map] }) (by intro hg; first | exact True.intro | exact Nat.le_of_ble_eq_true rfl | (simp at hg; first | omega | (simp only [inR]; omega) | (simp; omega))) ?_
        | refine e_grd hTT false [] 0 rfl rfl rfl rfl rfl (by conv => { lhs; whnf; try dsimp only [List.take, List.drop, List.set, setCells, splice, List.append_eq, List.nil_append, List.cons_append, List.append_nil, List.length_cons, List.length_nil, Nat.zero_add, Nat.add_zero] }) (by conv => { lhs; dsimp only [keysP, List.map] }) (by intro hg; first | exact True.intro | exact Nat.le_of_ble_eq_true rfl | (simp at hg; first | omega | (simp only [inR]; omega) | (simp; omega))) ?_
        | refine e_grd hTT false [] 2 rfl rfl rfl rfl rfl (by conv => { lhs; whnf; try dsimp only [List.take, List.drop, List.set, setCells, splice, List.append_eq, List.nil_append, List.cons_append, List.append_nil, List.length_cons, List.length_nil, Nat.zero_add, Nat.add_zero] }) (by conv => { lhs; dsimp only [keysP, List.map] }) (by intro hg; first | exact True.intro | exact Nat.le_of_ble_eq_true rfl | (simp at hg; first | omega | (simp only [inR]; omega) | (simp; omega))) ?_
        | refine e_store hTT false [] rfl rfl rfl rfl rfl (by conv => { lhs; whnf }) (by conv => { lhs; try dsimp only [List.take, List.drop, List.set, setCells, splice, List.append_eq, List.nil_append, List.cons_append, List.append_nil, List.length_cons, List.length_nil, Nat.zero_add, Nat.add_zero] }) (by conv => { lhs; dsimp only [keysP, List.map] }) (by first | exact True.intro | omega | (simp only [inR]; omega) | exact Nat.le_of_ble_eq_true rfl | (refine ⟨by omega, Nat.le_of_ble_eq_true rfl⟩) | (simp; done) | (simp; omega)) ?_
        | refine e_new hTT false [] rfl rfl rfl rfl rfl (by conv => { lhs; whnf; try dsimp only [List.take, List.drop, List.set, setCells, splice, List.append_eq, List.nil_append, List.cons_append, List.append_nil, List.length_cons, List.length_nil, Nat.zero_add, Nat.add_zero] }) (by conv => { lhs; whnf }) (by conv => { lhs; try dsimp only [List.take, List.drop, List.set, setCells, splice, List.append_eq, List.nil_append, List.cons_append, List.append_nil, List.length_cons, List.length_nil, Nat.zero_add, Nat.add_zero] }) (by conv => { lhs; dsimp only [keysP, List.map] }) (by first | exact True.intro | omega | (simp only [inR]; omega) | exact Nat.le_of_ble_eq_true rfl | (refine ⟨by omega, Nat.le_of_ble_eq_true rfl⟩) | (simp; done) | (simp; omega)) ?_
        | refine e_two hTT false [] rfl rfl rfl rfl rfl (by conv => { lhs; whnf; try dsimp only [List.take, List.drop, List.set, setCells, splice, List.append_eq, List.nil_append, List.cons_append, List.append_nil, List.length_cons, List.length_nil, Nat.zero_add, Nat.add_zero] }) (by conv => { lhs; whnf }) (by conv => { lhs; try dsimp only [List.take, List.drop, List.set, setCells, splice, List.append_eq, List.nil_append, List.cons_append, List.append_nil, List.length_cons, List.length_nil, Nat.zero_add, Nat.add_zero] }) (by conv => { lhs; whnf }) (by conv => { lhs; try dsimp only [List.take, List.drop, List.set, setCells, splice, List.append_eq, List.nil_append, List.cons_append, List.append_nil, List.length_cons, List.length_nil, Nat.zero_add, Nat.add_zero] }) (by conv => { lhs; dsimp only [keysP, List.map] }) (by first | exact True.intro | omega | (simp only [inR]; omega) | exact Nat.le_of_ble_eq_true rfl | (refine ⟨by omega, Nat.le_of_ble_eq_true rfl⟩) | (simp; done) | (simp; omega)) ?_
        | refine e_pickG rfl rfl (by first | exact pickV_or _ _ | exact pickV_and _ _ | rfl) (by first | exact True.intro | exact fun h => h) (by intro h; first | exact True.intro | (intro h2; first | (rw [h2]; rfl) | simp_all)) (by intro h; first | exact True.intro | (intro h2; first | (rw [h2]; rfl) | simp_all)) ?_))
    refine e_callG 2 rfl (fun _ => same_ac (wallsR t l) (wallsR t l) lR lR) rfl rfl rfl rfl rfl rfl ?_
    repeat (first
      | (refine aw_seq_k fun K hK => ?_)
      | (refine xt_n ?_)
      | (refine xt_r ?_)
      | (refine xt_x ?_)
      | (refine xb_n ?_)
      | (refine xb_r ?_)
      | (refine xb_same ?_)
      | (refine xb_ne rfl ?_)
      | (refine aw_block ?_)
      | (refine aw_ret ?_)
      | (refine aw_exit ?_)
      | (refine aw_skip ?_)
      | (refine aw_label ?_)
      | (refine hK _ ?_; clear hK; clear K)
      | (clear hK; clear K; refine hK _ ?_; clear hK; clear K)
      | (clear hK; clear K; clear hK; clear K; refine hK _ ?_; clear hK; clear K)
      | (clear hK; clear K; clear hK; clear K; clear hK; clear K; refine hK _ ?_; clear hK; clear K)
      | (clear hK; clear K; clear hK; clear K; clear hK; clear K; clear hK; clear K; refine hK _ ?_; clear hK; clear K)
      | (first | refine w_region (by kernel_rfl) (by conv => { lhs; whnf }) ?_ | refine w_regionD (by kernel_rfl) (by conv => { lhs; whnf }) ?_)
      | refine aops_nil ⟨by kernel_rfl, ?_⟩
      | refine aops_nil ?_
      | (first
        | refine e_val hTT false [] rfl rfl rfl rfl rfl (by conv => { lhs; whnf; try dsimp only [List.take, List.drop, List.set, setCells, splice, List.append_eq, List.nil_append, List.cons_append, List.append_nil, List.length_cons, List.length_nil, Nat.zero_add, Nat.add_zero] }) (by conv => { lhs; dsimp only [keysP, List.map] }) (by first | exact True.intro | omega | (simp only [inR]; omega) | exact Nat.le_of_ble_eq_true rfl | (refine ⟨by omega, Nat.le_of_ble_eq_true rfl⟩) | (simp; done) | (simp; omega)) ?_
        | refine e_pick rfl (by first | exact True.intro | (intro h; first | (rw [h]; rfl) | simpa using h)) (by first | exact True.intro | (intro h; first | (rw [h]; rfl) | simpa using h)) (by first | exact pickV_or _ _ | exact pickV_and _ _ | rfl) ?_
        | refine e_grd hTT false [] 1 rfl rfl rfl rfl rfl (by conv => { lhs; whnf; try dsimp only [List.take, List.drop, List.set, setCells, splice, List.append_eq, List.nil_append, List.cons_append, List.append_nil, List.length_cons, List.length_nil, Nat.zero_add, Nat.add_zero] }) (by conv => { lhs; dsimp only [keysP, List.map] }) (by intro hg; first | exact True.intro | exact Nat.le_of_ble_eq_true rfl | (simp at hg; first | omega | (simp only [inR]; omega) | (simp; omega))) ?_
        | refine e_grd hTT false [] 0 rfl rfl rfl rfl rfl (by conv => { lhs; whnf; try dsimp only [List.take, List.drop, List.set, setCells, splice, List.append_eq, List.nil_append, List.cons_append, List.append_nil, List.length_cons, List.length_nil, Nat.zero_add, Nat.add_zero] }) (by conv => { lhs; dsimp only [keysP, List.map] }) (by intro hg; first | exact True.intro | exact Nat.le_of_ble_eq_true rfl | (simp at hg; first | omega | (simp only [inR]; omega) | (simp; omega))) ?_
        | refine e_grd hTT false [] 2 rfl rfl rfl rfl rfl (by conv => { lhs; whnf; try dsimp only [List.take, List.drop, List.set, setCells, splice, List.append_eq, List.nil_append, List.cons_append, List.append_nil, List.length_cons, List.length_nil, Nat.zero_add, Nat.add_zero] }) (by conv => { lhs; dsimp only [keysP, List.map] }) (by intro hg; first | exact True.intro | exact Nat.le_of_ble_eq_true rfl | (simp at hg; first | omega | (simp only [inR]; omega) | (simp; omega))) ?_
        | refine e_store hTT false [] rfl rfl rfl rfl rfl (by conv => { lhs; whnf }) (by conv => { lhs; try dsimp only [List.take, List.drop, List.set, setCells, splice, List.append_eq, List.nil_append, List.cons_append, List.append_nil, List.length_cons, List.length_nil, Nat.zero_add, Nat.add_zero] }) (by conv => { lhs; dsimp only [keysP, List.map] }) (by first | exact True.intro | omega | (simp only [inR]; omega) | exact Nat.le_of_ble_eq_true rfl | (refine ⟨by omega, Nat.le_of_ble_eq_true rfl⟩) | (simp; done) | (simp; omega)) ?_
        | refine e_new hTT false [] rfl rfl rfl rfl rfl (by conv => { lhs; whnf; try dsimp only [List.take, List.drop, List.set, setCells, splice, List.append_eq, List.nil_append, List.cons_append, List.append_nil, List.length_cons, List.length_nil, Nat.zero_add, Nat.add_zero] }) (by conv => { lhs; whnf }) (by conv => { lhs; try dsimp only [List.take, List.drop, List.set, setCells, splice, List.append_eq, List.nil_append, List.cons_append, List.append_nil, List.length_cons, List.length_nil, Nat.zero_add, Nat.add_zero] }) (by conv => { lhs; dsimp only [keysP, List.map] }) (by first | exact True.intro | omega | (simp only [inR]; omega) | exact Nat.le_of_ble_eq_true rfl | (refine ⟨by omega, Nat.le_of_ble_eq_true rfl⟩) | (simp; done) | (simp; omega)) ?_
        | refine e_two hTT false [] rfl rfl rfl rfl rfl (by conv => { lhs; whnf; try dsimp only [List.take, List.drop, List.set, setCells, splice, List.append_eq, List.nil_append, List.cons_append, List.append_nil, List.length_cons, List.length_nil, Nat.zero_add, Nat.add_zero] }) (by conv => { lhs; whnf }) (by conv => { lhs; try dsimp only [List.take, List.drop, List.set, setCells, splice, List.append_eq, List.nil_append, List.cons_append, List.append_nil, List.length_cons, List.length_nil, Nat.zero_add, Nat.add_zero] }) (by conv => { lhs; whnf }) (by conv => { lhs; try dsimp only [List.take, List.drop, List.set, setCells, splice, List.append_eq, List.nil_append, List.cons_append, List.append_nil, List.length_cons, List.length_nil, Nat.zero_add, Nat.add_zero] }) (by conv => { lhs; dsimp only [keysP, List.map] }) (by first | exact True.intro | omega | (simp only [inR]; omega) | exact Nat.le_of_ble_eq_true rfl | (refine ⟨by omega, Nat.le_of_ble_eq_true rfl⟩) | (simp; done) | (simp; omega)) ?_
        | refine e_pickG rfl rfl (by first | exact pickV_or _ _ | exact pickV_and _ _ | rfl) (by first | exact True.intro | exact fun h => h) (by intro h; first | exact True.intro | (intro h2; first | (rw [h2]; rfl) | simp_all)) (by intro h; first | exact True.intro | (intro h2; first | (rw [h2]; rfl) | simp_all)) ?_))
    refine w_cond rfl (fun h2 => ?_) (fun h2 => ?_)
    · simp at h2
    repeat (first
      | (refine aw_seq_k fun K hK => ?_)
      | (refine xt_n ?_)
      | (refine xt_r ?_)
      | (refine xt_x ?_)
      | (refine xb_n ?_)
      | (refine xb_r ?_)
      | (refine xb_same ?_)
      | (refine xb_ne rfl ?_)
      | (refine aw_block ?_)
      | (refine aw_ret ?_)
      | (refine aw_exit ?_)
      | (refine aw_skip ?_)
      | (refine aw_label ?_)
      | (refine hK _ ?_; clear hK; clear K)
      | (clear hK; clear K; refine hK _ ?_; clear hK; clear K)
      | (clear hK; clear K; clear hK; clear K; refine hK _ ?_; clear hK; clear K)
      | (clear hK; clear K; clear hK; clear K; clear hK; clear K; refine hK _ ?_; clear hK; clear K)
      | (clear hK; clear K; clear hK; clear K; clear hK; clear K; clear hK; clear K; refine hK _ ?_; clear hK; clear K)
      | (first | refine w_region (by kernel_rfl) (by conv => { lhs; whnf }) ?_ | refine w_regionD (by kernel_rfl) (by conv => { lhs; whnf }) ?_)
      | refine aops_nil ⟨by kernel_rfl, ?_⟩
      | refine aops_nil ?_
      | (first
        | refine e_val hTT false [] rfl rfl rfl rfl rfl (by conv => { lhs; whnf; try dsimp only [List.take, List.drop, List.set, setCells, splice, List.append_eq, List.nil_append, List.cons_append, List.append_nil, List.length_cons, List.length_nil, Nat.zero_add, Nat.add_zero] }) (by conv => { lhs; dsimp only [keysP, List.map] }) (by first | exact True.intro | omega | (simp only [inR]; omega) | exact Nat.le_of_ble_eq_true rfl | (refine ⟨by omega, Nat.le_of_ble_eq_true rfl⟩) | (simp; done) | (simp; omega)) ?_
        | refine e_pick rfl (by first | exact True.intro | (intro h; first | (rw [h]; rfl) | simpa using h)) (by first | exact True.intro | (intro h; first | (rw [h]; rfl) | simpa using h)) (by first | exact pickV_or _ _ | exact pickV_and _ _ | rfl) ?_
        | refine e_grd hTT false [] 1 rfl rfl rfl rfl rfl (by conv => { lhs; whnf; try dsimp only [List.take, List.drop, List.set, setCells, splice, List.append_eq, List.nil_append, List.cons_append, List.append_nil, List.length_cons, List.length_nil, Nat.zero_add, Nat.add_zero] }) (by conv => { lhs; dsimp only [keysP, List.map] }) (by intro hg; first | exact True.intro | exact Nat.le_of_ble_eq_true rfl | (simp at hg; first | omega | (simp only [inR]; omega) | (simp; omega))) ?_
        | refine e_grd hTT false [] 0 rfl rfl rfl rfl rfl (by conv => { lhs; whnf; try dsimp only [List.take, List.drop, List.set, setCells, splice, List.append_eq, List.nil_append, List.cons_append, List.append_nil, List.length_cons, List.length_nil, Nat.zero_add, Nat.add_zero] }) (by conv => { lhs; dsimp only [keysP, List.map] }) (by intro hg; first | exact True.intro | exact Nat.le_of_ble_eq_true rfl | (simp at hg; first | omega | (simp only [inR]; omega) | (simp; omega))) ?_
        | refine e_grd hTT false [] 2 rfl rfl rfl rfl rfl (by conv => { lhs; whnf; try dsimp only [List.take, List.drop, List.set, setCells, splice, List.append_eq, List.nil_append, List.cons_append, List.append_nil, List.length_cons, List.length_nil, Nat.zero_add, Nat.add_zero] }) (by conv => { lhs; dsimp only [keysP, List.map] }) (by intro hg; first | exact True.intro | exact Nat.le_of_ble_eq_true rfl | (simp at hg; first | omega | (simp only [inR]; omega) | (simp; omega))) ?_
        | refine e_store hTT false [] rfl rfl rfl rfl rfl (by conv => { lhs; whnf }) (by conv => { lhs; try dsimp only [List.take, List.drop, List.set, setCells, splice, List.append_eq, List.nil_append, List.cons_append, List.append_nil, List.length_cons, List.length_nil, Nat.zero_add, Nat.add_zero] }) (by conv => { lhs; dsimp only [keysP, List.map] }) (by first | exact True.intro | omega | (simp only [inR]; omega) | exact Nat.le_of_ble_eq_true rfl | (refine ⟨by omega, Nat.le_of_ble_eq_true rfl⟩) | (simp; done) | (simp; omega)) ?_
        | refine e_new hTT false [] rfl rfl rfl rfl rfl (by conv => { lhs; whnf; try dsimp only [List.take, List.drop, List.set, setCells, splice, List.append_eq, List.nil_append, List.cons_append, List.append_nil, List.length_cons, List.length_nil, Nat.zero_add, Nat.add_zero] }) (by conv => { lhs; whnf }) (by conv => { lhs; try dsimp only [List.take, List.drop, List.set, setCells, splice, List.append_eq, List.nil_append, List.cons_append, List.append_nil, List.length_cons, List.length_nil, Nat.zero_add, Nat.add_zero] }) (by conv => { lhs; dsimp only [keysP, List.map] }) (by first | exact True.intro | omega | (simp only [inR]; omega) | exact Nat.le_of_ble_eq_true rfl | (refine ⟨by omega, Nat.le_of_ble_eq_true rfl⟩) | (simp; done) | (simp; omega)) ?_
        | refine e_two hTT false [] rfl rfl rfl rfl rfl (by conv => { lhs; whnf; try dsimp only [List.take, List.drop, List.set, setCells, splice, List.append_eq, List.nil_append, List.cons_append, List.append_nil, List.length_cons, List.length_nil, Nat.zero_add, Nat.add_zero] }) (by conv => { lhs; whnf }) (by conv => { lhs; try dsimp only [List.take, List.drop, List.set, setCells, splice, List.append_eq, List.nil_append, List.cons_append, List.append_nil, List.length_cons, List.length_nil, Nat.zero_add, Nat.add_zero] }) (by conv => { lhs; whnf }) (by conv => { lhs; try dsimp only [List.take, List.drop, List.set, setCells, splice, List.append_eq, List.nil_append, List.cons_append, List.append_nil, List.length_cons, List.length_nil, Nat.zero_add, Nat.add_zero] }) (by conv => { lhs; dsimp only [keysP, List.map] }) (by first | exact True.intro | omega | (simp only [inR]; omega) | exact Nat.le_of_ble_eq_true rfl | (refine ⟨by omega, Nat.le_of_ble_eq_true rfl⟩) | (simp; done) | (simp; omega)) ?_
        | refine e_pickG rfl rfl (by first | exact pickV_or _ _ | exact pickV_and _ _ | rfl) (by first | exact True.intro | exact fun h => h) (by intro h; first | exact True.intro | (intro h2; first | (rw [h2]; rfl) | simp_all)) (by intro h; first | exact True.intro | (intro h2; first | (rw [h2]; rfl) | simp_all)) ?_))
    refine e_call (Sweep_ac t l ht hl) rfl rfl rfl rfl rfl ?_
    repeat (first
      | (refine aw_seq_k fun K hK => ?_)
      | (refine xt_n ?_)
      | (refine xt_r ?_)
      | (refine xt_x ?_)
      | (refine xb_n ?_)
      | (refine xb_r ?_)
      | (refine xb_same ?_)
      | (refine xb_ne rfl ?_)
      | (refine aw_block ?_)
      | (refine aw_ret ?_)
      | (refine aw_exit ?_)
      | (refine aw_skip ?_)
      | (refine aw_label ?_)
      | (refine hK _ ?_; clear hK; clear K)
      | (clear hK; clear K; refine hK _ ?_; clear hK; clear K)
      | (clear hK; clear K; clear hK; clear K; refine hK _ ?_; clear hK; clear K)
      | (clear hK; clear K; clear hK; clear K; clear hK; clear K; refine hK _ ?_; clear hK; clear K)
      | (clear hK; clear K; clear hK; clear K; clear hK; clear K; clear hK; clear K; refine hK _ ?_; clear hK; clear K)
      | (first | refine w_region (by kernel_rfl) (by conv => { lhs; whnf }) ?_ | refine w_regionD (by kernel_rfl) (by conv => { lhs; whnf }) ?_)
      | refine aops_nil ⟨by kernel_rfl, ?_⟩
      | refine aops_nil ?_
      | (first
        | refine e_val hTT false [] rfl rfl rfl rfl rfl (by conv => { lhs; whnf; try dsimp only [List.take, List.drop, List.set, setCells, splice, List.append_eq, List.nil_append, List.cons_append, List.append_nil, List.length_cons, List.length_nil, Nat.zero_add, Nat.add_zero] }) (by conv => { lhs; dsimp only [keysP, List.map] }) (by first | exact True.intro | omega | (simp only [inR]; omega) | exact Nat.le_of_ble_eq_true rfl | (refine ⟨by omega, Nat.le_of_ble_eq_true rfl⟩) | (simp; done) | (simp; omega)) ?_
        | refine e_pick rfl (by first | exact True.intro | (intro h; first | (rw [h]; rfl) | simpa using h)) (by first | exact True.intro | (intro h; first | (rw [h]; rfl) | simpa using h)) (by first | exact pickV_or _ _ | exact pickV_and _ _ | rfl) ?_
        | refine e_grd hTT false [] 1 rfl rfl rfl rfl rfl (by conv => { lhs; whnf; try dsimp only [List.take, List.drop, List.set, setCells, splice, List.append_eq, List.nil_append, List.cons_append, List.append_nil, List.length_cons, List.length_nil, Nat.zero_add, Nat.add_zero] }) (by conv => { lhs; dsimp only [keysP, List.map] }) (by intro hg; first | exact True.intro | exact Nat.le_of_ble_eq_true rfl | (simp at hg; first | omega | (simp only [inR]; omega) | (simp; omega))) ?_
        | refine e_grd hTT false [] 0 rfl rfl rfl rfl rfl (by conv => { lhs; whnf; try dsimp only [List.take, List.drop, List.set, setCells, splice, List.append_eq, List.nil_append, List.cons_append, List.append_nil, List.length_cons, List.length_nil, Nat.zero_add, Nat.add_zero] }) (by conv => { lhs; dsimp only [keysP, List.map] }) (by intro hg; first | exact True.intro | exact Nat.le_of_ble_eq_true rfl | (simp at hg; first | omega | (simp only [inR]; omega) | (simp; omega))) ?_
        | refine e_grd hTT false [] 2 rfl rfl rfl rfl rfl (by conv => { lhs; whnf; try dsimp only [List.take, List.drop, List.set, setCells, splice, List.append_eq, List.nil_append, List.cons_append, List.append_nil, List.length_cons, List.length_nil, Nat.zero_add, Nat.add_zero] }) (by conv => { lhs; dsimp only [keysP, List.map] }) (by intro hg; first | exact True.intro | exact Nat.le_of_ble_eq_true rfl | (simp at hg; first | omega | (simp only [inR]; omega) | (simp; omega))) ?_
        | refine e_store hTT false [] rfl rfl rfl rfl rfl (by conv => { lhs; whnf }) (by conv => { lhs; try dsimp only [List.take, List.drop, List.set, setCells, splice, List.append_eq, List.nil_append, List.cons_append, List.append_nil, List.length_cons, List.length_nil, Nat.zero_add, Nat.add_zero] }) (by conv => { lhs; dsimp only [keysP, List.map] }) (by first | exact True.intro | omega | (simp only [inR]; omega) | exact Nat.le_of_ble_eq_true rfl | (refine ⟨by omega, Nat.le_of_ble_eq_true rfl⟩) | (simp; done) | (simp; omega)) ?_
        | refine e_new hTT false [] rfl rfl rfl rfl rfl (by conv => { lhs; whnf; try dsimp only [List.take, List.drop, List.set, setCells, splice, List.append_eq, List.nil_append, List.cons_append, List.append_nil, List.length_cons, List.length_nil, Nat.zero_add, Nat.add_zero] }) (by conv => { lhs; whnf }) (by conv => { lhs; try dsimp only [List.take, List.drop, List.set, setCells, splice, List.append_eq, List.nil_append, List.cons_append, List.append_nil, List.length_cons, List.length_nil, Nat.zero_add, Nat.add_zero] }) (by conv => { lhs; dsimp only [keysP, List.map] }) (by first | exact True.intro | omega | (simp only [inR]; omega) | exact Nat.le_of_ble_eq_true rfl | (refine ⟨by omega, Nat.le_of_ble_eq_true rfl⟩) | (simp; done) | (simp; omega)) ?_
        | refine e_two hTT false [] rfl rfl rfl rfl rfl (by conv => { lhs; whnf; try dsimp only [List.take, List.drop, List.set, setCells, splice, List.append_eq, List.nil_append, List.cons_append, List.append_nil, List.length_cons, List.length_nil, Nat.zero_add, Nat.add_zero] }) (by conv => { lhs; whnf }) (by conv => { lhs; try dsimp only [List.take, List.drop, List.set, setCells, splice, List.append_eq, List.nil_append, List.cons_append, List.append_nil, List.length_cons, List.length_nil, Nat.zero_add, Nat.add_zero] }) (by conv => { lhs; whnf }) (by conv => { lhs; try dsimp only [List.take, List.drop, List.set, setCells, splice, List.append_eq, List.nil_append, List.cons_append, List.append_nil, List.length_cons, List.length_nil, Nat.zero_add, Nat.add_zero] }) (by conv => { lhs; dsimp only [keysP, List.map] }) (by first | exact True.intro | omega | (simp only [inR]; omega) | exact Nat.le_of_ble_eq_true rfl | (refine ⟨by omega, Nat.le_of_ble_eq_true rfl⟩) | (simp; done) | (simp; omega)) ?_
        | refine e_pickG rfl rfl (by first | exact pickV_or _ _ | exact pickV_and _ _ | rfl) (by first | exact True.intro | exact fun h => h) (by intro h; first | exact True.intro | (intro h2; first | (rw [h2]; rfl) | simp_all)) (by intro h; first | exact True.intro | (intro h2; first | (rw [h2]; rfl) | simp_all)) ?_))
    refine e_call (refSweep_ac t l ht hl) rfl rfl rfl rfl rfl ?_
    repeat (first
      | (refine aw_seq_k fun K hK => ?_)
      | (refine xt_n ?_)
      | (refine xt_r ?_)
      | (refine xt_x ?_)
      | (refine xb_n ?_)
      | (refine xb_r ?_)
      | (refine xb_same ?_)
      | (refine xb_ne rfl ?_)
      | (refine aw_block ?_)
      | (refine aw_ret ?_)
      | (refine aw_exit ?_)
      | (refine aw_skip ?_)
      | (refine aw_label ?_)
      | (refine hK _ ?_; clear hK; clear K)
      | (clear hK; clear K; refine hK _ ?_; clear hK; clear K)
      | (clear hK; clear K; clear hK; clear K; refine hK _ ?_; clear hK; clear K)
      | (clear hK; clear K; clear hK; clear K; clear hK; clear K; refine hK _ ?_; clear hK; clear K)
      | (clear hK; clear K; clear hK; clear K; clear hK; clear K; clear hK; clear K; refine hK _ ?_; clear hK; clear K)
      | (first | refine w_region (by kernel_rfl) (by conv => { lhs; whnf }) ?_ | refine w_regionD (by kernel_rfl) (by conv => { lhs; whnf }) ?_)
      | refine aops_nil ⟨by kernel_rfl, ?_⟩
      | refine aops_nil ?_
      | (first
        | refine e_val hTT false [] rfl rfl rfl rfl rfl (by conv => { lhs; whnf; try dsimp only [List.take, List.drop, List.set, setCells, splice, List.append_eq, List.nil_append, List.cons_append, List.append_nil, List.length_cons, List.length_nil, Nat.zero_add, Nat.add_zero] }) (by conv => { lhs; dsimp only [keysP, List.map] }) (by first | exact True.intro | omega | (simp only [inR]; omega) | exact Nat.le_of_ble_eq_true rfl | (refine ⟨by omega, Nat.le_of_ble_eq_true rfl⟩) | (simp; done) | (simp; omega)) ?_
        | refine e_pick rfl (by first | exact True.intro | (intro h; first | (rw [h]; rfl) | simpa using h)) (by first | exact True.intro | (intro h; first | (rw [h]; rfl) | simpa using h)) (by first | exact pickV_or _ _ | exact pickV_and _ _ | rfl) ?_
        | refine e_grd hTT false [] 1 rfl rfl rfl rfl rfl (by conv => { lhs; whnf; try dsimp only [List.take, List.drop, List.set, setCells, splice, List.append_eq, List.nil_append, List.cons_append, List.append_nil, List.length_cons, List.length_nil, Nat.zero_add, Nat.add_zero] }) (by conv => { lhs; dsimp only [keysP, List.map] }) (by intro hg; first | exact True.intro | exact Nat.le_of_ble_eq_true rfl | (simp at hg; first | omega | (simp only [inR]; omega) | (simp; omega))) ?_
        | refine e_grd hTT false [] 0 rfl rfl rfl rfl rfl (by conv => { lhs; whnf; try dsimp only [List.take, List.drop, List.set, setCells, splice, List.append_eq, List.nil_append, List.cons_append, List.append_nil, List.length_cons, List.length_nil, Nat.zero_add, Nat.add_zero] }) (by conv => { lhs; dsimp only [keysP, List.map] }) (by intro hg; first | exact True.intro | exact Nat.le_of_ble_eq_true rfl | (simp at hg; first | omega | (simp only [inR]; omega) | (simp; omega))) ?_
        | refine e_grd hTT false [] 2 rfl rfl rfl rfl rfl (by conv => { lhs; whnf; try dsimp only [List.take, List.drop, List.set, setCells, splice, List.append_eq, List.nil_append, List.cons_append, List.append_nil, List.length_cons, List.length_nil, Nat.zero_add, Nat.add_zero] }) (by conv => { lhs; dsimp only [keysP, List.map] }) (by intro hg; first | exact True.intro | exact Nat.le_of_ble_eq_true rfl | (simp at hg; first | omega | (simp only [inR]; omega) | (simp; omega))) ?_
        | refine e_store hTT false [] rfl rfl rfl rfl rfl (by conv => { lhs; whnf }) (by conv => { lhs; try dsimp only [List.take, List.drop, List.set, setCells, splice, List.append_eq, List.nil_append, List.cons_append, List.append_nil, List.length_cons, List.length_nil, Nat.zero_add, Nat.add_zero] }) (by conv => { lhs; dsimp only [keysP, List.map] }) (by first | exact True.intro | omega | (simp only [inR]; omega) | exact Nat.le_of_ble_eq_true rfl | (refine ⟨by omega, Nat.le_of_ble_eq_true rfl⟩) | (simp; done) | (simp; omega)) ?_
        | refine e_new hTT false [] rfl rfl rfl rfl rfl (by conv => { lhs; whnf; try dsimp only [List.take, List.drop, List.set, setCells, splice, List.append_eq, List.nil_append, List.cons_append, List.append_nil, List.length_cons, List.length_nil, Nat.zero_add, Nat.add_zero] }) (by conv => { lhs; whnf }) (by conv => { lhs; try dsimp only [List.take, List.drop, List.set, setCells, splice, List.append_eq, List.nil_append, List.cons_append, List.append_nil, List.length_cons, List.length_nil, Nat.zero_add, Nat.add_zero] }) (by conv => { lhs; dsimp only [keysP, List.map] }) (by first | exact True.intro | omega | (simp only [inR]; omega) | exact Nat.le_of_ble_eq_true rfl | (refine ⟨by omega, Nat.le_of_ble_eq_true rfl⟩) | (simp; done) | (simp; omega)) ?_
        | refine e_two hTT false [] rfl rfl rfl rfl rfl (by conv => { lhs; whnf; try dsimp only [List.take, List.drop, List.set, setCells, splice, List.append_eq, List.nil_append, List.cons_append, List.append_nil, List.length_cons, List.length_nil, Nat.zero_add, Nat.add_zero] }) (by conv => { lhs; whnf }) (by conv => { lhs; try dsimp only [List.take, List.drop, List.set, setCells, splice, List.append_eq, List.nil_append, List.cons_append, List.append_nil, List.length_cons, List.length_nil, Nat.zero_add, Nat.add_zero] }) (by conv => { lhs; whnf }) (by conv => { lhs; try dsimp only [List.take, List.drop, List.set, setCells, splice, List.append_eq, List.nil_append, List.cons_append, List.append_nil, List.length_cons, List.length_nil, Nat.zero_add, Nat.add_zero] }) (by conv => { lhs; dsimp only [keysP, List.map] }) (by first | exact True.intro | omega | (simp only [inR]; omega) | exact Nat.le_of_ble_eq_true rfl | (refine ⟨by omega, Nat.le_of_ble_eq_true rfl⟩) | (simp; done) | (simp; omega)) ?_
        | refine e_pickG rfl rfl (by first | exact pickV_or _ _ | exact pickV_and _ _ | rfl) (by first | exact True.intro | exact fun h => h) (by intro h; first | exact True.intro | (intro h2; first | (rw [h2]; rfl) | simp_all)) (by intro h; first | exact True.intro | (intro h2; first | (rw [h2]; rfl) | simp_all)) ?_))
    refine e_call (Miss_ac t l ht hl) rfl rfl rfl rfl rfl ?_
    repeat (first
      | (refine aw_seq_k fun K hK => ?_)
      | (refine xt_n ?_)
      | (refine xt_r ?_)
      | (refine xt_x ?_)
      | (refine xb_n ?_)
      | (refine xb_r ?_)
      | (refine xb_same ?_)
      | (refine xb_ne rfl ?_)
      | (refine aw_block ?_)
      | (refine aw_ret ?_)
      | (refine aw_exit ?_)
      | (refine aw_skip ?_)
      | (refine aw_label ?_)
      | (refine hK _ ?_; clear hK; clear K)
      | (clear hK; clear K; refine hK _ ?_; clear hK; clear K)
      | (clear hK; clear K; clear hK; clear K; refine hK _ ?_; clear hK; clear K)
      | (clear hK; clear K; clear hK; clear K; clear hK; clear K; refine hK _ ?_; clear hK; clear K)
      | (clear hK; clear K; clear hK; clear K; clear hK; clear K; clear hK; clear K; refine hK _ ?_; clear hK; clear K)
      | (first | refine w_region (by kernel_rfl) (by conv => { lhs; whnf }) ?_ | refine w_regionD (by kernel_rfl) (by conv => { lhs; whnf }) ?_)
      | refine aops_nil ⟨by kernel_rfl, ?_⟩
      | refine aops_nil ?_
      | (first
        | refine e_val hTT false [] rfl rfl rfl rfl rfl (by conv => { lhs; whnf; try dsimp only [List.take, List.drop, List.set, setCells, splice, List.append_eq, List.nil_append, List.cons_append, List.append_nil, List.length_cons, List.length_nil, Nat.zero_add, Nat.add_zero] }) (by conv => { lhs; dsimp only [keysP, List.map] }) (by first | exact True.intro | omega | (simp only [inR]; omega) | exact Nat.le_of_ble_eq_true rfl | (refine ⟨by omega, Nat.le_of_ble_eq_true rfl⟩) | (simp; done) | (simp; omega)) ?_
        | refine e_pick rfl (by first | exact True.intro | (intro h; first | (rw [h]; rfl) | simpa using h)) (by first | exact True.intro | (intro h; first | (rw [h]; rfl) | simpa using h)) (by first | exact pickV_or _ _ | exact pickV_and _ _ | rfl) ?_
        | refine e_grd hTT false [] 1 rfl rfl rfl rfl rfl (by conv => { lhs; whnf; try dsimp only [List.take, List.drop, List.set, setCells, splice, List.append_eq, List.nil_append, List.cons_append, List.append_nil, List.length_cons, List.length_nil, Nat.zero_add, Nat.add_zero] }) (by conv => { lhs; dsimp only [keysP, List.map] }) (by intro hg; first | exact True.intro | exact Nat.le_of_ble_eq_true rfl | (simp at hg; first | omega | (simp only [inR]; omega) | (simp; omega))) ?_
        | refine e_grd hTT false [] 0 rfl rfl rfl rfl rfl (by conv => { lhs; whnf; try dsimp only [List.take, List.drop, List.set, setCells, splice, List.append_eq, List.nil_append, List.cons_append, List.append_nil, List.length_cons, List.length_nil, Nat.zero_add, Nat.add_zero] }) (by conv => { lhs; dsimp only [keysP, List.map] }) (by intro hg; first | exact True.intro | exact Nat.le_of_ble_eq_true rfl | (simp at hg; first | omega | (simp only [inR]; omega) | (simp; omega))) ?_
        | refine e_grd hTT false [] 2 rfl rfl rfl rfl rfl (by conv => { lhs; whnf; try dsimp only [List.take, List.drop, List.set, setCells, splice, List.append_eq, List.nil_append, List.cons_append, List.append_nil, List.length_cons, List.length_nil, Nat.zero_add, Nat.add_zero] }) (by conv => { lhs; dsimp only [keysP, List.map] }) (by intro hg; first | exact True.intro | exact Nat.le_of_ble_eq_true rfl | (simp at hg; first | omega | (simp only [inR]; omega) | (simp; omega))) ?_
        | refine e_store hTT false [] rfl rfl rfl rfl rfl (by conv => { lhs; whnf }) (by conv => { lhs; try dsimp only [List.take, List.drop, List.set, setCells, splice, List.append_eq, List.nil_append, List.cons_append, List.append_nil, List.length_cons, List.length_nil, Nat.zero_add, Nat.add_zero] }) (by conv => { lhs; dsimp only [keysP, List.map] }) (by first | exact True.intro | omega | (simp only [inR]; omega) | exact Nat.le_of_ble_eq_true rfl | (refine ⟨by omega, Nat.le_of_ble_eq_true rfl⟩) | (simp; done) | (simp; omega)) ?_
        | refine e_new hTT false [] rfl rfl rfl rfl rfl (by conv => { lhs; whnf; try dsimp only [List.take, List.drop, List.set, setCells, splice, List.append_eq, List.nil_append, List.cons_append, List.append_nil, List.length_cons, List.length_nil, Nat.zero_add, Nat.add_zero] }) (by conv => { lhs; whnf }) (by conv => { lhs; try dsimp only [List.take, List.drop, List.set, setCells, splice, List.append_eq, List.nil_append, List.cons_append, List.append_nil, List.length_cons, List.length_nil, Nat.zero_add, Nat.add_zero] }) (by conv => { lhs; dsimp only [keysP, List.map] }) (by first | exact True.intro | omega | (simp only [inR]; omega) | exact Nat.le_of_ble_eq_true rfl | (refine ⟨by omega, Nat.le_of_ble_eq_true rfl⟩) | (simp; done) | (simp; omega)) ?_
        | refine e_two hTT false [] rfl rfl rfl rfl rfl (by conv => { lhs; whnf; try dsimp only [List.take, List.drop, List.set, setCells, splice, List.append_eq, List.nil_append, List.cons_append, List.append_nil, List.length_cons, List.length_nil, Nat.zero_add, Nat.add_zero] }) (by conv => { lhs; whnf }) (by conv => { lhs; try dsimp only [List.take, List.drop, List.set, setCells, splice, List.append_eq, List.nil_append, List.cons_append, List.append_nil, List.length_cons, List.length_nil, Nat.zero_add, Nat.add_zero] }) (by conv => { lhs; whnf }) (by conv => { lhs; try dsimp only [List.take, List.drop, List.set, setCells, splice, List.append_eq, List.nil_append, List.cons_append, List.append_nil, List.length_cons, List.length_nil, Nat.zero_add, Nat.add_zero] }) (by conv => { lhs; dsimp only [keysP, List.map] }) (by first | exact True.intro | omega | (simp only [inR]; omega) | exact Nat.le_of_ble_eq_true rfl | (refine ⟨by omega, Nat.le_of_ble_eq_true rfl⟩) | (simp; done) | (simp; omega)) ?_
        | refine e_pickG rfl rfl (by first | exact pickV_or _ _ | exact pickV_and _ _ | rfl) (by first | exact True.intro | exact fun h => h) (by intro h; first | exact True.intro | (intro h2; first | (rw [h2]; rfl) | simp_all)) (by intro h; first | exact True.intro | (intro h2; first | (rw [h2]; rfl) | simp_all)) ?_))
    refine e_call (refMiss_ac t l ht hl) rfl rfl rfl rfl rfl ?_
    repeat (first
      | (refine aw_seq_k fun K hK => ?_)
      | (refine xt_n ?_)
      | (refine xt_r ?_)
      | (refine xt_x ?_)
      | (refine xb_n ?_)
      | (refine xb_r ?_)
      | (refine xb_same ?_)
      | (refine xb_ne rfl ?_)
      | (refine aw_block ?_)
      | (refine aw_ret ?_)
      | (refine aw_exit ?_)
      | (refine aw_skip ?_)
      | (refine aw_label ?_)
      | (refine hK _ ?_; clear hK; clear K)
      | (clear hK; clear K; refine hK _ ?_; clear hK; clear K)
      | (clear hK; clear K; clear hK; clear K; refine hK _ ?_; clear hK; clear K)
      | (clear hK; clear K; clear hK; clear K; clear hK; clear K; refine hK _ ?_; clear hK; clear K)
      | (clear hK; clear K; clear hK; clear K; clear hK; clear K; clear hK; clear K; refine hK _ ?_; clear hK; clear K)
      | (first | refine w_region (by kernel_rfl) (by conv => { lhs; whnf }) ?_ | refine w_regionD (by kernel_rfl) (by conv => { lhs; whnf }) ?_)
      | refine aops_nil ⟨by kernel_rfl, ?_⟩
      | refine aops_nil ?_
      | (first
        | refine e_val hTT false [] rfl rfl rfl rfl rfl (by conv => { lhs; whnf; try dsimp only [List.take, List.drop, List.set, setCells, splice, List.append_eq, List.nil_append, List.cons_append, List.append_nil, List.length_cons, List.length_nil, Nat.zero_add, Nat.add_zero] }) (by conv => { lhs; dsimp only [keysP, List.map] }) (by first | exact True.intro | omega | (simp only [inR]; omega) | exact Nat.le_of_ble_eq_true rfl | (refine ⟨by omega, Nat.le_of_ble_eq_true rfl⟩) | (simp; done) | (simp; omega)) ?_
        | refine e_pick rfl (by first | exact True.intro | (intro h; first | (rw [h]; rfl) | simpa using h)) (by first | exact True.intro | (intro h; first | (rw [h]; rfl) | simpa using h)) (by first | exact pickV_or _ _ | exact pickV_and _ _ | rfl) ?_
        | refine e_grd hTT false [] 1 rfl rfl rfl rfl rfl (by conv => { lhs; whnf; try dsimp only [List.take, List.drop, List.set, setCells, splice, List.append_eq, List.nil_append, List.cons_append, List.append_nil, List.length_cons, List.length_nil, Nat.zero_add, Nat.add_zero] }) (by conv => { lhs; dsimp only [keysP, List.map] }) (by intro hg; first | exact True.intro | exact Nat.le_of_ble_eq_true rfl | (simp at hg; first | omega | (simp only [inR]; omega) | (simp; omega))) ?_
        | refine e_grd hTT false [] 0 rfl rfl rfl rfl rfl (by conv => { lhs; whnf; try dsimp only [List.take, List.drop, List.set, setCells, splice, List.append_eq, List.nil_append, List.cons_append, List.append_nil, List.length_cons, List.length_nil, Nat.zero_add, Nat.add_zero] }) (by conv => { lhs; dsimp only [keysP, List.map] }) (by intro hg; first | exact True.intro | exact Nat.le_of_ble_eq_true rfl | (simp at hg; first | omega | (simp only [inR]; omega) | (simp; omega))) ?_
        | refine e_grd hTT false [] 2 rfl rfl rfl rfl rfl (by conv => { lhs; whnf; try dsimp only [List.take, List.drop, List.set, setCells, splice, List.append_eq, List.nil_append, List.cons_append, List.append_nil, List.length_cons, List.length_nil, Nat.zero_add, Nat.add_zero] }) (by conv => { lhs; dsimp only [keysP, List.map] }) (by intro hg; first | exact True.intro | exact Nat.le_of_ble_eq_true rfl | (simp at hg; first | omega | (simp only [inR]; omega) | (simp; omega))) ?_
        | refine e_store hTT false [] rfl rfl rfl rfl rfl (by conv => { lhs; whnf }) (by conv => { lhs; try dsimp only [List.take, List.drop, List.set, setCells, splice, List.append_eq, List.nil_append, List.cons_append, List.append_nil, List.length_cons, List.length_nil, Nat.zero_add, Nat.add_zero] }) (by conv => { lhs; dsimp only [keysP, List.map] }) (by first | exact True.intro | omega | (simp only [inR]; omega) | exact Nat.le_of_ble_eq_true rfl | (refine ⟨by omega, Nat.le_of_ble_eq_true rfl⟩) | (simp; done) | (simp; omega)) ?_
        | refine e_new hTT false [] rfl rfl rfl rfl rfl (by conv => { lhs; whnf; try dsimp only [List.take, List.drop, List.set, setCells, splice, List.append_eq, List.nil_append, List.cons_append, List.append_nil, List.length_cons, List.length_nil, Nat.zero_add, Nat.add_zero] }) (by conv => { lhs; whnf }) (by conv => { lhs; try dsimp only [List.take, List.drop, List.set, setCells, splice, List.append_eq, List.nil_append, List.cons_append, List.append_nil, List.length_cons, List.length_nil, Nat.zero_add, Nat.add_zero] }) (by conv => { lhs; dsimp only [keysP, List.map] }) (by first | exact True.intro | omega | (simp only [inR]; omega) | exact Nat.le_of_ble_eq_true rfl | (refine ⟨by omega, Nat.le_of_ble_eq_true rfl⟩) | (simp; done) | (simp; omega)) ?_
        | refine e_two hTT false [] rfl rfl rfl rfl rfl (by conv => { lhs; whnf; try dsimp only [List.take, List.drop, List.set, setCells, splice, List.append_eq, List.nil_append, List.cons_append, List.append_nil, List.length_cons, List.length_nil, Nat.zero_add, Nat.add_zero] }) (by conv => { lhs; whnf }) (by conv => { lhs; try dsimp only [List.take, List.drop, List.set, setCells, splice, List.append_eq, List.nil_append, List.cons_append, List.append_nil, List.length_cons, List.length_nil, Nat.zero_add, Nat.add_zero] }) (by conv => { lhs; whnf }) (by conv => { lhs; try dsimp only [List.take, List.drop, List.set, setCells, splice, List.append_eq, List.nil_append, List.cons_append, List.append_nil, List.length_cons, List.length_nil, Nat.zero_add, Nat.add_zero] }) (by conv => { lhs; dsimp only [keysP, List.map] }) (by first | exact True.intro | omega | (simp only [inR]; omega) | exact Nat.le_of_ble_eq_true rfl | (refine ⟨by omega, Nat.le_of_ble_eq_true rfl⟩) | (simp; done) | (simp; omega)) ?_
        | refine e_pickG rfl rfl (by first | exact pickV_or _ _ | exact pickV_and _ _ | rfl) (by first | exact True.intro | exact fun h => h) (by intro h; first | exact True.intro | (intro h2; first | (rw [h2]; rfl) | simp_all)) (by intro h; first | exact True.intro | (intro h2; first | (rw [h2]; rfl) | simp_all)) ?_))
    refine e_callG 2 rfl (fun _ => same_ac (wallsS t l) (wallsS t l) lS lS) rfl rfl rfl rfl rfl rfl ?_
    repeat (first
      | (refine aw_seq_k fun K hK => ?_)
      | (refine xt_n ?_)
      | (refine xt_r ?_)
      | (refine xt_x ?_)
      | (refine xb_n ?_)
      | (refine xb_r ?_)
      | (refine xb_same ?_)
      | (refine xb_ne rfl ?_)
      | (refine aw_block ?_)
      | (refine aw_ret ?_)
      | (refine aw_exit ?_)
      | (refine aw_skip ?_)
      | (refine aw_label ?_)
      | (refine hK _ ?_; clear hK; clear K)
      | (clear hK; clear K; refine hK _ ?_; clear hK; clear K)
      | (clear hK; clear K; clear hK; clear K; refine hK _ ?_; clear hK; clear K)
      | (clear hK; clear K; clear hK; clear K; clear hK; clear K; refine hK _ ?_; clear hK; clear K)
      | (clear hK; clear K; clear hK; clear K; clear hK; clear K; clear hK; clear K; refine hK _ ?_; clear hK; clear K)
      | (first | refine w_region (by kernel_rfl) (by conv => { lhs; whnf }) ?_ | refine w_regionD (by kernel_rfl) (by conv => { lhs; whnf }) ?_)
      | refine aops_nil ⟨by kernel_rfl, ?_⟩
      | refine aops_nil ?_
      | (first
        | refine e_val hTT false [] rfl rfl rfl rfl rfl (by conv => { lhs; whnf; try dsimp only [List.take, List.drop, List.set, setCells, splice, List.append_eq, List.nil_append, List.cons_append, List.append_nil, List.length_cons, List.length_nil, Nat.zero_add, Nat.add_zero] }) (by conv => { lhs; dsimp only [keysP, List.map] }) (by first | exact True.intro | omega | (simp only [inR]; omega) | exact Nat.le_of_ble_eq_true rfl | (refine ⟨by omega, Nat.le_of_ble_eq_true rfl⟩) | (simp; done) | (simp; omega)) ?_
        | refine e_pick rfl (by first | exact True.intro | (intro h; first | (rw [h]; rfl) | simpa using h)) (by first | exact True.intro | (intro h; first | (rw [h]; rfl) | simpa using h)) (by first | exact pickV_or _ _ | exact pickV_and _ _ | rfl) ?_
        | refine e_grd hTT false [] 1 rfl rfl rfl rfl rfl (by conv => { lhs; whnf; try dsimp only [List.take, List.drop, List.set, setCells, splice, List.append_eq, List.nil_append, List.cons_append, List.append_nil, List.length_cons, List.length_nil, Nat.zero_add, Nat.add_zero] }) (by conv => { lhs; dsimp only [keysP, List.map] }) (by intro hg; first | exact True.intro | exact Nat.le_of_ble_eq_true rfl | (simp at hg; first | omega | (simp only [inR]; omega) | (simp; omega))) ?_
        | refine e_grd hTT false [] 0 rfl rfl rfl rfl rfl (by conv => { lhs; whnf; try dsimp only [List.take, List.drop, List.set, setCells, splice, List.append_eq, List.nil_append, List.cons_append, List.append_nil, List.length_cons, List.length_nil, Nat.zero_add, Nat.add_zero] }) (by conv => { lhs; dsimp only [keysP, List.map] }) (by intro hg; first | exact True.intro | exact Nat.le_of_ble_eq_true rfl | (simp at hg; first | omega | (simp only [inR]; omega) | (simp; omega))) ?_
        | refine e_grd hTT false [] 2 rfl rfl rfl rfl rfl (by conv => { lhs; whnf; try dsimp only [List.take, List.drop, List.set, setCells, splice, List.append_eq, List.nil_append, List.cons_append, List.append_nil, List.length_cons, List.length_nil, Nat.zero_add, Nat.add_zero] }) (by conv => { lhs; dsimp only [keysP, List.map] }) (by intro hg; first | exact True.intro | exact Nat.le_of_ble_eq_true rfl | (simp at hg; first | omega | (simp only [inR]; omega) | (simp; omega))) ?_
        | refine e_store hTT false [] rfl rfl rfl rfl rfl (by conv => { lhs; whnf }) (by conv => { lhs; try dsimp only [List.take, List.drop, List.set, setCells, splice, List.append_eq, List.nil_append, List.cons_append, List.append_nil, List.length_cons, List.length_nil, Nat.zero_add, Nat.add_zero] }) (by conv => { lhs; dsimp only [keysP, List.map] }) (by first | exact True.intro | omega | (simp only [inR]; omega) | exact Nat.le_of_ble_eq_true rfl | (refine ⟨by omega, Nat.le_of_ble_eq_true rfl⟩) | (simp; done) | (simp; omega)) ?_
        | refine e_new hTT false [] rfl rfl rfl rfl rfl (by conv => { lhs; whnf; try dsimp only [List.take, List.drop, List.set, setCells, splice, List.append_eq, List.nil_append, List.cons_append, List.append_nil, List.length_cons, List.length_nil, Nat.zero_add, Nat.add_zero] }) (by conv => { lhs; whnf }) (by conv => { lhs; try dsimp only [List.take, List.drop, List.set, setCells, splice, List.append_eq, List.nil_append, List.cons_append, List.append_nil, List.length_cons, List.length_nil, Nat.zero_add, Nat.add_zero] }) (by conv => { lhs; dsimp only [keysP, List.map] }) (by first | exact True.intro | omega | (simp only [inR]; omega) | exact Nat.le_of_ble_eq_true rfl | (refine ⟨by omega, Nat.le_of_ble_eq_true rfl⟩) | (simp; done) | (simp; omega)) ?_
        | refine e_two hTT false [] rfl rfl rfl rfl rfl (by conv => { lhs; whnf; try dsimp only [List.take, List.drop, List.set, setCells, splice, List.append_eq, List.nil_append, List.cons_append, List.append_nil, List.length_cons, List.length_nil, Nat.zero_add, Nat.add_zero] }) (by conv => { lhs; whnf }) (by conv => { lhs; try dsimp only [List.take, List.drop, List.set, setCells, splice, List.append_eq, List.nil_append, List.cons_append, List.append_nil, List.length_cons, List.length_nil, Nat.zero_add, Nat.add_zero] }) (by conv => { lhs; whnf }) (by conv => { lhs; try dsimp only [List.take, List.drop, List.set, setCells, splice, List.append_eq, List.nil_append, List.cons_append, List.append_nil, List.length_cons, List.length_nil, Nat.zero_add, Nat.add_zero] }) (by conv => { lhs; dsimp only [keysP, List.map] }) (by first | exact True.intro | omega | (simp only [inR]; omega) | exact Nat.le_of_ble_eq_true rfl | (refine ⟨by omega, Nat.le_of_ble_eq_true rfl⟩) | (simp; done) | (simp; omega)) ?_
        | refine e_pickG rfl rfl (by first | exact pickV_or _ _ | exact pickV_and _ _ | rfl) (by first | exact True.intro | exact fun h => h) (by intro h; first | exact True.intro | (intro h2; first | (rw [h2]; rfl) | simp_all)) (by intro h; first | exact True.intro | (intro h2; first | (rw [h2]; rfl) | simp_all)) ?_))
    refine e_callG 0 rfl (fun _ => works_ac) rfl rfl rfl rfl rfl rfl ?_
    repeat (first
      | (refine aw_seq_k fun K hK => ?_)
      | (refine xt_n ?_)
      | (refine xt_r ?_)
      | (refine xt_x ?_)
      | (refine xb_n ?_)
      | (refine xb_r ?_)
      | (refine xb_same ?_)
      | (refine xb_ne rfl ?_)
      | (refine aw_block ?_)
      | (refine aw_ret ?_)
      | (refine aw_exit ?_)
      | (refine aw_skip ?_)
      | (refine aw_label ?_)
      | (refine hK _ ?_; clear hK; clear K)
      | (clear hK; clear K; refine hK _ ?_; clear hK; clear K)
      | (clear hK; clear K; clear hK; clear K; refine hK _ ?_; clear hK; clear K)
      | (clear hK; clear K; clear hK; clear K; clear hK; clear K; refine hK _ ?_; clear hK; clear K)
      | (clear hK; clear K; clear hK; clear K; clear hK; clear K; clear hK; clear K; refine hK _ ?_; clear hK; clear K)
      | (first | refine w_region (by kernel_rfl) (by conv => { lhs; whnf }) ?_ | refine w_regionD (by kernel_rfl) (by conv => { lhs; whnf }) ?_)
      | refine aops_nil ⟨by kernel_rfl, ?_⟩
      | refine aops_nil ?_
      | (first
        | refine e_val hTT false [] rfl rfl rfl rfl rfl (by conv => { lhs; whnf; try dsimp only [List.take, List.drop, List.set, setCells, splice, List.append_eq, List.nil_append, List.cons_append, List.append_nil, List.length_cons, List.length_nil, Nat.zero_add, Nat.add_zero] }) (by conv => { lhs; dsimp only [keysP, List.map] }) (by first | exact True.intro | omega | (simp only [inR]; omega) | exact Nat.le_of_ble_eq_true rfl | (refine ⟨by omega, Nat.le_of_ble_eq_true rfl⟩) | (simp; done) | (simp; omega)) ?_
        | refine e_pick rfl (by first | exact True.intro | (intro h; first | (rw [h]; rfl) | simpa using h)) (by first | exact True.intro | (intro h; first | (rw [h]; rfl) | simpa using h)) (by first | exact pickV_or _ _ | exact pickV_and _ _ | rfl) ?_
        | refine e_grd hTT false [] 1 rfl rfl rfl rfl rfl (by conv => { lhs; whnf; try dsimp only [List.take, List.drop, List.set, setCells, splice, List.append_eq, List.nil_append, List.cons_append, List.append_nil, List.length_cons, List.length_nil, Nat.zero_add, Nat.add_zero] }) (by conv => { lhs; dsimp only [keysP, List.map] }) (by intro hg; first | exact True.intro | exact Nat.le_of_ble_eq_true rfl | (simp at hg; first | omega | (simp only [inR]; omega) | (simp; omega))) ?_
        | refine e_grd hTT false [] 0 rfl rfl rfl rfl rfl (by conv => { lhs; whnf; try dsimp only [List.take, List.drop, List.set, setCells, splice, List.append_eq, List.nil_append, List.cons_append, List.append_nil, List.length_cons, List.length_nil, Nat.zero_add, Nat.add_zero] }) (by conv => { lhs; dsimp only [keysP, List.map] }) (by intro hg; first | exact True.intro | exact Nat.le_of_ble_eq_true rfl | (simp at hg; first | omega | (simp only [inR]; omega) | (simp; omega))) ?_
        | refine e_grd hTT false [] 2 rfl rfl rfl rfl rfl (by conv => { lhs; whnf; try dsimp only [List.take, List.drop, List.set, setCells, splice, List.append_eq, List.nil_append, List.cons_append, List.append_nil, List.length_cons, List.length_nil, Nat.zero_add, Nat.add_zero] }) (by conv => { lhs; dsimp only [keysP, List.map] }) (by intro hg; first | exact True.intro | exact Nat.le_of_ble_eq_true rfl | (simp at hg; first | omega | (simp only [inR]; omega) | (simp; omega))) ?_
        | refine e_store hTT false [] rfl rfl rfl rfl rfl (by conv => { lhs; whnf }) (by conv => { lhs; try dsimp only [List.take, List.drop, List.set, setCells, splice, List.append_eq, List.nil_append, List.cons_append, List.append_nil, List.length_cons, List.length_nil, Nat.zero_add, Nat.add_zero] }) (by conv => { lhs; dsimp only [keysP, List.map] }) (by first | exact True.intro | omega | (simp only [inR]; omega) | exact Nat.le_of_ble_eq_true rfl | (refine ⟨by omega, Nat.le_of_ble_eq_true rfl⟩) | (simp; done) | (simp; omega)) ?_
        | refine e_new hTT false [] rfl rfl rfl rfl rfl (by conv => { lhs; whnf; try dsimp only [List.take, List.drop, List.set, setCells, splice, List.append_eq, List.nil_append, List.cons_append, List.append_nil, List.length_cons, List.length_nil, Nat.zero_add, Nat.add_zero] }) (by conv => { lhs; whnf }) (by conv => { lhs; try dsimp only [List.take, List.drop, List.set, setCells, splice, List.append_eq, List.nil_append, List.cons_append, List.append_nil, List.length_cons, List.length_nil, Nat.zero_add, Nat.add_zero] }) (by conv => { lhs; dsimp only [keysP, List.map] }) (by first | exact True.intro | omega | (simp only [inR]; omega) | exact Nat.le_of_ble_eq_true rfl | (refine ⟨by omega, Nat.le_of_ble_eq_true rfl⟩) | (simp; done) | (simp; omega)) ?_
        | refine e_two hTT false [] rfl rfl rfl rfl rfl (by conv => { lhs; whnf; try dsimp only [List.take, List.drop, List.set, setCells, splice, List.append_eq, List.nil_append, List.cons_append, List.append_nil, List.length_cons, List.length_nil, Nat.zero_add, Nat.add_zero] }) (by conv => { lhs; whnf }) (by conv => { lhs; try dsimp only [List.take, List.drop, List.set, setCells, splice, List.append_eq, List.nil_append, List.cons_append, List.append_nil, List.length_cons, List.length_nil, Nat.zero_add, Nat.add_zero] }) (by conv => { lhs; whnf }) (by conv => { lhs; try dsimp only [List.take, List.drop, List.set, setCells, splice, List.append_eq, List.nil_append, List.cons_append, List.append_nil, List.length_cons, List.length_nil, Nat.zero_add, Nat.add_zero] }) (by conv => { lhs; dsimp only [keysP, List.map] }) (by first | exact True.intro | omega | (simp only [inR]; omega) | exact Nat.le_of_ble_eq_true rfl | (refine ⟨by omega, Nat.le_of_ble_eq_true rfl⟩) | (simp; done) | (simp; omega)) ?_
        | refine e_pickG rfl rfl (by first | exact pickV_or _ _ | exact pickV_and _ _ | rfl) (by first | exact True.intro | exact fun h => h) (by intro h; first | exact True.intro | (intro h2; first | (rw [h2]; rfl) | simp_all)) (by intro h; first | exact True.intro | (intro h2; first | (rw [h2]; rfl) | simp_all)) ?_))
    refine ret_pure (.inr rfl) rfl ?_ rfl
    simp
    rfl
theorem reads_calls (A : Option Addr) (n c : Nat) (t : List Int) (B : Option Addr) (m d : Nat) (l : List Pt) (w : World) (ht : IntsAt w A n t) (hn : n ≤ 4611686018427387904) (hl : PtsAt w B m l) (hm : m ≤ 4611686018427387904) (_ : m ≤ d) :
    Calls Try.prog 7 #[.agg #[.slice A n c], .slice B m d] w fun e w' => e = .returned (.bool true) ∧ Below w.heap.size w w' :=
  law_of_ac (reads_ac t l (by rw [ht.1]; exact hn) (by rw [hl.1]; exact hm)) (.cons (old_tip ht) (.cons (old_pts hl) .nil))

set_option maxRecDepth 100000 in
theorem reads_lifted (os : Os) (started : os.Started) (H : Type) (enc : TypeId × Value → H) :
    ReturnsInHanded {} Try.checked os 7 .any (Rows.playReadsSpec.pre6 enc Try.prog Try.f7 Rows.playReadsRow.domain false) (Rows.playReadsSpec.post enc Try.prog Try.f7 false true false false) := by
  refine returnsInHanded_of_change_sized (C := Try.checked) Try.own started (by kernel_rfl) Try.func7
    (ChangeSpec.witness6 (enc := enc) (C := Try.checked) false ⟨#[], #[.agg #[.slice none 0 0], .slice none 0 0], []⟩ 8 (by kernel_rfl) (by kernel_rfl) (by kernel_rfl) (by kernel_rfl)) ?_
  intro W base args ds gs before hval0 hW _ hsz0 _
  have hval : ∀ (j : Nat) t v, Try.f7.params[j]? = some t → args[j]? = some v → Value.okWide Try.prog W .any base t v := hval0
  have hsz : (DataW.weightsEach Try.prog (Try.f7.params.toList ++ Rows.playReadsSpec.plain.varTypes Try.prog) (ds ++ gs)).all (· ≤ reachBytes) = true := hsz0
  have hW' := hW
  obtain ⟨p, q, hA0, hV, rfl, hfz, hnd⟩ := hW
  have hA : DataW.TrodAll enc Try.prog W 0 (fun _ => true) true Try.f7.params.toList args.toList ds p := hA0
  rw [Try.params7] at hA hval hsz
  obtain ⟨rfl, rfl⟩ := trodVars_none hV
  obtain ⟨v0, v1, d0, d1, p0, p1, rfl, rfl, h0, h1⟩ := trodAll_duo hA
  obtain ⟨A0, n0, c0, l0, rfl, g0, e0, i0, b0⟩ := openBoxed Try.underlying24 rfl (by kernel_rfl) (by kernel_rfl) Try.underlying22 Try.underlying2 (by kernel_rfl) (of_decide_eq_true (by kernel_rfl)) (hval 0 _ _ rfl rfl) h0 (weights_at hsz (j := 0) rfl rfl)
  obtain ⟨A1, n1, c1, l1, rfl, g1, e1, i1, b1⟩ := openPairs Try.underlying25 Try.underlying29 (by kernel_rfl) rfl rfl (by kernel_rfl) (by kernel_rfl) Try.underlying2 Try.underlying2 (of_decide_eq_true (by kernel_rfl)) (hval 1 _ _ rfl rfl) h1 (weights_at hsz (j := 1) rfl rfl)
  refine (reads_calls A0 n0 c0 l0 A1 n1 c1 l1 W i0 (reach_le (Nat.le_trans g0 e0)) i1 (reach_le (Nat.le_trans g1 e1)) g1).mono ?_
  rintro e W' ⟨rfl, hb⟩
  exact ⟨_, rfl, post_true (tb := 4) rfl hW' Try.laidOut (by kernel_rfl) rfl (by kernel_rfl) Try.underlying4 hb⟩

theorem reads_holds : Rows.PlayReadsSaid :=
  OpenClaim.holds_of_wide 7 Try.f7 rfl rfl rfl rfl rfl rfl rfl ⟨rfl, rfl, rfl, rfl, rfl⟩ rfl rfl rfl rfl rfl (by kernel_rfl) Try.func7 (by kernel_rfl)
    (of_decide_eq_true (by kernel_rfl)) (by unfold Func.isWrapper; first | (rw [if_pos (by decide +kernel)]; kernel_rfl) | (rw [if_neg (by decide +kernel)]; exact ⟨rfl, rfl⟩))
    (fun os started H enc _ => reads_lifted os started H enc)
end Go.Proofs.Ytlhkpdnnopknnaa
