/-
  PlayExact: a tip that misses nothing reads just the groove; one that misses a sample reads something else there. No condition.
-/
import Derived.Test.YtlhkpdnnopknnaaPAb6
import Derived.Test.YtlhkpdnnopknnaaLift2
namespace Go.Proofs.Ytlhkpdnnopknnaa
open Go.Ab Go.RowKit Go.Dw Go.Shelf Go.ChangeShapes Go.WideShapes Go.ChangeAt Go.Deep

theorem missO_ok {t : List Int} {l : List Pt} (h : checkBoth t l = 0) : missO t l = missI t l := by rw [missO, if_pos h]
theorem Read_ok (t : List Int) (l : List Pt) (ht : t.length ≤ 4611686018427387904) (hl : l.length ≤ 4611686018427387904) (h : checkBoth t l = 0) : AC Try.prog 21 [.agg [V.ints t], V.pts l] (.tup [V.pts (readP t l), .i 0]) [] := by
  have := Read_ac t l ht hl
  rwa [wallsR_eq h, h] at this
theorem Sweep_ok (t : List Int) (l : List Pt) (ht : t.length ≤ 4611686018427387904) (hl : l.length ≤ 4611686018427387904) (h : checkBoth t l = 0) : AC Try.prog 24 [.agg [V.ints t], V.pts l] (.tup [V.pts (sweepP t l), .i 0]) [] := by
  have := Sweep_ac t l ht hl
  rwa [wallsS_eq h, h] at this
theorem Miss_none (t : List Int) (l : List Pt) (ht : t.length ≤ 4611686018427387904) (hl : l.length ≤ 4611686018427387904) (h : checkBoth t l = 0) (hm : missP t l = none) : AC Try.prog 35 [.agg [V.ints t], V.pts l] (.tup [.i 0, .i 0, .i 5]) [] := by
  have := Miss_ac t l ht hl
  have e : missO t l = (0, 0, 5) := by rw [missO_ok h, missI, hm]
  rwa [e] at this
theorem Miss_some (t : List Int) (l : List Pt) (ht : t.length ≤ 4611686018427387904) (hl : l.length ≤ 4611686018427387904) (h : checkBoth t l = 0) {p : Nat × Nat} (hm : missP t l = some p) : AC Try.prog 35 [.agg [V.ints t], V.pts l] (.tup [.i p.1, .i p.2, .i 0]) [] := by
  have := Miss_ac t l ht hl
  have e : missO t l = ((p.1 : Int), (p.2 : Int), 0) := by rw [missO_ok h, missI, hm]
  rwa [e] at this

set_option maxRecDepth 100000 in
set_option maxHeartbeats 2000000 in
theorem exact_ac (t : List Int) (l : List Pt) (bs : List Int) (less : Int) (ht : t.length ≤ 4611686018427387904) (hl : l.length ≤ 4611686018427387904) (hm : bs.length ≤ 4611686018427387904) (hbb : ∀ x ∈ bs, 0 ≤ x ∧ x ≤ 255) (hle : 0 ≤ less ∧ less ≤ 255) :
    AC Try.prog 8 [.agg [V.ints t], V.pts l, V.nums .u8 bs, .c (.int .u8 less)] (.b true) [] := by
  refine ac_intro hTT hMX (fn := Try.f8) (N := _) ⟨Try.func8, rfl, Try.ntmps8, by kernel_rfl⟩ (by simp) fun C hC hF => ?_
  repeat (first
    | (refine aw_seq_k fun K hK => ?_)
    | (refine xt_n ?_)
    | (refine xt_r ?_)
    | (refine xt_x ?_)
    | (refine xb_n ?_)
    | (refine xb_r ?_)
    | (refine xb_same ?_)
    | (refine xb_ne rfl ?_)
    | (refine aw_block ?_)
    | (refine aw_ret ?_)
    | (refine aw_exit ?_)
    | (refine aw_skip ?_)
    | (refine aw_label ?_)
    | (refine hK _ ?_; clear hK; clear K)
    | (clear hK; clear K; refine hK _ ?_; clear hK; clear K)
    | (clear hK; clear K; clear hK; clear K; refine hK _ ?_; clear hK; clear K)
    | (clear hK; clear K; clear hK; clear K; clear hK; clear K; refine hK _ ?_; clear hK; clear K)
    | (clear hK; clear K; clear hK; clear K; clear hK; clear K; clear hK; clear K; refine hK _ ?_; clear hK; clear K)
    | (first | refine w_region (by kernel_rfl) (by conv => { lhs; whnf }) ?_ | refine w_regionD (by kernel_rfl) (by conv => { lhs; whnf }) ?_)
    | refine aops_nil ⟨by kernel_rfl, ?_⟩
    | refine aops_nil ?_
    | (first
      | refine e_val hTT false [] rfl rfl rfl rfl rfl (by conv => { lhs; whnf; try dsimp only [List.take, List.drop, List.set, setCells, splice, List.append_eq, List.nil_append, List.cons_append, List.append_nil, List.length_cons, List.length_nil, Nat.zero_add, Nat.add_zero] }) (by conv => { lhs; dsimp only [keysP, List.map] }) (by first | exact True.intro | omega | (simp only [inR]; omega) | exact Nat.le_of_ble_eq_true rfl | (refine ⟨by omega, Nat.le_of_ble_eq_true rfl⟩) | (simp; done) | (simp; omega)) ?_
      | refine e_pick rfl (by first | exact True.intro | (intro h; first | (rw [h]; rfl) | simpa using h)) (by first | exact True.intro | (intro h; first | (rw [h]; rfl) | simpa using h)) (by first | exact pickV_or _ _ | exact pickV_and _ _ | rfl) ?_
      | refine e_grd hTT false [] 1 rfl rfl rfl rfl rfl (by conv => { lhs; whnf; try dsimp only [List.take, List.drop, List.set, setCells, splice, List.append_eq, List.nil_append, List.cons_append, List.append_nil, List.length_cons, List.length_nil, Nat.zero_add, Nat.add_zero] }) (by conv => { lhs; dsimp only [keysP, List.map] }) (by intro hg; first | exact True.intro | exact Nat.le_of_ble_eq_true rfl | (simp at hg; first | omega | (simp only [inR]; omega) | (simp; omega))) ?_
      | refine e_grd hTT false [] 0 rfl rfl rfl rfl rfl (by conv => { lhs; whnf; try dsimp only [List.take, List.drop, List.set, setCells, splice, List.append_eq, List.nil_append, List.cons_append, List.append_nil, List.length_cons, List.length_nil, Nat.zero_add, Nat.add_zero] }) (by conv => { lhs; dsimp only [keysP, List.map] }) (by intro hg; first | exact True.intro | exact Nat.le_of_ble_eq_true rfl | (simp at hg; first | omega | (simp only [inR]; omega) | (simp; omega))) ?_
      | refine e_grd hTT false [] 2 rfl rfl rfl rfl rfl (by conv => { lhs; whnf; try dsimp only [List.take, List.drop, List.set, setCells, splice, List.append_eq, List.nil_append, List.cons_append, List.append_nil, List.length_cons, List.length_nil, Nat.zero_add, Nat.add_zero] }) (by conv => { lhs; dsimp only [keysP, List.map] }) (by intro hg; first | exact True.intro | exact Nat.le_of_ble_eq_true rfl | (simp at hg; first | omega | (simp only [inR]; omega) | (simp; omega))) ?_
      | refine e_store hTT false [] rfl rfl rfl rfl rfl (by conv => { lhs; whnf }) (by conv => { lhs; try dsimp only [List.take, List.drop, List.set, setCells, splice, List.append_eq, List.nil_append, List.cons_append, List.append_nil, List.length_cons, List.length_nil, Nat.zero_add, Nat.add_zero] }) (by conv => { lhs; dsimp only [keysP, List.map] }) (by first | exact True.intro | omega | (simp only [inR]; omega) | exact Nat.le_of_ble_eq_true rfl | (refine ⟨by omega, Nat.le_of_ble_eq_true rfl⟩) | (simp; done) | (simp; omega)) ?_
      | refine e_new hTT false [] rfl rfl rfl rfl rfl (by conv => { lhs; whnf; try dsimp only [List.take, List.drop, List.set, setCells, splice, List.append_eq, List.nil_append, List.cons_append, List.append_nil, List.length_cons, List.length_nil, Nat.zero_add, Nat.add_zero] }) (by conv => { lhs; whnf }) (by conv => { lhs; try dsimp only [List.take, List.drop, List.set, setCells, splice, List.append_eq, List.nil_append, List.cons_append, List.append_nil, List.length_cons, List.length_nil, Nat.zero_add, Nat.add_zero] }) (by conv => { lhs; dsimp only [keysP, List.map] }) (by first | exact True.intro | omega | (simp only [inR]; omega) | exact Nat.le_of_ble_eq_true rfl | (refine ⟨by omega, Nat.le_of_ble_eq_true rfl⟩) | (simp; done) | (simp; omega)) ?_
      | refine e_two hTT false [] rfl rfl rfl rfl rfl (by conv => { lhs; whnf; try dsimp only [List.take, List.drop, List.set, setCells, splice, List.append_eq, List.nil_append, List.cons_append, List.append_nil, List.length_cons, List.length_nil, Nat.zero_add, Nat.add_zero] }) (by conv => { lhs; whnf }) (by conv => { lhs; try dsimp only [List.take, List.drop, List.set, setCells, splice, List.append_eq, List.nil_append, List.cons_append, List.append_nil, List.length_cons, List.length_nil, Nat.zero_add, Nat.add_zero] }) (by conv => { lhs; whnf }) (by conv => { lhs; try dsimp only [List.take, List.drop, List.set, setCells, splice, List.append_eq, List.nil_append, List.cons_append, List.append_nil, List.length_cons, List.length_nil, Nat.zero_add, Nat.add_zero] }) (by conv => { lhs; dsimp only [keysP, List.map] }) (by first | exact True.intro | omega | (simp only [inR]; omega) | exact Nat.le_of_ble_eq_true rfl | (refine ⟨by omega, Nat.le_of_ble_eq_true rfl⟩) | (simp; done) | (simp; omega)) ?_
      | refine e_pickG rfl rfl (by first | exact pickV_or _ _ | exact pickV_and _ _ | rfl) (by first | exact True.intro | exact fun h => h) (by intro h; first | exact True.intro | (intro h2; first | (rw [h2]; rfl) | simp_all)) (by intro h; first | exact True.intro | (intro h2; first | (rw [h2]; rfl) | simp_all)) ?_))
  refine e_call (valid_ac t l 60 ht hl) rfl rfl rfl rfl rfl ?_
  repeat (first
    | (refine aw_seq_k fun K hK => ?_)
    | (refine xt_n ?_)
    | (refine xt_r ?_)
    | (refine xt_x ?_)
    | (refine xb_n ?_)
    | (refine xb_r ?_)
    | (refine xb_same ?_)
    | (refine xb_ne rfl ?_)
    | (refine aw_block ?_)
    | (refine aw_ret ?_)
    | (refine aw_exit ?_)
    | (refine aw_skip ?_)
    | (refine aw_label ?_)
    | (refine hK _ ?_; clear hK; clear K)
    | (clear hK; clear K; refine hK _ ?_; clear hK; clear K)
    | (clear hK; clear K; clear hK; clear K; refine hK _ ?_; clear hK; clear K)
    | (clear hK; clear K; clear hK; clear K; clear hK; clear K; refine hK _ ?_; clear hK; clear K)
    | (clear hK; clear K; clear hK; clear K; clear hK; clear K; clear hK; clear K; refine hK _ ?_; clear hK; clear K)
    | (first | refine w_region (by kernel_rfl) (by conv => { lhs; whnf }) ?_ | refine w_regionD (by kernel_rfl) (by conv => { lhs; whnf }) ?_)
    | refine aops_nil ⟨by kernel_rfl, ?_⟩
    | refine aops_nil ?_
    | (first
      | refine e_val hTT false [] rfl rfl rfl rfl rfl (by conv => { lhs; whnf; try dsimp only [List.take, List.drop, List.set, setCells, splice, List.append_eq, List.nil_append, List.cons_append, List.append_nil, List.length_cons, List.length_nil, Nat.zero_add, Nat.add_zero] }) (by conv => { lhs; dsimp only [keysP, List.map] }) (by first | exact True.intro | omega | (simp only [inR]; omega) | exact Nat.le_of_ble_eq_true rfl | (refine ⟨by omega, Nat.le_of_ble_eq_true rfl⟩) | (simp; done) | (simp; omega)) ?_
      | refine e_pick rfl (by first | exact True.intro | (intro h; first | (rw [h]; rfl) | simpa using h)) (by first | exact True.intro | (intro h; first | (rw [h]; rfl) | simpa using h)) (by first | exact pickV_or _ _ | exact pickV_and _ _ | rfl) ?_
      | refine e_grd hTT false [] 1 rfl rfl rfl rfl rfl (by conv => { lhs; whnf; try dsimp only [List.take, List.drop, List.set, setCells, splice, List.append_eq, List.nil_append, List.cons_append, List.append_nil, List.length_cons, List.length_nil, Nat.zero_add, Nat.add_zero] }) (by conv => { lhs; dsimp only [keysP, List.map] }) (by intro hg; first | exact True.intro | exact Nat.le_of_ble_eq_true rfl | (simp at hg; first | omega | (simp only [inR]; omega) | (simp; omega))) ?_
      | refine e_grd hTT false [] 0 rfl rfl rfl rfl rfl (by conv => { lhs; whnf; try dsimp only [List.take, List.drop, List.set, setCells, splice, List.append_eq, List.nil_append, List.cons_append, List.append_nil, List.length_cons, List.length_nil, Nat.zero_add, Nat.add_zero] }) (by conv => { lhs; dsimp only [keysP, List.map] }) (by intro hg; first | exact True.intro | exact Nat.le_of_ble_eq_true rfl | (simp at hg; first | omega | (simp only [inR]; omega) | (simp; omega))) ?_
      | refine e_grd hTT false [] 2 rfl rfl rfl rfl rfl (by conv => { lhs; whnf; try dsimp only [List.take, List.drop, List.set, setCells, splice, List.append_eq, List.nil_append, List.cons_append, List.append_nil, List.length_cons, List.length_nil, Nat.zero_add, Nat.add_zero] }) (by conv => { lhs; dsimp only [keysP, List.map] }) (by intro hg; first | exact True.intro | exact Nat.le_of_ble_eq_true rfl | (simp at hg; first | omega | (simp only [inR]; omega) | (simp; omega))) ?_
      | refine e_store hTT false [] rfl rfl rfl rfl rfl (by conv => { lhs; whnf }) (by conv => { lhs; try dsimp only [List.take, List.drop, List.set, setCells, splice, List.append_eq, List.nil_append, List.cons_append, List.append_nil, List.length_cons, List.length_nil, Nat.zero_add, Nat.add_zero] }) (by conv => { lhs; dsimp only [keysP, List.map] }) (by first | exact True.intro | omega | (simp only [inR]; omega) | exact Nat.le_of_ble_eq_true rfl | (refine ⟨by omega, Nat.le_of_ble_eq_true rfl⟩) | (simp; done) | (simp; omega)) ?_
      | refine e_new hTT false [] rfl rfl rfl rfl rfl (by conv => { lhs; whnf; try dsimp only [List.take, List.drop, List.set, setCells, splice, List.append_eq, List.nil_append, List.cons_append, List.append_nil, List.length_cons, List.length_nil, Nat.zero_add, Nat.add_zero] }) (by conv => { lhs; whnf }) (by conv => { lhs; try dsimp only [List.take, List.drop, List.set, setCells, splice, List.append_eq, List.nil_append, List.cons_append, List.append_nil, List.length_cons, List.length_nil, Nat.zero_add, Nat.add_zero] }) (by conv => { lhs; dsimp only [keysP, List.map] }) (by first | exact True.intro | omega | (simp only [inR]; omega) | exact Nat.le_of_ble_eq_true rfl | (refine ⟨by omega, Nat.le_of_ble_eq_true rfl⟩) | (simp; done) | (simp; omega)) ?_
      | refine e_two hTT false [] rfl rfl rfl rfl rfl (by conv => { lhs; whnf; try dsimp only [List.take, List.drop, List.set, setCells, splice, List.append_eq, List.nil_append, List.cons_append, List.append_nil, List.length_cons, List.length_nil, Nat.zero_add, Nat.add_zero] }) (by conv => { lhs; whnf }) (by conv => { lhs; try dsimp only [List.take, List.drop, List.set, setCells, splice, List.append_eq, List.nil_append, List.cons_append, List.append_nil, List.length_cons, List.length_nil, Nat.zero_add, Nat.add_zero] }) (by conv => { lhs; whnf }) (by conv => { lhs; try dsimp only [List.take, List.drop, List.set, setCells, splice, List.append_eq, List.nil_append, List.cons_append, List.append_nil, List.length_cons, List.length_nil, Nat.zero_add, Nat.add_zero] }) (by conv => { lhs; dsimp only [keysP, List.map] }) (by first | exact True.intro | omega | (simp only [inR]; omega) | exact Nat.le_of_ble_eq_true rfl | (refine ⟨by omega, Nat.le_of_ble_eq_true rfl⟩) | (simp; done) | (simp; omega)) ?_
      | refine e_pickG rfl rfl (by first | exact pickV_or _ _ | exact pickV_and _ _ | rfl) (by first | exact True.intro | exact fun h => h) (by intro h; first | exact True.intro | (intro h2; first | (rw [h2]; rfl) | simp_all)) (by intro h; first | exact True.intro | (intro h2; first | (rw [h2]; rfl) | simp_all)) ?_))
  refine w_cond rfl (fun h => ?_) (fun h => ?_)
  ·
    repeat (first
      | (refine aw_seq_k fun K hK => ?_)
      | (refine xt_n ?_)
      | (refine xt_r ?_)
      | (refine xt_x ?_)
      | (refine xb_n ?_)
      | (refine xb_r ?_)
      | (refine xb_same ?_)
      | (refine xb_ne rfl ?_)
      | (refine aw_block ?_)
      | (refine aw_ret ?_)
      | (refine aw_exit ?_)
      | (refine aw_skip ?_)
      | (refine aw_label ?_)
      | (refine hK _ ?_; clear hK; clear K)
      | (clear hK; clear K; refine hK _ ?_; clear hK; clear K)
      | (clear hK; clear K; clear hK; clear K; refine hK _ ?_; clear hK; clear K)
      | (clear hK; clear K; clear hK; clear K; clear hK; clear K; refine hK _ ?_; clear hK; clear K)
      | (clear hK; clear K; clear hK; clear K; clear hK; clear K; clear hK; clear K; refine hK _ ?_; clear hK; clear K)
      | (first | refine w_region (by kernel_rfl) (by conv => { lhs; whnf }) ?_ | refine w_regionD (by kernel_rfl) (by conv => { lhs; whnf }) ?_)
      | refine aops_nil ⟨by kernel_rfl, ?_⟩
      | refine aops_nil ?_
      | (first
        | refine e_val hTT false [] rfl rfl rfl rfl rfl (by conv => { lhs; whnf; try dsimp only [List.take, List.drop, List.set, setCells, splice, List.append_eq, List.nil_append, List.cons_append, List.append_nil, List.length_cons, List.length_nil, Nat.zero_add, Nat.add_zero] }) (by conv => { lhs; dsimp only [keysP, List.map] }) (by first | exact True.intro | omega | (simp only [inR]; omega) | exact Nat.le_of_ble_eq_true rfl | (refine ⟨by omega, Nat.le_of_ble_eq_true rfl⟩) | (simp; done) | (simp; omega)) ?_
        | refine e_pick rfl (by first | exact True.intro | (intro h; first | (rw [h]; rfl) | simpa using h)) (by first | exact True.intro | (intro h; first | (rw [h]; rfl) | simpa using h)) (by first | exact pickV_or _ _ | exact pickV_and _ _ | rfl) ?_
        | refine e_grd hTT false [] 1 rfl rfl rfl rfl rfl (by conv => { lhs; whnf; try dsimp only [List.take, List.drop, List.set, setCells, splice, List.append_eq, List.nil_append, List.cons_append, List.append_nil, List.length_cons, List.length_nil, Nat.zero_add, Nat.add_zero] }) (by conv => { lhs; dsimp only [keysP, List.map] }) (by intro hg; first | exact True.intro | exact Nat.le_of_ble_eq_true rfl | (simp at hg; first | omega | (simp only [inR]; omega) | (simp; omega))) ?_
        | refine e_grd hTT false [] 0 rfl rfl rfl rfl rfl (by conv => { lhs; whnf; try dsimp only [List.take, List.drop, List.set, setCells, splice, List.append_eq, List.nil_append, List.cons_append, List.append_nil, List.length_cons, List.length_nil, Nat.zero_add, Nat.add_zero] }) (by conv => { lhs; dsimp only [keysP, List.map] }) (by intro hg; first | exact True.intro | exact Nat.le_of_ble_eq_true rfl | (simp at hg; first | omega | (simp only [inR]; omega) | (simp; omega))) ?_
        | refine e_grd hTT false [] 2 rfl rfl rfl rfl rfl (by conv => { lhs; whnf; try dsimp only [List.take, List.drop, List.set, setCells, splice, List.append_eq, List.nil_append, List.cons_append, List.append_nil, List.length_cons, List.length_nil, Nat.zero_add, Nat.add_zero] }) (by conv => { lhs; dsimp only [keysP, List.map] }) (by intro hg; first | exact True.intro | exact Nat.le_of_ble_eq_true rfl | (simp at hg; first | omega | (simp only [inR]; omega) | (simp; omega))) ?_
        | refine e_store hTT false [] rfl rfl rfl rfl rfl (by conv => { lhs; whnf }) (by conv => { lhs; try dsimp only [List.take, List.drop, List.set, setCells, splice, List.append_eq, List.nil_append, List.cons_append, List.append_nil, List.length_cons, List.length_nil, Nat.zero_add, Nat.add_zero] }) (by conv => { lhs; dsimp only [keysP, List.map] }) (by first | exact True.intro | omega | (simp only [inR]; omega) | exact Nat.le_of_ble_eq_true rfl | (refine ⟨by omega, Nat.le_of_ble_eq_true rfl⟩) | (simp; done) | (simp; omega)) ?_
        | refine e_new hTT false [] rfl rfl rfl rfl rfl (by conv => { lhs; whnf; try dsimp only [List.take, List.drop, List.set, setCells, splice, List.append_eq, List.nil_append, List.cons_append, List.append_nil, List.length_cons, List.length_nil, Nat.zero_add, Nat.add_zero] }) (by conv => { lhs; whnf }) (by conv => { lhs; try dsimp only [List.take, List.drop, List.set, setCells, splice, List.append_eq, List.nil_append, List.cons_append, List.append_nil, List.length_cons, List.length_nil, Nat.zero_add, Nat.add_zero] }) (by conv => { lhs; dsimp only [keysP, List.map] }) (by first | exact True.intro | omega | (simp only [inR]; omega) | exact Nat.le_of_ble_eq_true rfl | (refine ⟨by omega, Nat.le_of_ble_eq_true rfl⟩) | (simp; done) | (simp; omega)) ?_
        | refine e_two hTT false [] rfl rfl rfl rfl rfl (by conv => { lhs; whnf; try dsimp only [List.take, List.drop, List.set, setCells, splice, List.append_eq, List.nil_append, List.cons_append, List.append_nil, List.length_cons, List.length_nil, Nat.zero_add, Nat.add_zero] }) (by conv => { lhs; whnf }) (by conv => { lhs; try dsimp only [List.take, List.drop, List.set, setCells, splice, List.append_eq, List.nil_append, List.cons_append, List.append_nil, List.length_cons, List.length_nil, Nat.zero_add, Nat.add_zero] }) (by conv => { lhs; whnf }) (by conv => { lhs; try dsimp only [List.take, List.drop, List.set, setCells, splice, List.append_eq, List.nil_append, List.cons_append, List.append_nil, List.length_cons, List.length_nil, Nat.zero_add, Nat.add_zero] }) (by conv => { lhs; dsimp only [keysP, List.map] }) (by first | exact True.intro | omega | (simp only [inR]; omega) | exact Nat.le_of_ble_eq_true rfl | (refine ⟨by omega, Nat.le_of_ble_eq_true rfl⟩) | (simp; done) | (simp; omega)) ?_
        | refine e_pickG rfl rfl (by first | exact pickV_or _ _ | exact pickV_and _ _ | rfl) (by first | exact True.intro | exact fun h => h) (by intro h; first | exact True.intro | (intro h2; first | (rw [h2]; rfl) | simp_all)) (by intro h; first | exact True.intro | (intro h2; first | (rw [h2]; rfl) | simp_all)) ?_))
    refine e_call works_ac rfl rfl rfl rfl rfl ?_
    repeat (first
      | (refine aw_seq_k fun K hK => ?_)
      | (refine xt_n ?_)
      | (refine xt_r ?_)
      | (refine xt_x ?_)
      | (refine xb_n ?_)
      | (refine xb_r ?_)
      | (refine xb_same ?_)
      | (refine xb_ne rfl ?_)
      | (refine aw_block ?_)
      | (refine aw_ret ?_)
      | (refine aw_exit ?_)
      | (refine aw_skip ?_)
      | (refine aw_label ?_)
      | (refine hK _ ?_; clear hK; clear K)
      | (clear hK; clear K; refine hK _ ?_; clear hK; clear K)
      | (clear hK; clear K; clear hK; clear K; refine hK _ ?_; clear hK; clear K)
      | (clear hK; clear K; clear hK; clear K; clear hK; clear K; refine hK _ ?_; clear hK; clear K)
      | (clear hK; clear K; clear hK; clear K; clear hK; clear K; clear hK; clear K; refine hK _ ?_; clear hK; clear K)
      | (first | refine w_region (by kernel_rfl) (by conv => { lhs; whnf }) ?_ | refine w_regionD (by kernel_rfl) (by conv => { lhs; whnf }) ?_)
      | refine aops_nil ⟨by kernel_rfl, ?_⟩
      | refine aops_nil ?_
      | (first
        | refine e_val hTT false [] rfl rfl rfl rfl rfl (by conv => { lhs; whnf; try dsimp only [List.take, List.drop, List.set, setCells, splice, List.append_eq, List.nil_append, List.cons_append, List.append_nil, List.length_cons, List.length_nil, Nat.zero_add, Nat.add_zero] }) (by conv => { lhs; dsimp only [keysP, List.map] }) (by first | exact True.intro | omega | (simp only [inR]; omega) | exact Nat.le_of_ble_eq_true rfl | (refine ⟨by omega, Nat.le_of_ble_eq_true rfl⟩) | (simp; done) | (simp; omega)) ?_
        | refine e_pick rfl (by first | exact True.intro | (intro h; first | (rw [h]; rfl) | simpa using h)) (by first | exact True.intro | (intro h; first | (rw [h]; rfl) | simpa using h)) (by first | exact pickV_or _ _ | exact pickV_and _ _ | rfl) ?_
        | refine e_grd hTT false [] 1 rfl rfl rfl rfl rfl (by conv => { lhs; whnf; try dsimp only [List.take, List.drop, List.set, setCells, splice, List.append_eq, List.nil_append, List.cons_append, List.append_nil, List.length_cons, List.length_nil, Nat.zero_add, Nat.add_zero] }) (by conv => { lhs; dsimp only [keysP, List.map] }) (by intro hg; first | exact True.intro | exact Nat.le_of_ble_eq_true rfl | (simp at hg; first | omega | (simp only [inR]; omega) | (simp; omega))) ?_
        | refine e_grd hTT false [] 0 rfl rfl rfl rfl rfl (by conv => { lhs; whnf; try dsimp only [List.take, List.drop, List.set, setCells, splice, List.append_eq, List.nil_append, List.cons_append, List.append_nil, List.length_cons, List.length_nil, Nat.zero_add, Nat.add_zero] }) (by conv => { lhs; dsimp only [keysP, List.map] }) (by intro hg; first | exact True.intro | exact Nat.le_of_ble_eq_true rfl | (simp at hg; first | omega | (simp only [inR]; omega) | (simp; omega))) ?_
        | refine e_grd hTT false [] 2 rfl rfl rfl rfl rfl (by conv => { lhs; whnf; try dsimp only [List.take, List.drop, List.set, setCells, splice, List.append_eq, List.nil_append, List.cons_append, List.append_nil, List.length_cons, List.length_nil, Nat.zero_add, Nat.add_zero] }) (by conv => { lhs; dsimp only [keysP, List.map] }) (by intro hg; first | exact True.intro | exact Nat.le_of_ble_eq_true rfl | (simp at hg; first | omega | (simp only [inR]; omega) | (simp; omega))) ?_
        | refine e_store hTT false [] rfl rfl rfl rfl rfl (by conv => { lhs; whnf }) (by conv => { lhs; try dsimp only [List.take, List.drop, List.set, setCells, splice, List.append_eq, List.nil_append, List.cons_append, List.append_nil, List.length_cons, List.length_nil, Nat.zero_add, Nat.add_zero] }) (by conv => { lhs; dsimp only [keysP, List.map] }) (by first | exact True.intro | omega | (simp only [inR]; omega) | exact Nat.le_of_ble_eq_true rfl | (refine ⟨by omega, Nat.le_of_ble_eq_true rfl⟩) | (simp; done) | (simp; omega)) ?_
        | refine e_new hTT false [] rfl rfl rfl rfl rfl (by conv => { lhs; whnf; try dsimp only [List.take, List.drop, List.set, setCells, splice, List.append_eq, List.nil_append, List.cons_append, List.append_nil, List.length_cons, List.length_nil, Nat.zero_add, Nat.add_zero] }) (by conv => { lhs; whnf }) (by conv => { lhs; try dsimp only [List.take, List.drop, List.set, setCells, splice, List.append_eq, List.nil_append, List.cons_append, List.append_nil, List.length_cons, List.length_nil, Nat.zero_add, Nat.add_zero] }) (by conv => { lhs; dsimp only [keysP, List.map] }) (by first | exact True.intro | omega | (simp only [inR]; omega) | exact Nat.le_of_ble_eq_true rfl | (refine ⟨by omega, Nat.le_of_ble_eq_true rfl⟩) | (simp; done) | (simp; omega)) ?_
        | refine e_two hTT false [] rfl rfl rfl rfl rfl (by conv => { lhs; whnf; try dsimp only [List.take, List.drop, List.set, setCells, splice, List.append_eq, List.nil_append, List.cons_append, List.append_nil, List.length_cons, List.length_nil, Nat.zero_add, Nat.add_zero] }) (by conv => { lhs; whnf }) (by conv => { lhs; try dsimp only [List.take, List.drop, List.set, setCells, splice, List.append_eq, List.nil_append, List.cons_append, List.append_nil, List.length_cons, List.length_nil, Nat.zero_add, Nat.add_zero] }) (by conv => { lhs; whnf }) (by conv => { lhs; try dsimp only [List.take, List.drop, List.set, setCells, splice, List.append_eq, List.nil_append, List.cons_append, List.append_nil, List.length_cons, List.length_nil, Nat.zero_add, Nat.add_zero] }) (by conv => { lhs; dsimp only [keysP, List.map] }) (by first | exact True.intro | omega | (simp only [inR]; omega) | exact Nat.le_of_ble_eq_true rfl | (refine ⟨by omega, Nat.le_of_ble_eq_true rfl⟩) | (simp; done) | (simp; omega)) ?_
        | refine e_pickG rfl rfl (by first | exact pickV_or _ _ | exact pickV_and _ _ | rfl) (by first | exact True.intro | exact fun h => h) (by intro h; first | exact True.intro | (intro h2; first | (rw [h2]; rfl) | simp_all)) (by intro h; first | exact True.intro | (intro h2; first | (rw [h2]; rfl) | simp_all)) ?_))
    refine ret_pure (.inr rfl) rfl rfl rfl
  · have hv : validB t l 60 = true := by simpa using h
    obtain ⟨v1, v2, v3⟩ := validB_ok (most := 60) hv
    have hck := checkBoth_of v1 v3
    obtain ⟨s1, s2⟩ := sharpL_facts (bs := bs) (less := less) v1 hbb
    have hcs := checkBoth_of s1 v3
    have hc0 : checkBoth [0] l = 0 := checkBoth_of (by decide) v3
    have hsl : (sharpL t bs less).length ≤ 4611686018427387904 := by have := s2.1; omega
    obtain ⟨m1, m2, _, _, m3⟩ := checkTip_ok v1
    obtain ⟨m4, m5⟩ := checkPts_ok v3
    have lr := readP_length t l
    have ls := sweepP_length t l
    repeat (first
      | (refine aw_seq_k fun K hK => ?_)
      | (refine xt_n ?_)
      | (refine xt_r ?_)
      | (refine xt_x ?_)
      | (refine xb_n ?_)
      | (refine xb_r ?_)
      | (refine xb_same ?_)
      | (refine xb_ne rfl ?_)
      | (refine aw_block ?_)
      | (refine aw_ret ?_)
      | (refine aw_exit ?_)
      | (refine aw_skip ?_)
      | (refine aw_label ?_)
      | (refine hK _ ?_; clear hK; clear K)
      | (clear hK; clear K; refine hK _ ?_; clear hK; clear K)
      | (clear hK; clear K; clear hK; clear K; refine hK _ ?_; clear hK; clear K)
      | (clear hK; clear K; clear hK; clear K; clear hK; clear K; refine hK _ ?_; clear hK; clear K)
      | (clear hK; clear K; clear hK; clear K; clear hK; clear K; clear hK; clear K; refine hK _ ?_; clear hK; clear K)
      | (first | refine w_region (by kernel_rfl) (by conv => { lhs; whnf }) ?_ | refine w_regionD (by kernel_rfl) (by conv => { lhs; whnf }) ?_)
      | refine aops_nil ⟨by kernel_rfl, ?_⟩
      | refine aops_nil ?_
      | (first
        | refine e_val hTT false [] rfl rfl rfl rfl rfl (by conv => { lhs; whnf; try dsimp only [List.take, List.drop, List.set, setCells, splice, List.append_eq, List.nil_append, List.cons_append, List.append_nil, List.length_cons, List.length_nil, Nat.zero_add, Nat.add_zero] }) (by conv => { lhs; dsimp only [keysP, List.map] }) (by first | exact True.intro | omega | (simp only [inR]; omega) | exact Nat.le_of_ble_eq_true rfl | (refine ⟨by omega, Nat.le_of_ble_eq_true rfl⟩) | (simp; done) | (simp; omega)) ?_
        | refine e_pick rfl (by first | exact True.intro | (intro h; first | (rw [h]; rfl) | simpa using h)) (by first | exact True.intro | (intro h; first | (rw [h]; rfl) | simpa using h)) (by first | exact pickV_or _ _ | exact pickV_and _ _ | rfl) ?_
        | refine e_grd hTT false [] 1 rfl rfl rfl rfl rfl (by conv => { lhs; whnf; try dsimp only [List.take, List.drop, List.set, setCells, splice, List.append_eq, List.nil_append, List.cons_append, List.append_nil, List.length_cons, List.length_nil, Nat.zero_add, Nat.add_zero] }) (by conv => { lhs; dsimp only [keysP, List.map] }) (by intro hg; first | exact True.intro | exact Nat.le_of_ble_eq_true rfl | (simp at hg; first | omega | (simp only [inR]; omega) | (simp; omega))) ?_
        | refine e_grd hTT false [] 0 rfl rfl rfl rfl rfl (by conv => { lhs; whnf; try dsimp only [List.take, List.drop, List.set, setCells, splice, List.append_eq, List.nil_append, List.cons_append, List.append_nil, List.length_cons, List.length_nil, Nat.zero_add, Nat.add_zero] }) (by conv => { lhs; dsimp only [keysP, List.map] }) (by intro hg; first | exact True.intro | exact Nat.le_of_ble_eq_true rfl | (simp at hg; first | omega | (simp only [inR]; omega) | (simp; omega))) ?_
        | refine e_grd hTT false [] 2 rfl rfl rfl rfl rfl (by conv => { lhs; whnf; try dsimp only [List.take, List.drop, List.set, setCells, splice, List.append_eq, List.nil_append, List.cons_append, List.append_nil, List.length_cons, List.length_nil, Nat.zero_add, Nat.add_zero] }) (by conv => { lhs; dsimp only [keysP, List.map] }) (by intro hg; first | exact True.intro | exact Nat.le_of_ble_eq_true rfl | (simp at hg; first | omega | (simp only [inR]; omega) | (simp; omega))) ?_
        | refine e_store hTT false [] rfl rfl rfl rfl rfl (by conv => { lhs; whnf }) (by conv => { lhs; try dsimp only [List.take, List.drop, List.set, setCells, splice, List.append_eq, List.nil_append, List.cons_append, List.append_nil, List.length_cons, List.length_nil, Nat.zero_add, Nat.add_zero] }) (by conv => { lhs; dsimp only [keysP, List.map] }) (by first | exact True.intro | omega | (simp only [inR]; omega) | exact Nat.le_of_ble_eq_true rfl | (refine ⟨by omega, Nat.le_of_ble_eq_true rfl⟩) | (simp; done) | (simp; omega)) ?_
        | refine e_new hTT false [] rfl rfl rfl rfl rfl (by conv => { lhs; whnf; try dsimp only [List.take, List.drop, List.set, setCells, splice, List.append_eq, List.nil_append, List.cons_append, List.append_nil, List.length_cons, List.length_nil, Nat.zero_add, Nat.add_zero] }) (by conv => { lhs; whnf }) (by conv => { lhs; try dsimp only [List.take, List.drop, List.set, setCells, splice, List.append_eq, List.nil_append, List.cons_append, List.append_nil, List.length_cons, List.length_nil, Nat.zero_add, Nat.add_zero] }) (by conv => { lhs; dsimp only [keysP, List.map] }) (by first | exact True.intro | omega | (simp only [inR]; omega) | exact Nat.le_of_ble_eq_true rfl | (refine ⟨by omega, Nat.le_of_ble_eq_true rfl⟩) | (simp; done) | (simp; omega)) ?_
        | refine e_two hTT false [] rfl rfl rfl rfl rfl (by conv => { lhs; whnf; try dsimp only [List.take, List.drop, List.set, setCells, splice, List.append_eq, List.nil_append, List.cons_append, List.append_nil, List.length_cons, List.length_nil, Nat.zero_add, Nat.add_zero] }) (by conv => { lhs; whnf }) (by conv => { lhs; try dsimp only [List.take, List.drop, List.set, setCells, splice, List.append_eq, List.nil_append, List.cons_append, List.append_nil, List.length_cons, List.length_nil, Nat.zero_add, Nat.add_zero] }) (by conv => { lhs; whnf }) (by conv => { lhs; try dsimp only [List.take, List.drop, List.set, setCells, splice, List.append_eq, List.nil_append, List.cons_append, List.append_nil, List.length_cons, List.length_nil, Nat.zero_add, Nat.add_zero] }) (by conv => { lhs; dsimp only [keysP, List.map] }) (by first | exact True.intro | omega | (simp only [inR]; omega) | exact Nat.le_of_ble_eq_true rfl | (refine ⟨by omega, Nat.le_of_ble_eq_true rfl⟩) | (simp; done) | (simp; omega)) ?_
        | refine e_pickG rfl rfl (by first | exact pickV_or _ _ | exact pickV_and _ _ | rfl) (by first | exact True.intro | exact fun h => h) (by intro h; first | exact True.intro | (intro h2; first | (rw [h2]; rfl) | simp_all)) (by intro h; first | exact True.intro | (intro h2; first | (rw [h2]; rfl) | simp_all)) ?_))
    refine e_call (Read_ok t l ht hl hck) rfl rfl rfl rfl rfl ?_
    repeat (first
      | (refine aw_seq_k fun K hK => ?_)
      | (refine xt_n ?_)
      | (refine xt_r ?_)
      | (refine xt_x ?_)
      | (refine xb_n ?_)
      | (refine xb_r ?_)
      | (refine xb_same ?_)
      | (refine xb_ne rfl ?_)
      | (refine aw_block ?_)
      | (refine aw_ret ?_)
      | (refine aw_exit ?_)
      | (refine aw_skip ?_)
      | (refine aw_label ?_)
      | (refine hK _ ?_; clear hK; clear K)
      | (clear hK; clear K; refine hK _ ?_; clear hK; clear K)
      | (clear hK; clear K; clear hK; clear K; refine hK _ ?_; clear hK; clear K)
      | (clear hK; clear K; clear hK; clear K; clear hK; clear K; refine hK _ ?_; clear hK; clear K)
      | (clear hK; clear K; clear hK; clear K; clear hK; clear K; clear hK; clear K; refine hK _ ?_; clear hK; clear K)
      | (first | refine w_region (by kernel_rfl) (by conv => { lhs; whnf }) ?_ | refine w_regionD (by kernel_rfl) (by conv => { lhs; whnf }) ?_)
      | refine aops_nil ⟨by kernel_rfl, ?_⟩
      | refine aops_nil ?_
      | (first
        | refine e_val hTT false [] rfl rfl rfl rfl rfl (by conv => { lhs; whnf; try dsimp only [List.take, List.drop, List.set, setCells, splice, List.append_eq, List.nil_append, List.cons_append, List.append_nil, List.length_cons, List.length_nil, Nat.zero_add, Nat.add_zero] }) (by conv => { lhs; dsimp only [keysP, List.map] }) (by first | exact True.intro | omega | (simp only [inR]; omega) | exact Nat.le_of_ble_eq_true rfl | (refine ⟨by omega, Nat.le_of_ble_eq_true rfl⟩) | (simp; done) | (simp; omega)) ?_
        | refine e_pick rfl (by first | exact True.intro | (intro h; first | (rw [h]; rfl) | simpa using h)) (by first | exact True.intro | (intro h; first | (rw [h]; rfl) | simpa using h)) (by first | exact pickV_or _ _ | exact pickV_and _ _ | rfl) ?_
        | refine e_grd hTT false [] 1 rfl rfl rfl rfl rfl (by conv => { lhs; whnf; try dsimp only [List.take, List.drop, List.set, setCells, splice, List.append_eq, List.nil_append, List.cons_append, List.append_nil, List.length_cons, List.length_nil, Nat.zero_add, Nat.add_zero] }) (by conv => { lhs; dsimp only [keysP, List.map] }) (by intro hg; first | exact True.intro | exact Nat.le_of_ble_eq_true rfl | (simp at hg; first | omega | (simp only [inR]; omega) | (simp; omega))) ?_
        | refine e_grd hTT false [] 0 rfl rfl rfl rfl rfl (by conv => { lhs; whnf; try dsimp only [List.take, List.drop, List.set, setCells, splice, List.append_eq, List.nil_append, List.cons_append, List.append_nil, List.length_cons, List.length_nil, Nat.zero_add, Nat.add_zero] }) (by conv => { lhs; dsimp only [keysP, List.map] }) (by intro hg; first | exact True.intro | exact Nat.le_of_ble_eq_true rfl | (simp at hg; first | omega | (simp only [inR]; omega) | (simp; omega))) ?_
        | refine e_grd hTT false [] 2 rfl rfl rfl rfl rfl (by conv => { lhs; whnf; try dsimp only [List.take, List.drop, List.set, setCells, splice, List.append_eq, List.nil_append, List.cons_append, List.append_nil, List.length_cons, List.length_nil, Nat.zero_add, Nat.add_zero] }) (by conv => { lhs; dsimp only [keysP, List.map] }) (by intro hg; first | exact True.intro | exact Nat.le_of_ble_eq_true rfl | (simp at hg; first | omega | (simp only [inR]; omega) | (simp; omega))) ?_
        | refine e_store hTT false [] rfl rfl rfl rfl rfl (by conv => { lhs; whnf }) (by conv => { lhs; try dsimp only [List.take, List.drop, List.set, setCells, splice, List.append_eq, List.nil_append, List.cons_append, List.append_nil, List.length_cons, List.length_nil, Nat.zero_add, Nat.add_zero] }) (by conv => { lhs; dsimp only [keysP, List.map] }) (by first | exact True.intro | omega | (simp only [inR]; omega) | exact Nat.le_of_ble_eq_true rfl | (refine ⟨by omega, Nat.le_of_ble_eq_true rfl⟩) | (simp; done) | (simp; omega)) ?_
        | refine e_new hTT false [] rfl rfl rfl rfl rfl (by conv => { lhs; whnf; try dsimp only [List.take, List.drop, List.set, setCells, splice, List.append_eq, List.nil_append, List.cons_append, List.append_nil, List.length_cons, List.length_nil, Nat.zero_add, Nat.add_zero] }) (by conv => { lhs; whnf }) (by conv => { lhs; try dsimp only [List.take, List.drop, List.set, setCells, splice, List.append_eq, List.nil_append, List.cons_append, List.append_nil, List.length_cons, List.length_nil, Nat.zero_add, Nat.add_zero] }) (by conv => { lhs; dsimp only [keysP, List.map] }) (by first | exact True.intro | omega | (simp only [inR]; omega) | exact Nat.le_of_ble_eq_true rfl | (refine ⟨by omega, Nat.le_of_ble_eq_true rfl⟩) | (simp; done) | (simp; omega)) ?_
        | refine e_two hTT false [] rfl rfl rfl rfl rfl (by conv => { lhs; whnf; try dsimp only [List.take, List.drop, List.set, setCells, splice, List.append_eq, List.nil_append, List.cons_append, List.append_nil, List.length_cons, List.length_nil, Nat.zero_add, Nat.add_zero] }) (by conv => { lhs; whnf }) (by conv => { lhs; try dsimp only [List.take, List.drop, List.set, setCells, splice, List.append_eq, List.nil_append, List.cons_append, List.append_nil, List.length_cons, List.length_nil, Nat.zero_add, Nat.add_zero] }) (by conv => { lhs; whnf }) (by conv => { lhs; try dsimp only [List.take, List.drop, List.set, setCells, splice, List.append_eq, List.nil_append, List.cons_append, List.append_nil, List.length_cons, List.length_nil, Nat.zero_add, Nat.add_zero] }) (by conv => { lhs; dsimp only [keysP, List.map] }) (by first | exact True.intro | omega | (simp only [inR]; omega) | exact Nat.le_of_ble_eq_true rfl | (refine ⟨by omega, Nat.le_of_ble_eq_true rfl⟩) | (simp; done) | (simp; omega)) ?_
        | refine e_pickG rfl rfl (by first | exact pickV_or _ _ | exact pickV_and _ _ | rfl) (by first | exact True.intro | exact fun h => h) (by intro h; first | exact True.intro | (intro h2; first | (rw [h2]; rfl) | simp_all)) (by intro h; first | exact True.intro | (intro h2; first | (rw [h2]; rfl) | simp_all)) ?_))
    refine e_call (Sweep_ok t l ht hl hck) rfl rfl rfl rfl rfl ?_
    repeat (first
      | (refine aw_seq_k fun K hK => ?_)
      | (refine xt_n ?_)
      | (refine xt_r ?_)
      | (refine xt_x ?_)
      | (refine xb_n ?_)
      | (refine xb_r ?_)
      | (refine xb_same ?_)
      | (refine xb_ne rfl ?_)
      | (refine aw_block ?_)
      | (refine aw_ret ?_)
      | (refine aw_exit ?_)
      | (refine aw_skip ?_)
      | (refine aw_label ?_)
      | (refine hK _ ?_; clear hK; clear K)
      | (clear hK; clear K; refine hK _ ?_; clear hK; clear K)
      | (clear hK; clear K; clear hK; clear K; refine hK _ ?_; clear hK; clear K)
      | (clear hK; clear K; clear hK; clear K; clear hK; clear K; refine hK _ ?_; clear hK; clear K)
      | (clear hK; clear K; clear hK; clear K; clear hK; clear K; clear hK; clear K; refine hK _ ?_; clear hK; clear K)
      | (first | refine w_region (by kernel_rfl) (by conv => { lhs; whnf }) ?_ | refine w_regionD (by kernel_rfl) (by conv => { lhs; whnf }) ?_)
      | refine aops_nil ⟨by kernel_rfl, ?_⟩
      | refine aops_nil ?_
      | (first
        | refine e_val hTT false [] rfl rfl rfl rfl rfl (by conv => { lhs; whnf; try dsimp only [List.take, List.drop, List.set, setCells, splice, List.append_eq, List.nil_append, List.cons_append, List.append_nil, List.length_cons, List.length_nil, Nat.zero_add, Nat.add_zero] }) (by conv => { lhs; dsimp only [keysP, List.map] }) (by first | exact True.intro | omega | (simp only [inR]; omega) | exact Nat.le_of_ble_eq_true rfl | (refine ⟨by omega, Nat.le_of_ble_eq_true rfl⟩) | (simp; done) | (simp; omega)) ?_
        | refine e_pick rfl (by first | exact True.intro | (intro h; first | (rw [h]; rfl) | simpa using h)) (by first | exact True.intro | (intro h; first | (rw [h]; rfl) | simpa using h)) (by first | exact pickV_or _ _ | exact pickV_and _ _ | rfl) ?_
        | refine e_grd hTT false [] 1 rfl rfl rfl rfl rfl (by conv => { lhs; whnf; try dsimp only [List.take, List.drop, List.set, setCells, splice, List.append_eq, List.nil_append, List.cons_append, List.append_nil, List.length_cons, List.length_nil, Nat.zero_add, Nat.add_zero] }) (by conv => { lhs; dsimp only [keysP, List.map] }) (by intro hg; first | exact True.intro | exact Nat.le_of_ble_eq_true rfl | (simp at hg; first | omega | (simp only [inR]; omega) | (simp; omega))) ?_
        | refine e_grd hTT false [] 0 rfl rfl rfl rfl rfl (by conv => { lhs; whnf; try dsimp only [List.take, List.drop, List.set, setCells, splice, List.append_eq, List.nil_append, List.cons_append, List.append_nil, List.length_cons, List.length_nil, Nat.zero_add, Nat.add_zero] }) (by conv => { lhs; dsimp only [keysP, List.map] }) (by intro hg; first | exact True.intro | exact Nat.le_of_ble_eq_true rfl | (simp at hg; first | omega | (simp only [inR]; omega) | (simp; omega))) ?_
        | refine e_grd hTT false [] 2 rfl rfl rfl rfl rfl (by conv => { lhs; whnf; try dsimp only [List.take, List.drop, List.set, setCells, splice, List.append_eq, List.nil_append, List.cons_append, List.append_nil, List.length_cons, List.length_nil, Nat.zero_add, Nat.add_zero] }) (by conv => { lhs; dsimp only [keysP, List.map] }) (by intro hg; first | exact True.intro | exact Nat.le_of_ble_eq_true rfl | (simp at hg; first | omega | (simp only [inR]; omega) | (simp; omega))) ?_
        | refine e_store hTT false [] rfl rfl rfl rfl rfl (by conv => { lhs; whnf }) (by conv => { lhs; try dsimp only [List.take, List.drop, List.set, setCells, splice, List.append_eq, List.nil_append, List.cons_append, List.append_nil, List.length_cons, List.length_nil, Nat.zero_add, Nat.add_zero] }) (by conv => { lhs; dsimp only [keysP, List.map] }) (by first | exact True.intro | omega | (simp only [inR]; omega) | exact Nat.le_of_ble_eq_true rfl | (refine ⟨by omega, Nat.le_of_ble_eq_true rfl⟩) | (simp; done) | (simp; omega)) ?_
        | refine e_new hTT false [] rfl rfl rfl rfl rfl (by conv => { lhs; whnf; try dsimp only [List.take, List.drop, List.set, setCells, splice, List.append_eq, List.nil_append, List.cons_append, List.append_nil, List.length_cons, List.length_nil, Nat.zero_add, Nat.add_zero] }) (by conv => { lhs; whnf }) (by conv => { lhs; try dsimp only [List.take, List.drop, List.set, setCells, splice, List.append_eq, List.nil_append, List.cons_append, List.append_nil, List.length_cons, List.length_nil, Nat.zero_add, Nat.add_zero] }) (by conv => { lhs; dsimp only [keysP, List.map] }) (by first | exact True.intro | omega | (simp only [inR]; omega) | exact Nat.le_of_ble_eq_true rfl | (refine ⟨by omega, Nat.le_of_ble_eq_true rfl⟩) | (simp; done) | (simp; omega)) ?_
        | refine e_two hTT false [] rfl rfl rfl rfl rfl (by conv => { lhs; whnf; try dsimp only [List.take, List.drop, List.set, setCells, splice, List.append_eq, List.nil_append, List.cons_append, List.append_nil, List.length_cons, List.length_nil, Nat.zero_add, Nat.add_zero] }) (by conv => { lhs; whnf }) (by conv => { lhs; try dsimp only [List.take, List.drop, List.set, setCells, splice, List.append_eq, List.nil_append, List.cons_append, List.append_nil, List.length_cons, List.length_nil, Nat.zero_add, Nat.add_zero] }) (by conv => { lhs; whnf }) (by conv => { lhs; try dsimp only [List.take, List.drop, List.set, setCells, splice, List.append_eq, List.nil_append, List.cons_append, List.append_nil, List.length_cons, List.length_nil, Nat.zero_add, Nat.add_zero] }) (by conv => { lhs; dsimp only [keysP, List.map] }) (by first | exact True.intro | omega | (simp only [inR]; omega) | exact Nat.le_of_ble_eq_true rfl | (refine ⟨by omega, Nat.le_of_ble_eq_true rfl⟩) | (simp; done) | (simp; omega)) ?_
        | refine e_pickG rfl rfl (by first | exact pickV_or _ _ | exact pickV_and _ _ | rfl) (by first | exact True.intro | exact fun h => h) (by intro h; first | exact True.intro | (intro h2; first | (rw [h2]; rfl) | simp_all)) (by intro h; first | exact True.intro | (intro h2; first | (rw [h2]; rfl) | simp_all)) ?_))
    cases hp : missP t l with
    | none =>
      refine e_call (Miss_none t l ht hl hck hp) rfl rfl rfl rfl rfl ?_
      repeat (first
        | (refine aw_seq_k fun K hK => ?_)
        | (refine xt_n ?_)
        | (refine xt_r ?_)
        | (refine xt_x ?_)
        | (refine xb_n ?_)
        | (refine xb_r ?_)
        | (refine xb_same ?_)
        | (refine xb_ne rfl ?_)
        | (refine aw_block ?_)
        | (refine aw_ret ?_)
        | (refine aw_exit ?_)
        | (refine aw_skip ?_)
        | (refine aw_label ?_)
        | (refine hK _ ?_; clear hK; clear K)
        | (clear hK; clear K; refine hK _ ?_; clear hK; clear K)
        | (clear hK; clear K; clear hK; clear K; refine hK _ ?_; clear hK; clear K)
        | (clear hK; clear K; clear hK; clear K; clear hK; clear K; refine hK _ ?_; clear hK; clear K)
        | (clear hK; clear K; clear hK; clear K; clear hK; clear K; clear hK; clear K; refine hK _ ?_; clear hK; clear K)
        | (first | refine w_region (by kernel_rfl) (by conv => { lhs; whnf }) ?_ | refine w_regionD (by kernel_rfl) (by conv => { lhs; whnf }) ?_)
        | refine aops_nil ⟨by kernel_rfl, ?_⟩
        | refine aops_nil ?_
        | (first
          | refine e_val hTT false [] rfl rfl rfl rfl rfl (by conv => { lhs; whnf; try dsimp only [List.take, List.drop, List.set, setCells, splice, List.append_eq, List.nil_append, List.cons_append, List.append_nil, List.length_cons, List.length_nil, Nat.zero_add, Nat.add_zero] }) (by conv => { lhs; dsimp only [keysP, List.map] }) (by first | exact True.intro | omega | (simp only [inR]; omega) | exact Nat.le_of_ble_eq_true rfl | (refine ⟨by omega, Nat.le_of_ble_eq_true rfl⟩) | (simp; done) | (simp; omega)) ?_
          | refine e_pick rfl (by first | exact True.intro | (intro h; first | (rw [h]; rfl) | simpa using h)) (by first | exact True.intro | (intro h; first | (rw [h]; rfl) | simpa using h)) (by first | exact pickV_or _ _ | exact pickV_and _ _ | rfl) ?_
          | refine e_grd hTT false [] 1 rfl rfl rfl rfl rfl (by conv => { lhs; whnf; try dsimp only [List.take, List.drop, List.set, setCells, splice, List.append_eq, List.nil_append, List.cons_append, List.append_nil, List.length_cons, List.length_nil, Nat.zero_add, Nat.add_zero] }) (by conv => { lhs; dsimp only [keysP, List.map] }) (by intro hg; first | exact True.intro | exact Nat.le_of_ble_eq_true rfl | (simp at hg; first | omega | (simp only [inR]; omega) | (simp; omega))) ?_
          | refine e_grd hTT false [] 0 rfl rfl rfl rfl rfl (by conv => { lhs; whnf; try dsimp only [List.take, List.drop, List.set, setCells, splice, List.append_eq, List.nil_append, List.cons_append, List.append_nil, List.length_cons, List.length_nil, Nat.zero_add, Nat.add_zero] }) (by conv => { lhs; dsimp only [keysP, List.map] }) (by intro hg; first | exact True.intro | exact Nat.le_of_ble_eq_true rfl | (simp at hg; first | omega | (simp only [inR]; omega) | (simp; omega))) ?_
          | refine e_grd hTT false [] 2 rfl rfl rfl rfl rfl (by conv => { lhs; whnf; try dsimp only [List.take, List.drop, List.set, setCells, splice, List.append_eq, List.nil_append, List.cons_append, List.append_nil, List.length_cons, List.length_nil, Nat.zero_add, Nat.add_zero] }) (by conv => { lhs; dsimp only [keysP, List.map] }) (by intro hg; first | exact True.intro | exact Nat.le_of_ble_eq_true rfl | (simp at hg; first | omega | (simp only [inR]; omega) | (simp; omega))) ?_
          | refine e_store hTT false [] rfl rfl rfl rfl rfl (by conv => { lhs; whnf }) (by conv => { lhs; try dsimp only [List.take, List.drop, List.set, setCells, splice, List.append_eq, List.nil_append, List.cons_append, List.append_nil, List.length_cons, List.length_nil, Nat.zero_add, Nat.add_zero] }) (by conv => { lhs; dsimp only [keysP, List.map] }) (by first | exact True.intro | omega | (simp only [inR]; omega) | exact Nat.le_of_ble_eq_true rfl | (refine ⟨by omega, Nat.le_of_ble_eq_true rfl⟩) | (simp; done) | (simp; omega)) ?_
          | refine e_new hTT false [] rfl rfl rfl rfl rfl (by conv => { lhs; whnf; try dsimp only [List.take, List.drop, List.set, setCells, splice, List.append_eq, List.nil_append, List.cons_append, List.append_nil, List.length_cons, List.length_nil, Nat.zero_add, Nat.add_zero] }) (by conv => { lhs; whnf }) (by conv => { lhs; try dsimp only [List.take, List.drop, List.set, setCells, splice, List.append_eq, List.nil_append, List.cons_append, List.append_nil, List.length_cons, List.length_nil, Nat.zero_add, Nat.add_zero] }) (by conv => { lhs; dsimp only [keysP, List.map] }) (by first | exact True.intro | omega | (simp only [inR]; omega) | exact Nat.le_of_ble_eq_true rfl | (refine ⟨by omega, Nat.le_of_ble_eq_true rfl⟩) | (simp; done) | (simp; omega)) ?_
          | refine e_two hTT false [] rfl rfl rfl rfl rfl (by conv => { lhs; whnf; try dsimp only [List.take, List.drop, List.set, setCells, splice, List.append_eq, List.nil_append, List.cons_append, List.append_nil, List.length_cons, List.length_nil, Nat.zero_add, Nat.add_zero] }) (by conv => { lhs; whnf }) (by conv => { lhs; try dsimp only [List.take, List.drop, List.set, setCells, splice, List.append_eq, List.nil_append, List.cons_append, List.append_nil, List.length_cons, List.length_nil, Nat.zero_add, Nat.add_zero] }) (by conv => { lhs; whnf }) (by conv => { lhs; try dsimp only [List.take, List.drop, List.set, setCells, splice, List.append_eq, List.nil_append, List.cons_append, List.append_nil, List.length_cons, List.length_nil, Nat.zero_add, Nat.add_zero] }) (by conv => { lhs; dsimp only [keysP, List.map] }) (by first | exact True.intro | omega | (simp only [inR]; omega) | exact Nat.le_of_ble_eq_true rfl | (refine ⟨by omega, Nat.le_of_ble_eq_true rfl⟩) | (simp; done) | (simp; omega)) ?_
          | refine e_pickG rfl rfl (by first | exact pickV_or _ _ | exact pickV_and _ _ | rfl) (by first | exact True.intro | exact fun h => h) (by intro h; first | exact True.intro | (intro h2; first | (rw [h2]; rfl) | simp_all)) (by intro h; first | exact True.intro | (intro h2; first | (rw [h2]; rfl) | simp_all)) ?_))
      refine e_call (zero_ac _ l (Miss_none [0] l (by decide) hl hc0 (miss_zero l))) rfl rfl rfl rfl rfl ?_
      repeat (first
        | (refine aw_seq_k fun K hK => ?_)
        | (refine xt_n ?_)
        | (refine xt_r ?_)
        | (refine xt_x ?_)
        | (refine xb_n ?_)
        | (refine xb_r ?_)
        | (refine xb_same ?_)
        | (refine xb_ne rfl ?_)
        | (refine aw_block ?_)
        | (refine aw_ret ?_)
        | (refine aw_exit ?_)
        | (refine aw_skip ?_)
        | (refine aw_label ?_)
        | (refine hK _ ?_; clear hK; clear K)
        | (clear hK; clear K; refine hK _ ?_; clear hK; clear K)
        | (clear hK; clear K; clear hK; clear K; refine hK _ ?_; clear hK; clear K)
        | (clear hK; clear K; clear hK; clear K; clear hK; clear K; refine hK _ ?_; clear hK; clear K)
        | (clear hK; clear K; clear hK; clear K; clear hK; clear K; clear hK; clear K; refine hK _ ?_; clear hK; clear K)
        | (first | refine w_region (by kernel_rfl) (by conv => { lhs; whnf }) ?_ | refine w_regionD (by kernel_rfl) (by conv => { lhs; whnf }) ?_)
        | refine aops_nil ⟨by kernel_rfl, ?_⟩
        | refine aops_nil ?_
        | (first
          | refine e_val hTT false [] rfl rfl rfl rfl rfl (by conv => { lhs; whnf; try dsimp only [List.take, List.drop, List.set, setCells, splice, List.append_eq, List.nil_append, List.cons_append, List.append_nil, List.length_cons, List.length_nil, Nat.zero_add, Nat.add_zero] }) (by conv => { lhs; dsimp only [keysP, List.map] }) (by first | exact True.intro | omega | (simp only [inR]; omega) | exact Nat.le_of_ble_eq_true rfl | (refine ⟨by omega, Nat.le_of_ble_eq_true rfl⟩) | (simp; done) | (simp; omega)) ?_
          | refine e_pick rfl (by first | exact True.intro | (intro h; first | (rw [h]; rfl) | simpa using h)) (by first | exact True.intro | (intro h; first | (rw [h]; rfl) | simpa using h)) (by first | exact pickV_or _ _ | exact pickV_and _ _ | rfl) ?_
          | refine e_grd hTT false [] 1 rfl rfl rfl rfl rfl (by conv => { lhs; whnf; try dsimp only [List.take, List.drop, List.set, setCells, splice, List.append_eq, List.nil_append, List.cons_append, List.append_nil, List.length_cons, List.length_nil, Nat.zero_add, Nat.add_zero] }) (by conv => { lhs; dsimp only [keysP, List.map] }) (by intro hg; first | exact True.intro | exact Nat.le_of_ble_eq_true rfl | (simp at hg; first | omega | (simp only [inR]; omega) | (simp; omega))) ?_
          | refine e_grd hTT false [] 0 rfl rfl rfl rfl rfl (by conv => { lhs; whnf; try dsimp only [List.take, List.drop, List.set, setCells, splice, List.append_eq, List.nil_append, List.cons_append, List.append_nil, List.length_cons, List.length_nil, Nat.zero_add, Nat.add_zero] }) (by conv => { lhs; dsimp only [keysP, List.map] }) (by intro hg; first | exact True.intro | exact Nat.le_of_ble_eq_true rfl | (simp at hg; first | omega | (simp only [inR]; omega) | (simp; omega))) ?_
          | refine e_grd hTT false [] 2 rfl rfl rfl rfl rfl (by conv => { lhs; whnf; try dsimp only [List.take, List.drop, List.set, setCells, splice, List.append_eq, List.nil_append, List.cons_append, List.append_nil, List.length_cons, List.length_nil, Nat.zero_add, Nat.add_zero] }) (by conv => { lhs; dsimp only [keysP, List.map] }) (by intro hg; first | exact True.intro | exact Nat.le_of_ble_eq_true rfl | (simp at hg; first | omega | (simp only [inR]; omega) | (simp; omega))) ?_
          | refine e_store hTT false [] rfl rfl rfl rfl rfl (by conv => { lhs; whnf }) (by conv => { lhs; try dsimp only [List.take, List.drop, List.set, setCells, splice, List.append_eq, List.nil_append, List.cons_append, List.append_nil, List.length_cons, List.length_nil, Nat.zero_add, Nat.add_zero] }) (by conv => { lhs; dsimp only [keysP, List.map] }) (by first | exact True.intro | omega | (simp only [inR]; omega) | exact Nat.le_of_ble_eq_true rfl | (refine ⟨by omega, Nat.le_of_ble_eq_true rfl⟩) | (simp; done) | (simp; omega)) ?_
          | refine e_new hTT false [] rfl rfl rfl rfl rfl (by conv => { lhs; whnf; try dsimp only [List.take, List.drop, List.set, setCells, splice, List.append_eq, List.nil_append, List.cons_append, List.append_nil, List.length_cons, List.length_nil, Nat.zero_add, Nat.add_zero] }) (by conv => { lhs; whnf }) (by conv => { lhs; try dsimp only [List.take, List.drop, List.set, setCells, splice, List.append_eq, List.nil_append, List.cons_append, List.append_nil, List.length_cons, List.length_nil, Nat.zero_add, Nat.add_zero] }) (by conv => { lhs; dsimp only [keysP, List.map] }) (by first | exact True.intro | omega | (simp only [inR]; omega) | exact Nat.le_of_ble_eq_true rfl | (refine ⟨by omega, Nat.le_of_ble_eq_true rfl⟩) | (simp; done) | (simp; omega)) ?_
          | refine e_two hTT false [] rfl rfl rfl rfl rfl (by conv => { lhs; whnf; try dsimp only [List.take, List.drop, List.set, setCells, splice, List.append_eq, List.nil_append, List.cons_append, List.append_nil, List.length_cons, List.length_nil, Nat.zero_add, Nat.add_zero] }) (by conv => { lhs; whnf }) (by conv => { lhs; try dsimp only [List.take, List.drop, List.set, setCells, splice, List.append_eq, List.nil_append, List.cons_append, List.append_nil, List.length_cons, List.length_nil, Nat.zero_add, Nat.add_zero] }) (by conv => { lhs; whnf }) (by conv => { lhs; try dsimp only [List.take, List.drop, List.set, setCells, splice, List.append_eq, List.nil_append, List.cons_append, List.append_nil, List.length_cons, List.length_nil, Nat.zero_add, Nat.add_zero] }) (by conv => { lhs; dsimp only [keysP, List.map] }) (by first | exact True.intro | omega | (simp only [inR]; omega) | exact Nat.le_of_ble_eq_true rfl | (refine ⟨by omega, Nat.le_of_ble_eq_true rfl⟩) | (simp; done) | (simp; omega)) ?_
          | refine e_pickG rfl rfl (by first | exact pickV_or _ _ | exact pickV_and _ _ | rfl) (by first | exact True.intro | exact fun h => h) (by intro h; first | exact True.intro | (intro h2; first | (rw [h2]; rfl) | simp_all)) (by intro h; first | exact True.intro | (intro h2; first | (rw [h2]; rfl) | simp_all)) ?_))
      refine e_call (sharper_ac t bs less hm v1 hbb hle) rfl rfl rfl rfl rfl ?_
      repeat (first
        | (refine aw_seq_k fun K hK => ?_)
        | (refine xt_n ?_)
        | (refine xt_r ?_)
        | (refine xt_x ?_)
        | (refine xb_n ?_)
        | (refine xb_r ?_)
        | (refine xb_same ?_)
        | (refine xb_ne rfl ?_)
        | (refine aw_block ?_)
        | (refine aw_ret ?_)
        | (refine aw_exit ?_)
        | (refine aw_skip ?_)
        | (refine aw_label ?_)
        | (refine hK _ ?_; clear hK; clear K)
        | (clear hK; clear K; refine hK _ ?_; clear hK; clear K)
        | (clear hK; clear K; clear hK; clear K; refine hK _ ?_; clear hK; clear K)
        | (clear hK; clear K; clear hK; clear K; clear hK; clear K; refine hK _ ?_; clear hK; clear K)
        | (clear hK; clear K; clear hK; clear K; clear hK; clear K; clear hK; clear K; refine hK _ ?_; clear hK; clear K)
        | (first | refine w_region (by kernel_rfl) (by conv => { lhs; whnf }) ?_ | refine w_regionD (by kernel_rfl) (by conv => { lhs; whnf }) ?_)
        | refine aops_nil ⟨by kernel_rfl, ?_⟩
        | refine aops_nil ?_
        | (first
          | refine e_val hTT false [] rfl rfl rfl rfl rfl (by conv => { lhs; whnf; try dsimp only [List.take, List.drop, List.set, setCells, splice, List.append_eq, List.nil_append, List.cons_append, List.append_nil, List.length_cons, List.length_nil, Nat.zero_add, Nat.add_zero] }) (by conv => { lhs; dsimp only [keysP, List.map] }) (by first | exact True.intro | omega | (simp only [inR]; omega) | exact Nat.le_of_ble_eq_true rfl | (refine ⟨by omega, Nat.le_of_ble_eq_true rfl⟩) | (simp; done) | (simp; omega)) ?_
          | refine e_pick rfl (by first | exact True.intro | (intro h; first | (rw [h]; rfl) | simpa using h)) (by first | exact True.intro | (intro h; first | (rw [h]; rfl) | simpa using h)) (by first | exact pickV_or _ _ | exact pickV_and _ _ | rfl) ?_
          | refine e_grd hTT false [] 1 rfl rfl rfl rfl rfl (by conv => { lhs; whnf; try dsimp only [List.take, List.drop, List.set, setCells, splice, List.append_eq, List.nil_append, List.cons_append, List.append_nil, List.length_cons, List.length_nil, Nat.zero_add, Nat.add_zero] }) (by conv => { lhs; dsimp only [keysP, List.map] }) (by intro hg; first | exact True.intro | exact Nat.le_of_ble_eq_true rfl | (simp at hg; first | omega | (simp only [inR]; omega) | (simp; omega))) ?_
          | refine e_grd hTT false [] 0 rfl rfl rfl rfl rfl (by conv => { lhs; whnf; try dsimp only [List.take, List.drop, List.set, setCells, splice, List.append_eq, List.nil_append, List.cons_append, List.append_nil, List.length_cons, List.length_nil, Nat.zero_add, Nat.add_zero] }) (by conv => { lhs; dsimp only [keysP, List.map] }) (by intro hg; first | exact True.intro | exact Nat.le_of_ble_eq_true rfl | (simp at hg; first | omega | (simp only [inR]; omega) | (simp; omega))) ?_
          | refine e_grd hTT false [] 2 rfl rfl rfl rfl rfl (by conv => { lhs; whnf; try dsimp only [List.take, List.drop, List.set, setCells, splice, List.append_eq, List.nil_append, List.cons_append, List.append_nil, List.length_cons, List.length_nil, Nat.zero_add, Nat.add_zero] }) (by conv => { lhs; dsimp only [keysP, List.map] }) (by intro hg; first | exact True.intro | exact Nat.le_of_ble_eq_true rfl | (simp at hg; first | omega | (simp only [inR]; omega) | (simp; omega))) ?_
          | refine e_store hTT false [] rfl rfl rfl rfl rfl (by conv => { lhs; whnf }) (by conv => { lhs; try dsimp only [List.take, List.drop, List.set, setCells, splice, List.append_eq, List.nil_append, List.cons_append, List.append_nil, List.length_cons, List.length_nil, Nat.zero_add, Nat.add_zero] }) (by conv => { lhs; dsimp only [keysP, List.map] }) (by first | exact True.intro | omega | (simp only [inR]; omega) | exact Nat.le_of_ble_eq_true rfl | (refine ⟨by omega, Nat.le_of_ble_eq_true rfl⟩) | (simp; done) | (simp; omega)) ?_
          | refine e_new hTT false [] rfl rfl rfl rfl rfl (by conv => { lhs; whnf; try dsimp only [List.take, List.drop, List.set, setCells, splice, List.append_eq, List.nil_append, List.cons_append, List.append_nil, List.length_cons, List.length_nil, Nat.zero_add, Nat.add_zero] }) (by conv => { lhs; whnf }) (by conv => { lhs; try dsimp only [List.take, List.drop, List.set, setCells, splice, List.append_eq, List.nil_append, List.cons_append, List.append_nil, List.length_cons, List.length_nil, Nat.zero_add, Nat.add_zero] }) (by conv => { lhs; dsimp only [keysP, List.map] }) (by first | exact True.intro | omega | (simp only [inR]; omega) | exact Nat.le_of_ble_eq_true rfl | (refine ⟨by omega, Nat.le_of_ble_eq_true rfl⟩) | (simp; done) | (simp; omega)) ?_
          | refine e_two hTT false [] rfl rfl rfl rfl rfl (by conv => { lhs; whnf; try dsimp only [List.take, List.drop, List.set, setCells, splice, List.append_eq, List.nil_append, List.cons_append, List.append_nil, List.length_cons, List.length_nil, Nat.zero_add, Nat.add_zero] }) (by conv => { lhs; whnf }) (by conv => { lhs; try dsimp only [List.take, List.drop, List.set, setCells, splice, List.append_eq, List.nil_append, List.cons_append, List.append_nil, List.length_cons, List.length_nil, Nat.zero_add, Nat.add_zero] }) (by conv => { lhs; whnf }) (by conv => { lhs; try dsimp only [List.take, List.drop, List.set, setCells, splice, List.append_eq, List.nil_append, List.cons_append, List.append_nil, List.length_cons, List.length_nil, Nat.zero_add, Nat.add_zero] }) (by conv => { lhs; dsimp only [keysP, List.map] }) (by first | exact True.intro | omega | (simp only [inR]; omega) | exact Nat.le_of_ble_eq_true rfl | (refine ⟨by omega, Nat.le_of_ble_eq_true rfl⟩) | (simp; done) | (simp; omega)) ?_
          | refine e_pickG rfl rfl (by first | exact pickV_or _ _ | exact pickV_and _ _ | rfl) (by first | exact True.intro | exact fun h => h) (by intro h; first | exact True.intro | (intro h2; first | (rw [h2]; rfl) | simp_all)) (by intro h; first | exact True.intro | (intro h2; first | (rw [h2]; rfl) | simp_all)) ?_))
      refine e_call (Miss_none (sharpL t bs less) l hsl hl hcs (miss_sharper s2 hp)) rfl rfl rfl rfl rfl ?_
      repeat (first
        | (refine aw_seq_k fun K hK => ?_)
        | (refine xt_n ?_)
        | (refine xt_r ?_)
        | (refine xt_x ?_)
        | (refine xb_n ?_)
        | (refine xb_r ?_)
        | (refine xb_same ?_)
        | (refine xb_ne rfl ?_)
        | (refine aw_block ?_)
        | (refine aw_ret ?_)
        | (refine aw_exit ?_)
        | (refine aw_skip ?_)
        | (refine aw_label ?_)
        | (refine hK _ ?_; clear hK; clear K)
        | (clear hK; clear K; refine hK _ ?_; clear hK; clear K)
        | (clear hK; clear K; clear hK; clear K; refine hK _ ?_; clear hK; clear K)
        | (clear hK; clear K; clear hK; clear K; clear hK; clear K; refine hK _ ?_; clear hK; clear K)
        | (clear hK; clear K; clear hK; clear K; clear hK; clear K; clear hK; clear K; refine hK _ ?_; clear hK; clear K)
        | (first | refine w_region (by kernel_rfl) (by conv => { lhs; whnf }) ?_ | refine w_regionD (by kernel_rfl) (by conv => { lhs; whnf }) ?_)
        | refine aops_nil ⟨by kernel_rfl, ?_⟩
        | refine aops_nil ?_
        | (first
          | refine e_val hTT false [] rfl rfl rfl rfl rfl (by conv => { lhs; whnf; try dsimp only [List.take, List.drop, List.set, setCells, splice, List.append_eq, List.nil_append, List.cons_append, List.append_nil, List.length_cons, List.length_nil, Nat.zero_add, Nat.add_zero] }) (by conv => { lhs; dsimp only [keysP, List.map] }) (by first | exact True.intro | omega | (simp only [inR]; omega) | exact Nat.le_of_ble_eq_true rfl | (refine ⟨by omega, Nat.le_of_ble_eq_true rfl⟩) | (simp; done) | (simp; omega)) ?_
          | refine e_pick rfl (by first | exact True.intro | (intro h; first | (rw [h]; rfl) | simpa using h)) (by first | exact True.intro | (intro h; first | (rw [h]; rfl) | simpa using h)) (by first | exact pickV_or _ _ | exact pickV_and _ _ | rfl) ?_
          | refine e_grd hTT false [] 1 rfl rfl rfl rfl rfl (by conv => { lhs; whnf; try dsimp only [List.take, List.drop, List.set, setCells, splice, List.append_eq, List.nil_append, List.cons_append, List.append_nil, List.length_cons, List.length_nil, Nat.zero_add, Nat.add_zero] }) (by conv => { lhs; dsimp only [keysP, List.map] }) (by intro hg; first | exact True.intro | exact Nat.le_of_ble_eq_true rfl | (simp at hg; first | omega | (simp only [inR]; omega) | (simp; omega))) ?_
          | refine e_grd hTT false [] 0 rfl rfl rfl rfl rfl (by conv => { lhs; whnf; try dsimp only [List.take, List.drop, List.set, setCells, splice, List.append_eq, List.nil_append, List.cons_append, List.append_nil, List.length_cons, List.length_nil, Nat.zero_add, Nat.add_zero] }) (by conv => { lhs; dsimp only [keysP, List.map] }) (by intro hg; first | exact True.intro | exact Nat.le_of_ble_eq_true rfl | (simp at hg; first | omega | (simp only [inR]; omega) | (simp; omega))) ?_
          | refine e_grd hTT false [] 2 rfl rfl rfl rfl rfl (by conv => { lhs; whnf; try dsimp only [List.take, List.drop, List.set, setCells, splice, List.append_eq, List.nil_append, List.cons_append, List.append_nil, List.length_cons, List.length_nil, Nat.zero_add, Nat.add_zero] }) (by conv => { lhs; dsimp only [keysP, List.map] }) (by intro hg; first | exact True.intro | exact Nat.le_of_ble_eq_true rfl | (simp at hg; first | omega | (simp only [inR]; omega) | (simp; omega))) ?_
          | refine e_store hTT false [] rfl rfl rfl rfl rfl (by conv => { lhs; whnf }) (by conv => { lhs; try dsimp only [List.take, List.drop, List.set, setCells, splice, List.append_eq, List.nil_append, List.cons_append, List.append_nil, List.length_cons, List.length_nil, Nat.zero_add, Nat.add_zero] }) (by conv => { lhs; dsimp only [keysP, List.map] }) (by first | exact True.intro | omega | (simp only [inR]; omega) | exact Nat.le_of_ble_eq_true rfl | (refine ⟨by omega, Nat.le_of_ble_eq_true rfl⟩) | (simp; done) | (simp; omega)) ?_
          | refine e_new hTT false [] rfl rfl rfl rfl rfl (by conv => { lhs; whnf; try dsimp only [List.take, List.drop, List.set, setCells, splice, List.append_eq, List.nil_append, List.cons_append, List.append_nil, List.length_cons, List.length_nil, Nat.zero_add, Nat.add_zero] }) (by conv => { lhs; whnf }) (by conv => { lhs; try dsimp only [List.take, List.drop, List.set, setCells, splice, List.append_eq, List.nil_append, List.cons_append, List.append_nil, List.length_cons, List.length_nil, Nat.zero_add, Nat.add_zero] }) (by conv => { lhs; dsimp only [keysP, List.map] }) (by first | exact True.intro | omega | (simp only [inR]; omega) | exact Nat.le_of_ble_eq_true rfl | (refine ⟨by omega, Nat.le_of_ble_eq_true rfl⟩) | (simp; done) | (simp; omega)) ?_
          | refine e_two hTT false [] rfl rfl rfl rfl rfl (by conv => { lhs; whnf; try dsimp only [List.take, List.drop, List.set, setCells, splice, List.append_eq, List.nil_append, List.cons_append, List.append_nil, List.length_cons, List.length_nil, Nat.zero_add, Nat.add_zero] }) (by conv => { lhs; whnf }) (by conv => { lhs; try dsimp only [List.take, List.drop, List.set, setCells, splice, List.append_eq, List.nil_append, List.cons_append, List.append_nil, List.length_cons, List.length_nil, Nat.zero_add, Nat.add_zero] }) (by conv => { lhs; whnf }) (by conv => { lhs; try dsimp only [List.take, List.drop, List.set, setCells, splice, List.append_eq, List.nil_append, List.cons_append, List.append_nil, List.length_cons, List.length_nil, Nat.zero_add, Nat.add_zero] }) (by conv => { lhs; dsimp only [keysP, List.map] }) (by first | exact True.intro | omega | (simp only [inR]; omega) | exact Nat.le_of_ble_eq_true rfl | (refine ⟨by omega, Nat.le_of_ble_eq_true rfl⟩) | (simp; done) | (simp; omega)) ?_
          | refine e_pickG rfl rfl (by first | exact pickV_or _ _ | exact pickV_and _ _ | rfl) (by first | exact True.intro | exact fun h => h) (by intro h; first | exact True.intro | (intro h2; first | (rw [h2]; rfl) | simp_all)) (by intro h; first | exact True.intro | (intro h2; first | (rw [h2]; rfl) | simp_all)) ?_))
      refine w_cond rfl (fun h2 => ?_) (fun h2 => ?_)
      · simp [lr, ls] at h2
      repeat (first
        | (refine aw_seq_k fun K hK => ?_)
        | (refine xt_n ?_)
        | (refine xt_r ?_)
        | (refine xt_x ?_)
        | (refine xb_n ?_)
        | (refine xb_r ?_)
        | (refine xb_same ?_)
        | (refine xb_ne rfl ?_)
        | (refine aw_block ?_)
        | (refine aw_ret ?_)
        | (refine aw_exit ?_)
        | (refine aw_skip ?_)
        | (refine aw_label ?_)
        | (refine hK _ ?_; clear hK; clear K)
        | (clear hK; clear K; refine hK _ ?_; clear hK; clear K)
        | (clear hK; clear K; clear hK; clear K; refine hK _ ?_; clear hK; clear K)
        | (clear hK; clear K; clear hK; clear K; clear hK; clear K; refine hK _ ?_; clear hK; clear K)
        | (clear hK; clear K; clear hK; clear K; clear hK; clear K; clear hK; clear K; refine hK _ ?_; clear hK; clear K)
        | (first | refine w_region (by kernel_rfl) (by conv => { lhs; whnf }) ?_ | refine w_regionD (by kernel_rfl) (by conv => { lhs; whnf }) ?_)
        | refine aops_nil ⟨by kernel_rfl, ?_⟩
        | refine aops_nil ?_
        | (first
          | refine e_val hTT false [] rfl rfl rfl rfl rfl (by conv => { lhs; whnf; try dsimp only [List.take, List.drop, List.set, setCells, splice, List.append_eq, List.nil_append, List.cons_append, List.append_nil, List.length_cons, List.length_nil, Nat.zero_add, Nat.add_zero] }) (by conv => { lhs; dsimp only [keysP, List.map] }) (by first | exact True.intro | omega | (simp only [inR]; omega) | exact Nat.le_of_ble_eq_true rfl | (refine ⟨by omega, Nat.le_of_ble_eq_true rfl⟩) | (simp; done) | (simp; omega)) ?_
          | refine e_pick rfl (by first | exact True.intro | (intro h; first | (rw [h]; rfl) | simpa using h)) (by first | exact True.intro | (intro h; first | (rw [h]; rfl) | simpa using h)) (by first | exact pickV_or _ _ | exact pickV_and _ _ | rfl) ?_
          | refine e_grd hTT false [] 1 rfl rfl rfl rfl rfl (by conv => { lhs; whnf; try dsimp only [List.take, List.drop, List.set, setCells, splice, List.append_eq, List.nil_append, List.cons_append, List.append_nil, List.length_cons, List.length_nil, Nat.zero_add, Nat.add_zero] }) (by conv => { lhs; dsimp only [keysP, List.map] }) (by intro hg; first | exact True.intro | exact Nat.le_of_ble_eq_true rfl | (simp at hg; first | omega | (simp only [inR]; omega) | (simp; omega))) ?_
          | refine e_grd hTT false [] 0 rfl rfl rfl rfl rfl (by conv => { lhs; whnf; try dsimp only [List.take, List.drop, List.set, setCells, splice, List.append_eq, List.nil_append, List.cons_append, List.append_nil, List.length_cons, List.length_nil, Nat.zero_add, Nat.add_zero] }) (by conv => { lhs; dsimp only [keysP, List.map] }) (by intro hg; first | exact True.intro | exact Nat.le_of_ble_eq_true rfl | (simp at hg; first | omega | (simp only [inR]; omega) | (simp; omega))) ?_
          | refine e_grd hTT false [] 2 rfl rfl rfl rfl rfl (by conv => { lhs; whnf; try dsimp only [List.take, List.drop, List.set, setCells, splice, List.append_eq, List.nil_append, List.cons_append, List.append_nil, List.length_cons, List.length_nil, Nat.zero_add, Nat.add_zero] }) (by conv => { lhs; dsimp only [keysP, List.map] }) (by intro hg; first | exact True.intro | exact Nat.le_of_ble_eq_true rfl | (simp at hg; first | omega | (simp only [inR]; omega) | (simp; omega))) ?_
          | refine e_store hTT false [] rfl rfl rfl rfl rfl (by conv => { lhs; whnf }) (by conv => { lhs; try dsimp only [List.take, List.drop, List.set, setCells, splice, List.append_eq, List.nil_append, List.cons_append, List.append_nil, List.length_cons, List.length_nil, Nat.zero_add, Nat.add_zero] }) (by conv => { lhs; dsimp only [keysP, List.map] }) (by first | exact True.intro | omega | (simp only [inR]; omega) | exact Nat.le_of_ble_eq_true rfl | (refine ⟨by omega, Nat.le_of_ble_eq_true rfl⟩) | (simp; done) | (simp; omega)) ?_
          | refine e_new hTT false [] rfl rfl rfl rfl rfl (by conv => { lhs; whnf; try dsimp only [List.take, List.drop, List.set, setCells, splice, List.append_eq, List.nil_append, List.cons_append, List.append_nil, List.length_cons, List.length_nil, Nat.zero_add, Nat.add_zero] }) (by conv => { lhs; whnf }) (by conv => { lhs; try dsimp only [List.take, List.drop, List.set, setCells, splice, List.append_eq, List.nil_append, List.cons_append, List.append_nil, List.length_cons, List.length_nil, Nat.zero_add, Nat.add_zero] }) (by conv => { lhs; dsimp only [keysP, List.map] }) (by first | exact True.intro | omega | (simp only [inR]; omega) | exact Nat.le_of_ble_eq_true rfl | (refine ⟨by omega, Nat.le_of_ble_eq_true rfl⟩) | (simp; done) | (simp; omega)) ?_
          | refine e_two hTT false [] rfl rfl rfl rfl rfl (by conv => { lhs; whnf; try dsimp only [List.take, List.drop, List.set, setCells, splice, List.append_eq, List.nil_append, List.cons_append, List.append_nil, List.length_cons, List.length_nil, Nat.zero_add, Nat.add_zero] }) (by conv => { lhs; whnf }) (by conv => { lhs; try dsimp only [List.take, List.drop, List.set, setCells, splice, List.append_eq, List.nil_append, List.cons_append, List.append_nil, List.length_cons, List.length_nil, Nat.zero_add, Nat.add_zero] }) (by conv => { lhs; whnf }) (by conv => { lhs; try dsimp only [List.take, List.drop, List.set, setCells, splice, List.append_eq, List.nil_append, List.cons_append, List.append_nil, List.length_cons, List.length_nil, Nat.zero_add, Nat.add_zero] }) (by conv => { lhs; dsimp only [keysP, List.map] }) (by first | exact True.intro | omega | (simp only [inR]; omega) | exact Nat.le_of_ble_eq_true rfl | (refine ⟨by omega, Nat.le_of_ble_eq_true rfl⟩) | (simp; done) | (simp; omega)) ?_
          | refine e_pickG rfl rfl (by first | exact pickV_or _ _ | exact pickV_and _ _ | rfl) (by first | exact True.intro | exact fun h => h) (by intro h; first | exact True.intro | (intro h2; first | (rw [h2]; rfl) | simp_all)) (by intro h; first | exact True.intro | (intro h2; first | (rw [h2]; rfl) | simp_all)) ?_))
      refine w_cond rfl (fun h3 => ?_) (fun h3 => ?_)
      ·
        repeat (first
          | (refine aw_seq_k fun K hK => ?_)
          | (refine xt_n ?_)
          | (refine xt_r ?_)
          | (refine xt_x ?_)
          | (refine xb_n ?_)
          | (refine xb_r ?_)
          | (refine xb_same ?_)
          | (refine xb_ne rfl ?_)
          | (refine aw_block ?_)
          | (refine aw_ret ?_)
          | (refine aw_exit ?_)
          | (refine aw_skip ?_)
          | (refine aw_label ?_)
          | (refine hK _ ?_; clear hK; clear K)
          | (clear hK; clear K; refine hK _ ?_; clear hK; clear K)
          | (clear hK; clear K; clear hK; clear K; refine hK _ ?_; clear hK; clear K)
          | (clear hK; clear K; clear hK; clear K; clear hK; clear K; refine hK _ ?_; clear hK; clear K)
          | (clear hK; clear K; clear hK; clear K; clear hK; clear K; clear hK; clear K; refine hK _ ?_; clear hK; clear K)
          | (first | refine w_region (by kernel_rfl) (by conv => { lhs; whnf }) ?_ | refine w_regionD (by kernel_rfl) (by conv => { lhs; whnf }) ?_)
          | refine aops_nil ⟨by kernel_rfl, ?_⟩
          | refine aops_nil ?_
          | (first
            | refine e_val hTT false [] rfl rfl rfl rfl rfl (by conv => { lhs; whnf; try dsimp only [List.take, List.drop, List.set, setCells, splice, List.append_eq, List.nil_append, List.cons_append, List.append_nil, List.length_cons, List.length_nil, Nat.zero_add, Nat.add_zero] }) (by conv => { lhs; dsimp only [keysP, List.map] }) (by first | exact True.intro | omega | (simp only [inR]; omega) | exact Nat.le_of_ble_eq_true rfl | (refine ⟨by omega, Nat.le_of_ble_eq_true rfl⟩) | (simp; done) | (simp; omega)) ?_
            | refine e_pick rfl (by first | exact True.intro | (intro h; first | (rw [h]; rfl) | simpa using h)) (by first | exact True.intro | (intro h; first | (rw [h]; rfl) | simpa using h)) (by first | exact pickV_or _ _ | exact pickV_and _ _ | rfl) ?_
            | refine e_grd hTT false [] 1 rfl rfl rfl rfl rfl (by conv => { lhs; whnf; try dsimp only [List.take, List.drop, List.set, setCells, splice, List.append_eq, List.nil_append, List.cons_append, List.append_nil, List.length_cons, List.length_nil, Nat.zero_add, Nat.add_zero] }) (by conv => { lhs; dsimp only [keysP, List.map] }) (by intro hg; first | exact True.intro | exact Nat.le_of_ble_eq_true rfl | (simp at hg; first | omega | (simp only [inR]; omega) | (simp; omega))) ?_
            | refine e_grd hTT false [] 0 rfl rfl rfl rfl rfl (by conv => { lhs; whnf; try dsimp only [List.take, List.drop, List.set, setCells, splice, List.append_eq, List.nil_append, List.cons_append, List.append_nil, List.length_cons, List.length_nil, Nat.zero_add, Nat.add_zero] }) (by conv => { lhs; dsimp only [keysP, List.map] }) (by intro hg; first | exact True.intro | exact Nat.le_of_ble_eq_true rfl | (simp at hg; first | omega | (simp only [inR]; omega) | (simp; omega))) ?_
            | refine e_grd hTT false [] 2 rfl rfl rfl rfl rfl (by conv => { lhs; whnf; try dsimp only [List.take, List.drop, List.set, setCells, splice, List.append_eq, List.nil_append, List.cons_append, List.append_nil, List.length_cons, List.length_nil, Nat.zero_add, Nat.add_zero] }) (by conv => { lhs; dsimp only [keysP, List.map] }) (by intro hg; first | exact True.intro | exact Nat.le_of_ble_eq_true rfl | (simp at hg; first | omega | (simp only [inR]; omega) | (simp; omega))) ?_
            | refine e_store hTT false [] rfl rfl rfl rfl rfl (by conv => { lhs; whnf }) (by conv => { lhs; try dsimp only [List.take, List.drop, List.set, setCells, splice, List.append_eq, List.nil_append, List.cons_append, List.append_nil, List.length_cons, List.length_nil, Nat.zero_add, Nat.add_zero] }) (by conv => { lhs; dsimp only [keysP, List.map] }) (by first | exact True.intro | omega | (simp only [inR]; omega) | exact Nat.le_of_ble_eq_true rfl | (refine ⟨by omega, Nat.le_of_ble_eq_true rfl⟩) | (simp; done) | (simp; omega)) ?_
            | refine e_new hTT false [] rfl rfl rfl rfl rfl (by conv => { lhs; whnf; try dsimp only [List.take, List.drop, List.set, setCells, splice, List.append_eq, List.nil_append, List.cons_append, List.append_nil, List.length_cons, List.length_nil, Nat.zero_add, Nat.add_zero] }) (by conv => { lhs; whnf }) (by conv => { lhs; try dsimp only [List.take, List.drop, List.set, setCells, splice, List.append_eq, List.nil_append, List.cons_append, List.append_nil, List.length_cons, List.length_nil, Nat.zero_add, Nat.add_zero] }) (by conv => { lhs; dsimp only [keysP, List.map] }) (by first | exact True.intro | omega | (simp only [inR]; omega) | exact Nat.le_of_ble_eq_true rfl | (refine ⟨by omega, Nat.le_of_ble_eq_true rfl⟩) | (simp; done) | (simp; omega)) ?_
            | refine e_two hTT false [] rfl rfl rfl rfl rfl (by conv => { lhs; whnf; try dsimp only [List.take, List.drop, List.set, setCells, splice, List.append_eq, List.nil_append, List.cons_append, List.append_nil, List.length_cons, List.length_nil, Nat.zero_add, Nat.add_zero] }) (by conv => { lhs; whnf }) (by conv => { lhs; try dsimp only [List.take, List.drop, List.set, setCells, splice, List.append_eq, List.nil_append, List.cons_append, List.append_nil, List.length_cons, List.length_nil, Nat.zero_add, Nat.add_zero] }) (by conv => { lhs; whnf }) (by conv => { lhs; try dsimp only [List.take, List.drop, List.set, setCells, splice, List.append_eq, List.nil_append, List.cons_append, List.append_nil, List.length_cons, List.length_nil, Nat.zero_add, Nat.add_zero] }) (by conv => { lhs; dsimp only [keysP, List.map] }) (by first | exact True.intro | omega | (simp only [inR]; omega) | exact Nat.le_of_ble_eq_true rfl | (refine ⟨by omega, Nat.le_of_ble_eq_true rfl⟩) | (simp; done) | (simp; omega)) ?_
            | refine e_pickG rfl rfl (by first | exact pickV_or _ _ | exact pickV_and _ _ | rfl) (by first | exact True.intro | exact fun h => h) (by intro h; first | exact True.intro | (intro h2; first | (rw [h2]; rfl) | simp_all)) (by intro h; first | exact True.intro | (intro h2; first | (rw [h2]; rfl) | simp_all)) ?_))
        refine e_call (same_ac (readP t l) l (by omega) hl) rfl rfl rfl rfl rfl ?_
        repeat (first
          | (refine aw_seq_k fun K hK => ?_)
          | (refine xt_n ?_)
          | (refine xt_r ?_)
          | (refine xt_x ?_)
          | (refine xb_n ?_)
          | (refine xb_r ?_)
          | (refine xb_same ?_)
          | (refine xb_ne rfl ?_)
          | (refine aw_block ?_)
          | (refine aw_ret ?_)
          | (refine aw_exit ?_)
          | (refine aw_skip ?_)
          | (refine aw_label ?_)
          | (refine hK _ ?_; clear hK; clear K)
          | (clear hK; clear K; refine hK _ ?_; clear hK; clear K)
          | (clear hK; clear K; clear hK; clear K; refine hK _ ?_; clear hK; clear K)
          | (clear hK; clear K; clear hK; clear K; clear hK; clear K; refine hK _ ?_; clear hK; clear K)
          | (clear hK; clear K; clear hK; clear K; clear hK; clear K; clear hK; clear K; refine hK _ ?_; clear hK; clear K)
          | (first | refine w_region (by kernel_rfl) (by conv => { lhs; whnf }) ?_ | refine w_regionD (by kernel_rfl) (by conv => { lhs; whnf }) ?_)
          | refine aops_nil ⟨by kernel_rfl, ?_⟩
          | refine aops_nil ?_
          | (first
            | refine e_val hTT false [] rfl rfl rfl rfl rfl (by conv => { lhs; whnf; try dsimp only [List.take, List.drop, List.set, setCells, splice, List.append_eq, List.nil_append, List.cons_append, List.append_nil, List.length_cons, List.length_nil, Nat.zero_add, Nat.add_zero] }) (by conv => { lhs; dsimp only [keysP, List.map] }) (by first | exact True.intro | omega | (simp only [inR]; omega) | exact Nat.le_of_ble_eq_true rfl | (refine ⟨by omega, Nat.le_of_ble_eq_true rfl⟩) | (simp; done) | (simp; omega)) ?_
            | refine e_pick rfl (by first | exact True.intro | (intro h; first | (rw [h]; rfl) | simpa using h)) (by first | exact True.intro | (intro h; first | (rw [h]; rfl) | simpa using h)) (by first | exact pickV_or _ _ | exact pickV_and _ _ | rfl) ?_
            | refine e_grd hTT false [] 1 rfl rfl rfl rfl rfl (by conv => { lhs; whnf; try dsimp only [List.take, List.drop, List.set, setCells, splice, List.append_eq, List.nil_append, List.cons_append, List.append_nil, List.length_cons, List.length_nil, Nat.zero_add, Nat.add_zero] }) (by conv => { lhs; dsimp only [keysP, List.map] }) (by intro hg; first | exact True.intro | exact Nat.le_of_ble_eq_true rfl | (simp at hg; first | omega | (simp only [inR]; omega) | (simp; omega))) ?_
            | refine e_grd hTT false [] 0 rfl rfl rfl rfl rfl (by conv => { lhs; whnf; try dsimp only [List.take, List.drop, List.set, setCells, splice, List.append_eq, List.nil_append, List.cons_append, List.append_nil, List.length_cons, List.length_nil, Nat.zero_add, Nat.add_zero] }) (by conv => { lhs; dsimp only [keysP, List.map] }) (by intro hg; first | exact True.intro | exact Nat.le_of_ble_eq_true rfl | (simp at hg; first | omega | (simp only [inR]; omega) | (simp; omega))) ?_
            | refine e_grd hTT false [] 2 rfl rfl rfl rfl rfl (by conv => { lhs; whnf; try dsimp only [List.take, List.drop, List.set, setCells, splice, List.append_eq, List.nil_append, List.cons_append, List.append_nil, List.length_cons, List.length_nil, Nat.zero_add, Nat.add_zero] }) (by conv => { lhs; dsimp only [keysP, List.map] }) (by intro hg; first | exact True.intro | exact Nat.le_of_ble_eq_true rfl | (simp at hg; first | omega | (simp only [inR]; omega) | (simp; omega))) ?_
            | refine e_store hTT false [] rfl rfl rfl rfl rfl (by conv => { lhs; whnf }) (by conv => { lhs; try dsimp only [List.take, List.drop, List.set, setCells, splice, List.append_eq, List.nil_append, List.cons_append, List.append_nil, List.length_cons, List.length_nil, Nat.zero_add, Nat.add_zero] }) (by conv => { lhs; dsimp only [keysP, List.map] }) (by first | exact True.intro | omega | (simp only [inR]; omega) | exact Nat.le_of_ble_eq_true rfl | (refine ⟨by omega, Nat.le_of_ble_eq_true rfl⟩) | (simp; done) | (simp; omega)) ?_
            | refine e_new hTT false [] rfl rfl rfl rfl rfl (by conv => { lhs; whnf; try dsimp only [List.take, List.drop, List.set, setCells, splice, List.append_eq, List.nil_append, List.cons_append, List.append_nil, List.length_cons, List.length_nil, Nat.zero_add, Nat.add_zero] }) (by conv => { lhs; whnf }) (by conv => { lhs; try dsimp only [List.take, List.drop, List.set, setCells, splice, List.append_eq, List.nil_append, List.cons_append, List.append_nil, List.length_cons, List.length_nil, Nat.zero_add, Nat.add_zero] }) (by conv => { lhs; dsimp only [keysP, List.map] }) (by first | exact True.intro | omega | (simp only [inR]; omega) | exact Nat.le_of_ble_eq_true rfl | (refine ⟨by omega, Nat.le_of_ble_eq_true rfl⟩) | (simp; done) | (simp; omega)) ?_
            | refine e_two hTT false [] rfl rfl rfl rfl rfl (by conv => { lhs; whnf; try dsimp only [List.take, List.drop, List.set, setCells, splice, List.append_eq, List.nil_append, List.cons_append, List.append_nil, List.length_cons, List.length_nil, Nat.zero_add, Nat.add_zero] }) (by conv => { lhs; whnf }) (by conv => { lhs; try dsimp only [List.take, List.drop, List.set, setCells, splice, List.append_eq, List.nil_append, List.cons_append, List.append_nil, List.length_cons, List.length_nil, Nat.zero_add, Nat.add_zero] }) (by conv => { lhs; whnf }) (by conv => { lhs; try dsimp only [List.take, List.drop, List.set, setCells, splice, List.append_eq, List.nil_append, List.cons_append, List.append_nil, List.length_cons, List.length_nil, Nat.zero_add, Nat.add_zero] }) (by conv => { lhs; dsimp only [keysP, List.map] }) (by first | exact True.intro | omega | (simp only [inR]; omega) | exact Nat.le_of_ble_eq_true rfl | (refine ⟨by omega, Nat.le_of_ble_eq_true rfl⟩) | (simp; done) | (simp; omega)) ?_
            | refine e_pickG rfl rfl (by first | exact pickV_or _ _ | exact pickV_and _ _ | rfl) (by first | exact True.intro | exact fun h => h) (by intro h; first | exact True.intro | (intro h2; first | (rw [h2]; rfl) | simp_all)) (by intro h; first | exact True.intro | (intro h2; first | (rw [h2]; rfl) | simp_all)) ?_))
        refine e_callG 2 rfl (fun _ => same_ac (sweepP t l) l (by omega) hl) rfl rfl rfl rfl rfl rfl ?_
        repeat (first
          | (refine aw_seq_k fun K hK => ?_)
          | (refine xt_n ?_)
          | (refine xt_r ?_)
          | (refine xt_x ?_)
          | (refine xb_n ?_)
          | (refine xb_r ?_)
          | (refine xb_same ?_)
          | (refine xb_ne rfl ?_)
          | (refine aw_block ?_)
          | (refine aw_ret ?_)
          | (refine aw_exit ?_)
          | (refine aw_skip ?_)
          | (refine aw_label ?_)
          | (refine hK _ ?_; clear hK; clear K)
          | (clear hK; clear K; refine hK _ ?_; clear hK; clear K)
          | (clear hK; clear K; clear hK; clear K; refine hK _ ?_; clear hK; clear K)
          | (clear hK; clear K; clear hK; clear K; clear hK; clear K; refine hK _ ?_; clear hK; clear K)
          | (clear hK; clear K; clear hK; clear K; clear hK; clear K; clear hK; clear K; refine hK _ ?_; clear hK; clear K)
          | (first | refine w_region (by kernel_rfl) (by conv => { lhs; whnf }) ?_ | refine w_regionD (by kernel_rfl) (by conv => { lhs; whnf }) ?_)
          | refine aops_nil ⟨by kernel_rfl, ?_⟩
          | refine aops_nil ?_
          | (first
            | refine e_val hTT false [] rfl rfl rfl rfl rfl (by conv => { lhs; whnf; try dsimp only [List.take, List.drop, List.set, setCells, splice, List.append_eq, List.nil_append, List.cons_append, List.append_nil, List.length_cons, List.length_nil, Nat.zero_add, Nat.add_zero] }) (by conv => { lhs; dsimp only [keysP, List.map] }) (by first | exact True.intro | omega | (simp only [inR]; omega) | exact Nat.le_of_ble_eq_true rfl | (refine ⟨by omega, Nat.le_of_ble_eq_true rfl⟩) | (simp; done) | (simp; omega)) ?_
            | refine e_pick rfl (by first | exact True.intro | (intro h; first | (rw [h]; rfl) | simpa using h)) (by first | exact True.intro | (intro h; first | (rw [h]; rfl) | simpa using h)) (by first | exact pickV_or _ _ | exact pickV_and _ _ | rfl) ?_
            | refine e_grd hTT false [] 1 rfl rfl rfl rfl rfl (by conv => { lhs; whnf; try dsimp only [List.take, List.drop, List.set, setCells, splice, List.append_eq, List.nil_append, List.cons_append, List.append_nil, List.length_cons, List.length_nil, Nat.zero_add, Nat.add_zero] }) (by conv => { lhs; dsimp only [keysP, List.map] }) (by intro hg; first | exact True.intro | exact Nat.le_of_ble_eq_true rfl | (simp at hg; first | omega | (simp only [inR]; omega) | (simp; omega))) ?_
            | refine e_grd hTT false [] 0 rfl rfl rfl rfl rfl (by conv => { lhs; whnf; try dsimp only [List.take, List.drop, List.set, setCells, splice, List.append_eq, List.nil_append, List.cons_append, List.append_nil, List.length_cons, List.length_nil, Nat.zero_add, Nat.add_zero] }) (by conv => { lhs; dsimp only [keysP, List.map] }) (by intro hg; first | exact True.intro | exact Nat.le_of_ble_eq_true rfl | (simp at hg; first | omega | (simp only [inR]; omega) | (simp; omega))) ?_
            | refine e_grd hTT false [] 2 rfl rfl rfl rfl rfl (by conv => { lhs; whnf; try dsimp only [List.take, List.drop, List.set, setCells, splice, List.append_eq, List.nil_append, List.cons_append, List.append_nil, List.length_cons, List.length_nil, Nat.zero_add, Nat.add_zero] }) (by conv => { lhs; dsimp only [keysP, List.map] }) (by intro hg; first | exact True.intro | exact Nat.le_of_ble_eq_true rfl | (simp at hg; first | omega | (simp only [inR]; omega) | (simp; omega))) ?_
            | refine e_store hTT false [] rfl rfl rfl rfl rfl (by conv => { lhs; whnf }) (by conv => { lhs; try dsimp only [List.take, List.drop, List.set, setCells, splice, List.append_eq, List.nil_append, List.cons_append, List.append_nil, List.length_cons, List.length_nil, Nat.zero_add, Nat.add_zero] }) (by conv => { lhs; dsimp only [keysP, List.map] }) (by first | exact True.intro | omega | (simp only [inR]; omega) | exact Nat.le_of_ble_eq_true rfl | (refine ⟨by omega, Nat.le_of_ble_eq_true rfl⟩) | (simp; done) | (simp; omega)) ?_
            | refine e_new hTT false [] rfl rfl rfl rfl rfl (by conv => { lhs; whnf; try dsimp only [List.take, List.drop, List.set, setCells, splice, List.append_eq, List.nil_append, List.cons_append, List.append_nil, List.length_cons, List.length_nil, Nat.zero_add, Nat.add_zero] }) (by conv => { lhs; whnf }) (by conv => { lhs; try dsimp only [List.take, List.drop, List.set, setCells, splice, List.append_eq, List.nil_append, List.cons_append, List.append_nil, List.length_cons, List.length_nil, Nat.zero_add, Nat.add_zero] }) (by conv => { lhs; dsimp only [keysP, List.map] }) (by first | exact True.intro | omega | (simp only [inR]; omega) | exact Nat.le_of_ble_eq_true rfl | (refine ⟨by omega, Nat.le_of_ble_eq_true rfl⟩) | (simp; done) | (simp; omega)) ?_
            | refine e_two hTT false [] rfl rfl rfl rfl rfl (by conv => { lhs; whnf; try dsimp only [List.take, List.drop, List.set, setCells, splice, List.append_eq, List.nil_append, List.cons_append, List.append_nil, List.length_cons, List.length_nil, Nat.zero_add, Nat.add_zero] }) (by conv => { lhs; whnf }) (by conv => { lhs; try dsimp only [List.take, List.drop, List.set, setCells, splice, List.append_eq, List.nil_append, List.cons_append, List.append_nil, List.length_cons, List.length_nil, Nat.zero_add, Nat.add_zero] }) (by conv => { lhs; whnf }) (by conv => { lhs; try dsimp only [List.take, List.drop, List.set, setCells, splice, List.append_eq, List.nil_append, List.cons_append, List.append_nil, List.length_cons, List.length_nil, Nat.zero_add, Nat.add_zero] }) (by conv => { lhs; dsimp only [keysP, List.map] }) (by first | exact True.intro | omega | (simp only [inR]; omega) | exact Nat.le_of_ble_eq_true rfl | (refine ⟨by omega, Nat.le_of_ble_eq_true rfl⟩) | (simp; done) | (simp; omega)) ?_
            | refine e_pickG rfl rfl (by first | exact pickV_or _ _ | exact pickV_and _ _ | rfl) (by first | exact True.intro | exact fun h => h) (by intro h; first | exact True.intro | (intro h2; first | (rw [h2]; rfl) | simp_all)) (by intro h; first | exact True.intro | (intro h2; first | (rw [h2]; rfl) | simp_all)) ?_))
        refine e_callG 0 rfl (fun _ => works_ac) rfl rfl rfl rfl rfl rfl ?_
        repeat (first
          | (refine aw_seq_k fun K hK => ?_)
          | (refine xt_n ?_)
          | (refine xt_r ?_)
          | (refine xt_x ?_)
          | (refine xb_n ?_)
          | (refine xb_r ?_)
          | (refine xb_same ?_)
          | (refine xb_ne rfl ?_)
          | (refine aw_block ?_)
          | (refine aw_ret ?_)
          | (refine aw_exit ?_)
          | (refine aw_skip ?_)
          | (refine aw_label ?_)
          | (refine hK _ ?_; clear hK; clear K)
          | (clear hK; clear K; refine hK _ ?_; clear hK; clear K)
          | (clear hK; clear K; clear hK; clear K; refine hK _ ?_; clear hK; clear K)
          | (clear hK; clear K; clear hK; clear K; clear hK; clear K; refine hK _ ?_; clear hK; clear K)
          | (clear hK; clear K; clear hK; clear K; clear hK; clear K; clear hK; clear K; refine hK _ ?_; clear hK; clear K)
          | (first | refine w_region (by kernel_rfl) (by conv => { lhs; whnf }) ?_ | refine w_regionD (by kernel_rfl) (by conv => { lhs; whnf }) ?_)
          | refine aops_nil ⟨by kernel_rfl, ?_⟩
          | refine aops_nil ?_
          | (first
            | refine e_val hTT false [] rfl rfl rfl rfl rfl (by conv => { lhs; whnf; try dsimp only [List.take, List.drop, List.set, setCells, splice, List.append_eq, List.nil_append, List.cons_append, List.append_nil, List.length_cons, List.length_nil, Nat.zero_add, Nat.add_zero] }) (by conv => { lhs; dsimp only [keysP, List.map] }) (by first | exact True.intro | omega | (simp only [inR]; omega) | exact Nat.le_of_ble_eq_true rfl | (refine ⟨by omega, Nat.le_of_ble_eq_true rfl⟩) | (simp; done) | (simp; omega)) ?_
            | refine e_pick rfl (by first | exact True.intro | (intro h; first | (rw [h]; rfl) | simpa using h)) (by first | exact True.intro | (intro h; first | (rw [h]; rfl) | simpa using h)) (by first | exact pickV_or _ _ | exact pickV_and _ _ | rfl) ?_
            | refine e_grd hTT false [] 1 rfl rfl rfl rfl rfl (by conv => { lhs; whnf; try dsimp only [List.take, List.drop, List.set, setCells, splice, List.append_eq, List.nil_append, List.cons_append, List.append_nil, List.length_cons, List.length_nil, Nat.zero_add, Nat.add_zero] }) (by conv => { lhs; dsimp only [keysP, List.map] }) (by intro hg; first | exact True.intro | exact Nat.le_of_ble_eq_true rfl | (simp at hg; first | omega | (simp only [inR]; omega) | (simp; omega))) ?_
            | refine e_grd hTT false [] 0 rfl rfl rfl rfl rfl (by conv => { lhs; whnf; try dsimp only [List.take, List.drop, List.set, setCells, splice, List.append_eq, List.nil_append, List.cons_append, List.append_nil, List.length_cons, List.length_nil, Nat.zero_add, Nat.add_zero] }) (by conv => { lhs; dsimp only [keysP, List.map] }) (by intro hg; first | exact True.intro | exact Nat.le_of_ble_eq_true rfl | (simp at hg; first | omega | (simp only [inR]; omega) | (simp; omega))) ?_
            | refine e_grd hTT false [] 2 rfl rfl rfl rfl rfl (by conv => { lhs; whnf; try dsimp only [List.take, List.drop, List.set, setCells, splice, List.append_eq, List.nil_append, List.cons_append, List.append_nil, List.length_cons, List.length_nil, Nat.zero_add, Nat.add_zero] }) (by conv => { lhs; dsimp only [keysP, List.map] }) (by intro hg; first | exact True.intro | exact Nat.le_of_ble_eq_true rfl | (simp at hg; first | omega | (simp only [inR]; omega) | (simp; omega))) ?_
            | refine e_store hTT false [] rfl rfl rfl rfl rfl (by conv => { lhs; whnf }) (by conv => { lhs; try dsimp only [List.take, List.drop, List.set, setCells, splice, List.append_eq, List.nil_append, List.cons_append, List.append_nil, List.length_cons, List.length_nil, Nat.zero_add, Nat.add_zero] }) (by conv => { lhs; dsimp only [keysP, List.map] }) (by first | exact True.intro | omega | (simp only [inR]; omega) | exact Nat.le_of_ble_eq_true rfl | (refine ⟨by omega, Nat.le_of_ble_eq_true rfl⟩) | (simp; done) | (simp; omega)) ?_
            | refine e_new hTT false [] rfl rfl rfl rfl rfl (by conv => { lhs; whnf; try dsimp only [List.take, List.drop, List.set, setCells, splice, List.append_eq, List.nil_append, List.cons_append, List.append_nil, List.length_cons, List.length_nil, Nat.zero_add, Nat.add_zero] }) (by conv => { lhs; whnf }) (by conv => { lhs; try dsimp only [List.take, List.drop, List.set, setCells, splice, List.append_eq, List.nil_append, List.cons_append, List.append_nil, List.length_cons, List.length_nil, Nat.zero_add, Nat.add_zero] }) (by conv => { lhs; dsimp only [keysP, List.map] }) (by first | exact True.intro | omega | (simp only [inR]; omega) | exact Nat.le_of_ble_eq_true rfl | (refine ⟨by omega, Nat.le_of_ble_eq_true rfl⟩) | (simp; done) | (simp; omega)) ?_
            | refine e_two hTT false [] rfl rfl rfl rfl rfl (by conv => { lhs; whnf; try dsimp only [List.take, List.drop, List.set, setCells, splice, List.append_eq, List.nil_append, List.cons_append, List.append_nil, List.length_cons, List.length_nil, Nat.zero_add, Nat.add_zero] }) (by conv => { lhs; whnf }) (by conv => { lhs; try dsimp only [List.take, List.drop, List.set, setCells, splice, List.append_eq, List.nil_append, List.cons_append, List.append_nil, List.length_cons, List.length_nil, Nat.zero_add, Nat.add_zero] }) (by conv => { lhs; whnf }) (by conv => { lhs; try dsimp only [List.take, List.drop, List.set, setCells, splice, List.append_eq, List.nil_append, List.cons_append, List.append_nil, List.length_cons, List.length_nil, Nat.zero_add, Nat.add_zero] }) (by conv => { lhs; dsimp only [keysP, List.map] }) (by first | exact True.intro | omega | (simp only [inR]; omega) | exact Nat.le_of_ble_eq_true rfl | (refine ⟨by omega, Nat.le_of_ble_eq_true rfl⟩) | (simp; done) | (simp; omega)) ?_
            | refine e_pickG rfl rfl (by first | exact pickV_or _ _ | exact pickV_and _ _ | rfl) (by first | exact True.intro | exact fun h => h) (by intro h; first | exact True.intro | (intro h2; first | (rw [h2]; rfl) | simp_all)) (by intro h; first | exact True.intro | (intro h2; first | (rw [h2]; rfl) | simp_all)) ?_))
        refine ret_pure (.inr rfl) rfl ?_ rfl
        simp [(exact_none hp).1, (exact_none hp).2]
        rfl
      · simp at h3
    | some p =>
      obtain ⟨q1, q2, q3, q4, q5⟩ := exact_some hp
      have q6 : dist p.2 p.1 < t.length := by
        simp only [missB, Bool.and_eq_true, decide_eq_true_eq] at q3
        exact q3.1
      refine e_call (Miss_some t l ht hl hck hp) rfl rfl rfl rfl rfl ?_
      repeat (first
        | (refine aw_seq_k fun K hK => ?_)
        | (refine xt_n ?_)
        | (refine xt_r ?_)
        | (refine xt_x ?_)
        | (refine xb_n ?_)
        | (refine xb_r ?_)
        | (refine xb_same ?_)
        | (refine xb_ne rfl ?_)
        | (refine aw_block ?_)
        | (refine aw_ret ?_)
        | (refine aw_exit ?_)
        | (refine aw_skip ?_)
        | (refine aw_label ?_)
        | (refine hK _ ?_; clear hK; clear K)
        | (clear hK; clear K; refine hK _ ?_; clear hK; clear K)
        | (clear hK; clear K; clear hK; clear K; refine hK _ ?_; clear hK; clear K)
        | (clear hK; clear K; clear hK; clear K; clear hK; clear K; refine hK _ ?_; clear hK; clear K)
        | (clear hK; clear K; clear hK; clear K; clear hK; clear K; clear hK; clear K; refine hK _ ?_; clear hK; clear K)
        | (first | refine w_region (by kernel_rfl) (by conv => { lhs; whnf }) ?_ | refine w_regionD (by kernel_rfl) (by conv => { lhs; whnf }) ?_)
        | refine aops_nil ⟨by kernel_rfl, ?_⟩
        | refine aops_nil ?_
        | (first
          | refine e_val hTT false [] rfl rfl rfl rfl rfl (by conv => { lhs; whnf; try dsimp only [List.take, List.drop, List.set, setCells, splice, List.append_eq, List.nil_append, List.cons_append, List.append_nil, List.length_cons, List.length_nil, Nat.zero_add, Nat.add_zero] }) (by conv => { lhs; dsimp only [keysP, List.map] }) (by first | exact True.intro | omega | (simp only [inR]; omega) | exact Nat.le_of_ble_eq_true rfl | (refine ⟨by omega, Nat.le_of_ble_eq_true rfl⟩) | (simp; done) | (simp; omega)) ?_
          | refine e_pick rfl (by first | exact True.intro | (intro h; first | (rw [h]; rfl) | simpa using h)) (by first | exact True.intro | (intro h; first | (rw [h]; rfl) | simpa using h)) (by first | exact pickV_or _ _ | exact pickV_and _ _ | rfl) ?_
          | refine e_grd hTT false [] 1 rfl rfl rfl rfl rfl (by conv => { lhs; whnf; try dsimp only [List.take, List.drop, List.set, setCells, splice, List.append_eq, List.nil_append, List.cons_append, List.append_nil, List.length_cons, List.length_nil, Nat.zero_add, Nat.add_zero] }) (by conv => { lhs; dsimp only [keysP, List.map] }) (by intro hg; first | exact True.intro | exact Nat.le_of_ble_eq_true rfl | (simp at hg; first | omega | (simp only [inR]; omega) | (simp; omega))) ?_
          | refine e_grd hTT false [] 0 rfl rfl rfl rfl rfl (by conv => { lhs; whnf; try dsimp only [List.take, List.drop, List.set, setCells, splice, List.append_eq, List.nil_append, List.cons_append, List.append_nil, List.length_cons, List.length_nil, Nat.zero_add, Nat.add_zero] }) (by conv => { lhs; dsimp only [keysP, List.map] }) (by intro hg; first | exact True.intro | exact Nat.le_of_ble_eq_true rfl | (simp at hg; first | omega | (simp only [inR]; omega) | (simp; omega))) ?_
          | refine e_grd hTT false [] 2 rfl rfl rfl rfl rfl (by conv => { lhs; whnf; try dsimp only [List.take, List.drop, List.set, setCells, splice, List.append_eq, List.nil_append, List.cons_append, List.append_nil, List.length_cons, List.length_nil, Nat.zero_add, Nat.add_zero] }) (by conv => { lhs; dsimp only [keysP, List.map] }) (by intro hg; first | exact True.intro | exact Nat.le_of_ble_eq_true rfl | (simp at hg; first | omega | (simp only [inR]; omega) | (simp; omega))) ?_
          | refine e_store hTT false [] rfl rfl rfl rfl rfl (by conv => { lhs; whnf }) (by conv => { lhs; try dsimp only [List.take, List.drop, List.set, setCells, splice, List.append_eq, List.nil_append, List.cons_append, List.append_nil, List.length_cons, List.length_nil, Nat.zero_add, Nat.add_zero] }) (by conv => { lhs; dsimp only [keysP, List.map] }) (by first | exact True.intro | omega | (simp only [inR]; omega) | exact Nat.le_of_ble_eq_true rfl | (refine ⟨by omega, Nat.le_of_ble_eq_true rfl⟩) | (simp; done) | (simp; omega)) ?_
          | refine e_new hTT false [] rfl rfl rfl rfl rfl (by conv => { lhs; whnf; try dsimp only [List.take, List.drop, List.set, setCells, splice, List.append_eq, List.nil_append, List.cons_append, List.append_nil, List.length_cons, List.length_nil, Nat.zero_add, Nat.add_zero] }) (by conv => { lhs; whnf }) (by conv => { lhs; try dsimp only [List.take, List.drop, List.set, setCells, splice, List.append_eq, List.nil_append, List.cons_append, List.append_nil, List.length_cons, List.length_nil, Nat.zero_add, Nat.add_zero] }) (by conv => { lhs; dsimp only [keysP, List.map] }) (by first | exact True.intro | omega | (simp only [inR]; omega) | exact Nat.le_of_ble_eq_true rfl | (refine ⟨by omega, Nat.le_of_ble_eq_true rfl⟩) | (simp; done) | (simp; omega)) ?_
          | refine e_two hTT false [] rfl rfl rfl rfl rfl (by conv => { lhs; whnf; try dsimp only [List.take, List.drop, List.set, setCells, splice, List.append_eq, List.nil_append, List.cons_append, List.append_nil, List.length_cons, List.length_nil, Nat.zero_add, Nat.add_zero] }) (by conv => { lhs; whnf }) (by conv => { lhs; try dsimp only [List.take, List.drop, List.set, setCells, splice, List.append_eq, List.nil_append, List.cons_append, List.append_nil, List.length_cons, List.length_nil, Nat.zero_add, Nat.add_zero] }) (by conv => { lhs; whnf }) (by conv => { lhs; try dsimp only [List.take, List.drop, List.set, setCells, splice, List.append_eq, List.nil_append, List.cons_append, List.append_nil, List.length_cons, List.length_nil, Nat.zero_add, Nat.add_zero] }) (by conv => { lhs; dsimp only [keysP, List.map] }) (by first | exact True.intro | omega | (simp only [inR]; omega) | exact Nat.le_of_ble_eq_true rfl | (refine ⟨by omega, Nat.le_of_ble_eq_true rfl⟩) | (simp; done) | (simp; omega)) ?_
          | refine e_pickG rfl rfl (by first | exact pickV_or _ _ | exact pickV_and _ _ | rfl) (by first | exact True.intro | exact fun h => h) (by intro h; first | exact True.intro | (intro h2; first | (rw [h2]; rfl) | simp_all)) (by intro h; first | exact True.intro | (intro h2; first | (rw [h2]; rfl) | simp_all)) ?_))
      refine e_call (zero_ac _ l (Miss_none [0] l (by decide) hl hc0 (miss_zero l))) rfl rfl rfl rfl rfl ?_
      repeat (first
        | (refine aw_seq_k fun K hK => ?_)
        | (refine xt_n ?_)
        | (refine xt_r ?_)
        | (refine xt_x ?_)
        | (refine xb_n ?_)
        | (refine xb_r ?_)
        | (refine xb_same ?_)
        | (refine xb_ne rfl ?_)
        | (refine aw_block ?_)
        | (refine aw_ret ?_)
        | (refine aw_exit ?_)
        | (refine aw_skip ?_)
        | (refine aw_label ?_)
        | (refine hK _ ?_; clear hK; clear K)
        | (clear hK; clear K; refine hK _ ?_; clear hK; clear K)
        | (clear hK; clear K; clear hK; clear K; refine hK _ ?_; clear hK; clear K)
        | (clear hK; clear K; clear hK; clear K; clear hK; clear K; refine hK _ ?_; clear hK; clear K)
        | (clear hK; clear K; clear hK; clear K; clear hK; clear K; clear hK; clear K; refine hK _ ?_; clear hK; clear K)
        | (first | refine w_region (by kernel_rfl) (by conv => { lhs; whnf }) ?_ | refine w_regionD (by kernel_rfl) (by conv => { lhs; whnf }) ?_)
        | refine aops_nil ⟨by kernel_rfl, ?_⟩
        | refine aops_nil ?_
        | (first
          | refine e_val hTT false [] rfl rfl rfl rfl rfl (by conv => { lhs; whnf; try dsimp only [List.take, List.drop, List.set, setCells, splice, List.append_eq, List.nil_append, List.cons_append, List.append_nil, List.length_cons, List.length_nil, Nat.zero_add, Nat.add_zero] }) (by conv => { lhs; dsimp only [keysP, List.map] }) (by first | exact True.intro | omega | (simp only [inR]; omega) | exact Nat.le_of_ble_eq_true rfl | (refine ⟨by omega, Nat.le_of_ble_eq_true rfl⟩) | (simp; done) | (simp; omega)) ?_
          | refine e_pick rfl (by first | exact True.intro | (intro h; first | (rw [h]; rfl) | simpa using h)) (by first | exact True.intro | (intro h; first | (rw [h]; rfl) | simpa using h)) (by first | exact pickV_or _ _ | exact pickV_and _ _ | rfl) ?_
          | refine e_grd hTT false [] 1 rfl rfl rfl rfl rfl (by conv => { lhs; whnf; try dsimp only [List.take, List.drop, List.set, setCells, splice, List.append_eq, List.nil_append, List.cons_append, List.append_nil, List.length_cons, List.length_nil, Nat.zero_add, Nat.add_zero] }) (by conv => { lhs; dsimp only [keysP, List.map] }) (by intro hg; first | exact True.intro | exact Nat.le_of_ble_eq_true rfl | (simp at hg; first | omega | (simp only [inR]; omega) | (simp; omega))) ?_
          | refine e_grd hTT false [] 0 rfl rfl rfl rfl rfl (by conv => { lhs; whnf; try dsimp only [List.take, List.drop, List.set, setCells, splice, List.append_eq, List.nil_append, List.cons_append, List.append_nil, List.length_cons, List.length_nil, Nat.zero_add, Nat.add_zero] }) (by conv => { lhs; dsimp only [keysP, List.map] }) (by intro hg; first | exact True.intro | exact Nat.le_of_ble_eq_true rfl | (simp at hg; first | omega | (simp only [inR]; omega) | (simp; omega))) ?_
          | refine e_grd hTT false [] 2 rfl rfl rfl rfl rfl (by conv => { lhs; whnf; try dsimp only [List.take, List.drop, List.set, setCells, splice, List.append_eq, List.nil_append, List.cons_append, List.append_nil, List.length_cons, List.length_nil, Nat.zero_add, Nat.add_zero] }) (by conv => { lhs; dsimp only [keysP, List.map] }) (by intro hg; first | exact True.intro | exact Nat.le_of_ble_eq_true rfl | (simp at hg; first | omega | (simp only [inR]; omega) | (simp; omega))) ?_
          | refine e_store hTT false [] rfl rfl rfl rfl rfl (by conv => { lhs; whnf }) (by conv => { lhs; try dsimp only [List.take, List.drop, List.set, setCells, splice, List.append_eq, List.nil_append, List.cons_append, List.append_nil, List.length_cons, List.length_nil, Nat.zero_add, Nat.add_zero] }) (by conv => { lhs; dsimp only [keysP, List.map] }) (by first | exact True.intro | omega | (simp only [inR]; omega) | exact Nat.le_of_ble_eq_true rfl | (refine ⟨by omega, Nat.le_of_ble_eq_true rfl⟩) | (simp; done) | (simp; omega)) ?_
          | refine e_new hTT false [] rfl rfl rfl rfl rfl (by conv => { lhs; whnf; try dsimp only [List.take, List.drop, List.set, setCells, splice, List.append_eq, List.nil_append, List.cons_append, List.append_nil, List.length_cons, List.length_nil, Nat.zero_add, Nat.add_zero] }) (by conv => { lhs; whnf }) (by conv => { lhs; try dsimp only [List.take, List.drop, List.set, setCells, splice, List.append_eq, List.nil_append, List.cons_append, List.append_nil, List.length_cons, List.length_nil, Nat.zero_add, Nat.add_zero] }) (by conv => { lhs; dsimp only [keysP, List.map] }) (by first | exact True.intro | omega | (simp only [inR]; omega) | exact Nat.le_of_ble_eq_true rfl | (refine ⟨by omega, Nat.le_of_ble_eq_true rfl⟩) | (simp; done) | (simp; omega)) ?_
          | refine e_two hTT false [] rfl rfl rfl rfl rfl (by conv => { lhs; whnf; try dsimp only [List.take, List.drop, List.set, setCells, splice, List.append_eq, List.nil_append, List.cons_append, List.append_nil, List.length_cons, List.length_nil, Nat.zero_add, Nat.add_zero] }) (by conv => { lhs; whnf }) (by conv => { lhs; try dsimp only [List.take, List.drop, List.set, setCells, splice, List.append_eq, List.nil_append, List.cons_append, List.append_nil, List.length_cons, List.length_nil, Nat.zero_add, Nat.add_zero] }) (by conv => { lhs; whnf }) (by conv => { lhs; try dsimp only [List.take, List.drop, List.set, setCells, splice, List.append_eq, List.nil_append, List.cons_append, List.append_nil, List.length_cons, List.length_nil, Nat.zero_add, Nat.add_zero] }) (by conv => { lhs; dsimp only [keysP, List.map] }) (by first | exact True.intro | omega | (simp only [inR]; omega) | exact Nat.le_of_ble_eq_true rfl | (refine ⟨by omega, Nat.le_of_ble_eq_true rfl⟩) | (simp; done) | (simp; omega)) ?_
          | refine e_pickG rfl rfl (by first | exact pickV_or _ _ | exact pickV_and _ _ | rfl) (by first | exact True.intro | exact fun h => h) (by intro h; first | exact True.intro | (intro h2; first | (rw [h2]; rfl) | simp_all)) (by intro h; first | exact True.intro | (intro h2; first | (rw [h2]; rfl) | simp_all)) ?_))
      refine e_call (sharper_ac t bs less hm v1 hbb hle) rfl rfl rfl rfl rfl ?_
      repeat (first
        | (refine aw_seq_k fun K hK => ?_)
        | (refine xt_n ?_)
        | (refine xt_r ?_)
        | (refine xt_x ?_)
        | (refine xb_n ?_)
        | (refine xb_r ?_)
        | (refine xb_same ?_)
        | (refine xb_ne rfl ?_)
        | (refine aw_block ?_)
        | (refine aw_ret ?_)
        | (refine aw_exit ?_)
        | (refine aw_skip ?_)
        | (refine aw_label ?_)
        | (refine hK _ ?_; clear hK; clear K)
        | (clear hK; clear K; refine hK _ ?_; clear hK; clear K)
        | (clear hK; clear K; clear hK; clear K; refine hK _ ?_; clear hK; clear K)
        | (clear hK; clear K; clear hK; clear K; clear hK; clear K; refine hK _ ?_; clear hK; clear K)
        | (clear hK; clear K; clear hK; clear K; clear hK; clear K; clear hK; clear K; refine hK _ ?_; clear hK; clear K)
        | (first | refine w_region (by kernel_rfl) (by conv => { lhs; whnf }) ?_ | refine w_regionD (by kernel_rfl) (by conv => { lhs; whnf }) ?_)
        | refine aops_nil ⟨by kernel_rfl, ?_⟩
        | refine aops_nil ?_
        | (first
          | refine e_val hTT false [] rfl rfl rfl rfl rfl (by conv => { lhs; whnf; try dsimp only [List.take, List.drop, List.set, setCells, splice, List.append_eq, List.nil_append, List.cons_append, List.append_nil, List.length_cons, List.length_nil, Nat.zero_add, Nat.add_zero] }) (by conv => { lhs; dsimp only [keysP, List.map] }) (by first | exact True.intro | omega | (simp only [inR]; omega) | exact Nat.le_of_ble_eq_true rfl | (refine ⟨by omega, Nat.le_of_ble_eq_true rfl⟩) | (simp; done) | (simp; omega)) ?_
          | refine e_pick rfl (by first | exact True.intro | (intro h; first | (rw [h]; rfl) | simpa using h)) (by first | exact True.intro | (intro h; first | (rw [h]; rfl) | simpa using h)) (by first | exact pickV_or _ _ | exact pickV_and _ _ | rfl) ?_
          | refine e_grd hTT false [] 1 rfl rfl rfl rfl rfl (by conv => { lhs; whnf; try dsimp only [List.take, List.drop, List.set, setCells, splice, List.append_eq, List.nil_append, List.cons_append, List.append_nil, List.length_cons, List.length_nil, Nat.zero_add, Nat.add_zero] }) (by conv => { lhs; dsimp only [keysP, List.map] }) (by intro hg; first | exact True.intro | exact Nat.le_of_ble_eq_true rfl | (simp at hg; first | omega | (simp only [inR]; omega) | (simp; omega))) ?_
          | refine e_grd hTT false [] 0 rfl rfl rfl rfl rfl (by conv => { lhs; whnf; try dsimp only [List.take, List.drop, List.set, setCells, splice, List.append_eq, List.nil_append, List.cons_append, List.append_nil, List.length_cons, List.length_nil, Nat.zero_add, Nat.add_zero] }) (by conv => { lhs; dsimp only [keysP, List.map] }) (by intro hg; first | exact True.intro | exact Nat.le_of_ble_eq_true rfl | (simp at hg; first | omega | (simp only [inR]; omega) | (simp; omega))) ?_
          | refine e_grd hTT false [] 2 rfl rfl rfl rfl rfl (by conv => { lhs; whnf; try dsimp only [List.take, List.drop, List.set, setCells, splice, List.append_eq, List.nil_append, List.cons_append, List.append_nil, List.length_cons, List.length_nil, Nat.zero_add, Nat.add_zero] }) (by conv => { lhs; dsimp only [keysP, List.map] }) (by intro hg; first | exact True.intro | exact Nat.le_of_ble_eq_true rfl | (simp at hg; first | omega | (simp only [inR]; omega) | (simp; omega))) ?_
          | refine e_store hTT false [] rfl rfl rfl rfl rfl (by conv => { lhs; whnf }) (by conv => { lhs; try dsimp only [List.take, List.drop, List.set, setCells, splice, List.append_eq, List.nil_append, List.cons_append, List.append_nil, List.length_cons, List.length_nil, Nat.zero_add, Nat.add_zero] }) (by conv => { lhs; dsimp only [keysP, List.map] }) (by first | exact True.intro | omega | (simp only [inR]; omega) | exact Nat.le_of_ble_eq_true rfl | (refine ⟨by omega, Nat.le_of_ble_eq_true rfl⟩) | (simp; done) | (simp; omega)) ?_
          | refine e_new hTT false [] rfl rfl rfl rfl rfl (by conv => { lhs; whnf; try dsimp only [List.take, List.drop, List.set, setCells, splice, List.append_eq, List.nil_append, List.cons_append, List.append_nil, List.length_cons, List.length_nil, Nat.zero_add, Nat.add_zero] }) (by conv => { lhs; whnf }) (by conv => { lhs; try dsimp only [List.take, List.drop, List.set, setCells, splice, List.append_eq, List.nil_append, List.cons_append, List.append_nil, List.length_cons, List.length_nil, Nat.zero_add, Nat.add_zero] }) (by conv => { lhs; dsimp only [keysP, List.map] }) (by first | exact True.intro | omega | (simp only [inR]; omega) | exact Nat.le_of_ble_eq_true rfl | (refine ⟨by omega, Nat.le_of_ble_eq_true rfl⟩) | (simp; done) | (simp; omega)) ?_
          | refine e_two hTT false [] rfl rfl rfl rfl rfl (by conv => { lhs; whnf; try dsimp only [List.take, List.drop, List.set, setCells, splice, List.append_eq, List.nil_append, List.cons_append, List.append_nil, List.length_cons, List.length_nil, Nat.zero_add, Nat.add_zero] }) (by conv => { lhs; whnf }) (by conv => { lhs; try dsimp only [List.take, List.drop, List.set, setCells, splice, List.append_eq, List.nil_append, List.cons_append, List.append_nil, List.length_cons, List.length_nil, Nat.zero_add, Nat.add_zero] }) (by conv => { lhs; whnf }) (by conv => { lhs; try dsimp only [List.take, List.drop, List.set, setCells, splice, List.append_eq, List.nil_append, List.cons_append, List.append_nil, List.length_cons, List.length_nil, Nat.zero_add, Nat.add_zero] }) (by conv => { lhs; dsimp only [keysP, List.map] }) (by first | exact True.intro | omega | (simp only [inR]; omega) | exact Nat.le_of_ble_eq_true rfl | (refine ⟨by omega, Nat.le_of_ble_eq_true rfl⟩) | (simp; done) | (simp; omega)) ?_
          | refine e_pickG rfl rfl (by first | exact pickV_or _ _ | exact pickV_and _ _ | rfl) (by first | exact True.intro | exact fun h => h) (by intro h; first | exact True.intro | (intro h2; first | (rw [h2]; rfl) | simp_all)) (by intro h; first | exact True.intro | (intro h2; first | (rw [h2]; rfl) | simp_all)) ?_))
      refine e_call (Miss_ac (sharpL t bs less) l hsl hl) rfl rfl rfl rfl rfl ?_
      repeat (first
        | (refine aw_seq_k fun K hK => ?_)
        | (refine xt_n ?_)
        | (refine xt_r ?_)
        | (refine xt_x ?_)
        | (refine xb_n ?_)
        | (refine xb_r ?_)
        | (refine xb_same ?_)
        | (refine xb_ne rfl ?_)
        | (refine aw_block ?_)
        | (refine aw_ret ?_)
        | (refine aw_exit ?_)
        | (refine aw_skip ?_)
        | (refine aw_label ?_)
        | (refine hK _ ?_; clear hK; clear K)
        | (clear hK; clear K; refine hK _ ?_; clear hK; clear K)
        | (clear hK; clear K; clear hK; clear K; refine hK _ ?_; clear hK; clear K)
        | (clear hK; clear K; clear hK; clear K; clear hK; clear K; refine hK _ ?_; clear hK; clear K)
        | (clear hK; clear K; clear hK; clear K; clear hK; clear K; clear hK; clear K; refine hK _ ?_; clear hK; clear K)
        | (first | refine w_region (by kernel_rfl) (by conv => { lhs; whnf }) ?_ | refine w_regionD (by kernel_rfl) (by conv => { lhs; whnf }) ?_)
        | refine aops_nil ⟨by kernel_rfl, ?_⟩
        | refine aops_nil ?_
        | (first
          | refine e_val hTT false [] rfl rfl rfl rfl rfl (by conv => { lhs; whnf; try dsimp only [List.take, List.drop, List.set, setCells, splice, List.append_eq, List.nil_append, List.cons_append, List.append_nil, List.length_cons, List.length_nil, Nat.zero_add, Nat.add_zero] }) (by conv => { lhs; dsimp only [keysP, List.map] }) (by first | exact True.intro | omega | (simp only [inR]; omega) | exact Nat.le_of_ble_eq_true rfl | (refine ⟨by omega, Nat.le_of_ble_eq_true rfl⟩) | (simp; done) | (simp; omega)) ?_
          | refine e_pick rfl (by first | exact True.intro | (intro h; first | (rw [h]; rfl) | simpa using h)) (by first | exact True.intro | (intro h; first | (rw [h]; rfl) | simpa using h)) (by first | exact pickV_or _ _ | exact pickV_and _ _ | rfl) ?_
          | refine e_grd hTT false [] 1 rfl rfl rfl rfl rfl (by conv => { lhs; whnf; try dsimp only [List.take, List.drop, List.set, setCells, splice, List.append_eq, List.nil_append, List.cons_append, List.append_nil, List.length_cons, List.length_nil, Nat.zero_add, Nat.add_zero] }) (by conv => { lhs; dsimp only [keysP, List.map] }) (by intro hg; first | exact True.intro | exact Nat.le_of_ble_eq_true rfl | (simp at hg; first | omega | (simp only [inR]; omega) | (simp; omega))) ?_
          | refine e_grd hTT false [] 0 rfl rfl rfl rfl rfl (by conv => { lhs; whnf; try dsimp only [List.take, List.drop, List.set, setCells, splice, List.append_eq, List.nil_append, List.cons_append, List.append_nil, List.length_cons, List.length_nil, Nat.zero_add, Nat.add_zero] }) (by conv => { lhs; dsimp only [keysP, List.map] }) (by intro hg; first | exact True.intro | exact Nat.le_of_ble_eq_true rfl | (simp at hg; first | omega | (simp only [inR]; omega) | (simp; omega))) ?_
          | refine e_grd hTT false [] 2 rfl rfl rfl rfl rfl (by conv => { lhs; whnf; try dsimp only [List.take, List.drop, List.set, setCells, splice, List.append_eq, List.nil_append, List.cons_append, List.append_nil, List.length_cons, List.length_nil, Nat.zero_add, Nat.add_zero] }) (by conv => { lhs; dsimp only [keysP, List.map] }) (by intro hg; first | exact True.intro | exact Nat.le_of_ble_eq_true rfl | (simp at hg; first | omega | (simp only [inR]; omega) | (simp; omega))) ?_
          | refine e_store hTT false [] rfl rfl rfl rfl rfl (by conv => { lhs; whnf }) (by conv => { lhs; try dsimp only [List.take, List.drop, List.set, setCells, splice, List.append_eq, List.nil_append, List.cons_append, List.append_nil, List.length_cons, List.length_nil, Nat.zero_add, Nat.add_zero] }) (by conv => { lhs; dsimp only [keysP, List.map] }) (by first | exact True.intro | omega | (simp only [inR]; omega) | exact Nat.le_of_ble_eq_true rfl | (refine ⟨by omega, Nat.le_of_ble_eq_true rfl⟩) | (simp; done) | (simp; omega)) ?_
          | refine e_new hTT false [] rfl rfl rfl rfl rfl (by conv => { lhs; whnf; try dsimp only [List.take, List.drop, List.set, setCells, splice, List.append_eq, List.nil_append, List.cons_append, List.append_nil, List.length_cons, List.length_nil, Nat.zero_add, Nat.add_zero] }) (by conv => { lhs; whnf }) (by conv => { lhs; try dsimp only [List.take, List.drop, List.set, setCells, splice, List.append_eq, List.nil_append, List.cons_append, List.append_nil, List.length_cons, List.length_nil, Nat.zero_add, Nat.add_zero] }) (by conv => { lhs; dsimp only [keysP, List.map] }) (by first | exact True.intro | omega | (simp only [inR]; omega) | exact Nat.le_of_ble_eq_true rfl | (refine ⟨by omega, Nat.le_of_ble_eq_true rfl⟩) | (simp; done) | (simp; omega)) ?_
          | refine e_two hTT false [] rfl rfl rfl rfl rfl (by conv => { lhs; whnf; try dsimp only [List.take, List.drop, List.set, setCells, splice, List.append_eq, List.nil_append, List.cons_append, List.append_nil, List.length_cons, List.length_nil, Nat.zero_add, Nat.add_zero] }) (by conv => { lhs; whnf }) (by conv => { lhs; try dsimp only [List.take, List.drop, List.set, setCells, splice, List.append_eq, List.nil_append, List.cons_append, List.append_nil, List.length_cons, List.length_nil, Nat.zero_add, Nat.add_zero] }) (by conv => { lhs; whnf }) (by conv => { lhs; try dsimp only [List.take, List.drop, List.set, setCells, splice, List.append_eq, List.nil_append, List.cons_append, List.append_nil, List.length_cons, List.length_nil, Nat.zero_add, Nat.add_zero] }) (by conv => { lhs; dsimp only [keysP, List.map] }) (by first | exact True.intro | omega | (simp only [inR]; omega) | exact Nat.le_of_ble_eq_true rfl | (refine ⟨by omega, Nat.le_of_ble_eq_true rfl⟩) | (simp; done) | (simp; omega)) ?_
          | refine e_pickG rfl rfl (by first | exact pickV_or _ _ | exact pickV_and _ _ | rfl) (by first | exact True.intro | exact fun h => h) (by intro h; first | exact True.intro | (intro h2; first | (rw [h2]; rfl) | simp_all)) (by intro h; first | exact True.intro | (intro h2; first | (rw [h2]; rfl) | simp_all)) ?_))
      refine w_cond rfl (fun h2 => ?_) (fun h2 => ?_)
      · simp [lr, ls] at h2
      repeat (first
        | (refine aw_seq_k fun K hK => ?_)
        | (refine xt_n ?_)
        | (refine xt_r ?_)
        | (refine xt_x ?_)
        | (refine xb_n ?_)
        | (refine xb_r ?_)
        | (refine xb_same ?_)
        | (refine xb_ne rfl ?_)
        | (refine aw_block ?_)
        | (refine aw_ret ?_)
        | (refine aw_exit ?_)
        | (refine aw_skip ?_)
        | (refine aw_label ?_)
        | (refine hK _ ?_; clear hK; clear K)
        | (clear hK; clear K; refine hK _ ?_; clear hK; clear K)
        | (clear hK; clear K; clear hK; clear K; refine hK _ ?_; clear hK; clear K)
        | (clear hK; clear K; clear hK; clear K; clear hK; clear K; refine hK _ ?_; clear hK; clear K)
        | (clear hK; clear K; clear hK; clear K; clear hK; clear K; clear hK; clear K; refine hK _ ?_; clear hK; clear K)
        | (first | refine w_region (by kernel_rfl) (by conv => { lhs; whnf }) ?_ | refine w_regionD (by kernel_rfl) (by conv => { lhs; whnf }) ?_)
        | refine aops_nil ⟨by kernel_rfl, ?_⟩
        | refine aops_nil ?_
        | (first
          | refine e_val hTT false [] rfl rfl rfl rfl rfl (by conv => { lhs; whnf; try dsimp only [List.take, List.drop, List.set, setCells, splice, List.append_eq, List.nil_append, List.cons_append, List.append_nil, List.length_cons, List.length_nil, Nat.zero_add, Nat.add_zero] }) (by conv => { lhs; dsimp only [keysP, List.map] }) (by first | exact True.intro | omega | (simp only [inR]; omega) | exact Nat.le_of_ble_eq_true rfl | (refine ⟨by omega, Nat.le_of_ble_eq_true rfl⟩) | (simp; done) | (simp; omega)) ?_
          | refine e_pick rfl (by first | exact True.intro | (intro h; first | (rw [h]; rfl) | simpa using h)) (by first | exact True.intro | (intro h; first | (rw [h]; rfl) | simpa using h)) (by first | exact pickV_or _ _ | exact pickV_and _ _ | rfl) ?_
          | refine e_grd hTT false [] 1 rfl rfl rfl rfl rfl (by conv => { lhs; whnf; try dsimp only [List.take, List.drop, List.set, setCells, splice, List.append_eq, List.nil_append, List.cons_append, List.append_nil, List.length_cons, List.length_nil, Nat.zero_add, Nat.add_zero] }) (by conv => { lhs; dsimp only [keysP, List.map] }) (by intro hg; first | exact True.intro | exact Nat.le_of_ble_eq_true rfl | (simp at hg; first | omega | (simp only [inR]; omega) | (simp; omega))) ?_
          | refine e_grd hTT false [] 0 rfl rfl rfl rfl rfl (by conv => { lhs; whnf; try dsimp only [List.take, List.drop, List.set, setCells, splice, List.append_eq, List.nil_append, List.cons_append, List.append_nil, List.length_cons, List.length_nil, Nat.zero_add, Nat.add_zero] }) (by conv => { lhs; dsimp only [keysP, List.map] }) (by intro hg; first | exact True.intro | exact Nat.le_of_ble_eq_true rfl | (simp at hg; first | omega | (simp only [inR]; omega) | (simp; omega))) ?_
          | refine e_grd hTT false [] 2 rfl rfl rfl rfl rfl (by conv => { lhs; whnf; try dsimp only [List.take, List.drop, List.set, setCells, splice, List.append_eq, List.nil_append, List.cons_append, List.append_nil, List.length_cons, List.length_nil, Nat.zero_add, Nat.add_zero] }) (by conv => { lhs; dsimp only [keysP, List.map] }) (by intro hg; first | exact True.intro | exact Nat.le_of_ble_eq_true rfl | (simp at hg; first | omega | (simp only [inR]; omega) | (simp; omega))) ?_
          | refine e_store hTT false [] rfl rfl rfl rfl rfl (by conv => { lhs; whnf }) (by conv => { lhs; try dsimp only [List.take, List.drop, List.set, setCells, splice, List.append_eq, List.nil_append, List.cons_append, List.append_nil, List.length_cons, List.length_nil, Nat.zero_add, Nat.add_zero] }) (by conv => { lhs; dsimp only [keysP, List.map] }) (by first | exact True.intro | omega | (simp only [inR]; omega) | exact Nat.le_of_ble_eq_true rfl | (refine ⟨by omega, Nat.le_of_ble_eq_true rfl⟩) | (simp; done) | (simp; omega)) ?_
          | refine e_new hTT false [] rfl rfl rfl rfl rfl (by conv => { lhs; whnf; try dsimp only [List.take, List.drop, List.set, setCells, splice, List.append_eq, List.nil_append, List.cons_append, List.append_nil, List.length_cons, List.length_nil, Nat.zero_add, Nat.add_zero] }) (by conv => { lhs; whnf }) (by conv => { lhs; try dsimp only [List.take, List.drop, List.set, setCells, splice, List.append_eq, List.nil_append, List.cons_append, List.append_nil, List.length_cons, List.length_nil, Nat.zero_add, Nat.add_zero] }) (by conv => { lhs; dsimp only [keysP, List.map] }) (by first | exact True.intro | omega | (simp only [inR]; omega) | exact Nat.le_of_ble_eq_true rfl | (refine ⟨by omega, Nat.le_of_ble_eq_true rfl⟩) | (simp; done) | (simp; omega)) ?_
          | refine e_two hTT false [] rfl rfl rfl rfl rfl (by conv => { lhs; whnf; try dsimp only [List.take, List.drop, List.set, setCells, splice, List.append_eq, List.nil_append, List.cons_append, List.append_nil, List.length_cons, List.length_nil, Nat.zero_add, Nat.add_zero] }) (by conv => { lhs; whnf }) (by conv => { lhs; try dsimp only [List.take, List.drop, List.set, setCells, splice, List.append_eq, List.nil_append, List.cons_append, List.append_nil, List.length_cons, List.length_nil, Nat.zero_add, Nat.add_zero] }) (by conv => { lhs; whnf }) (by conv => { lhs; try dsimp only [List.take, List.drop, List.set, setCells, splice, List.append_eq, List.nil_append, List.cons_append, List.append_nil, List.length_cons, List.length_nil, Nat.zero_add, Nat.add_zero] }) (by conv => { lhs; dsimp only [keysP, List.map] }) (by first | exact True.intro | omega | (simp only [inR]; omega) | exact Nat.le_of_ble_eq_true rfl | (refine ⟨by omega, Nat.le_of_ble_eq_true rfl⟩) | (simp; done) | (simp; omega)) ?_
          | refine e_pickG rfl rfl (by first | exact pickV_or _ _ | exact pickV_and _ _ | rfl) (by first | exact True.intro | exact fun h => h) (by intro h; first | exact True.intro | (intro h2; first | (rw [h2]; rfl) | simp_all)) (by intro h; first | exact True.intro | (intro h2; first | (rw [h2]; rfl) | simp_all)) ?_))
      refine w_cond rfl (fun h3 => ?_) (fun h3 => ?_)
      · simp at h3
      have b0 := gp_bd m5 (p.1 : Int).toNat
      have b1 := gp_bd m5 (p.2 : Int).toNat
      have b2 := gi_bd m3 (max ((p.2 : Int) - (p.1 : Int)) ((p.1 : Int) - (p.2 : Int))).toNat
      have n1 : ¬ l.length ≤ p.1 := by omega
      have n2 : ¬ l.length ≤ p.2 := by omega
      repeat (first
        | (refine aw_seq_k fun K hK => ?_)
        | (refine xt_n ?_)
        | (refine xt_r ?_)
        | (refine xt_x ?_)
        | (refine xb_n ?_)
        | (refine xb_r ?_)
        | (refine xb_same ?_)
        | (refine xb_ne rfl ?_)
        | (refine aw_block ?_)
        | (refine aw_ret ?_)
        | (refine aw_exit ?_)
        | (refine aw_skip ?_)
        | (refine aw_label ?_)
        | (refine hK _ ?_; clear hK; clear K)
        | (clear hK; clear K; refine hK _ ?_; clear hK; clear K)
        | (clear hK; clear K; clear hK; clear K; refine hK _ ?_; clear hK; clear K)
        | (clear hK; clear K; clear hK; clear K; clear hK; clear K; refine hK _ ?_; clear hK; clear K)
        | (clear hK; clear K; clear hK; clear K; clear hK; clear K; clear hK; clear K; refine hK _ ?_; clear hK; clear K)
        | (first | refine w_region (by kernel_rfl) (by conv => { lhs; whnf }) ?_ | refine w_regionD (by kernel_rfl) (by conv => { lhs; whnf }) ?_)
        | refine aops_nil ⟨by kernel_rfl, ?_⟩
        | refine aops_nil ?_
        | (first
          | refine e_val hTT false [] rfl rfl rfl rfl rfl (by conv => { lhs; whnf; try dsimp only [List.take, List.drop, List.set, setCells, splice, List.append_eq, List.nil_append, List.cons_append, List.append_nil, List.length_cons, List.length_nil, Nat.zero_add, Nat.add_zero] }) (by conv => { lhs; dsimp only [keysP, List.map] }) (by first | exact True.intro | omega | (simp only [inR]; omega) | exact Nat.le_of_ble_eq_true rfl | (refine ⟨by omega, Nat.le_of_ble_eq_true rfl⟩) | (simp; done) | (simp; omega)) ?_
          | refine e_pick rfl (by first | exact True.intro | (intro h; first | (rw [h]; rfl) | simpa using h)) (by first | exact True.intro | (intro h; first | (rw [h]; rfl) | simpa using h)) (by first | exact pickV_or _ _ | exact pickV_and _ _ | rfl) ?_
          | refine e_grd hTT false [] 1 rfl rfl rfl rfl rfl (by conv => { lhs; whnf; try dsimp only [List.take, List.drop, List.set, setCells, splice, List.append_eq, List.nil_append, List.cons_append, List.append_nil, List.length_cons, List.length_nil, Nat.zero_add, Nat.add_zero] }) (by conv => { lhs; dsimp only [keysP, List.map] }) (by intro hg; first | exact True.intro | exact Nat.le_of_ble_eq_true rfl | (simp at hg; first | omega | (simp only [inR]; omega) | (simp; omega))) ?_
          | refine e_grd hTT false [] 0 rfl rfl rfl rfl rfl (by conv => { lhs; whnf; try dsimp only [List.take, List.drop, List.set, setCells, splice, List.append_eq, List.nil_append, List.cons_append, List.append_nil, List.length_cons, List.length_nil, Nat.zero_add, Nat.add_zero] }) (by conv => { lhs; dsimp only [keysP, List.map] }) (by intro hg; first | exact True.intro | exact Nat.le_of_ble_eq_true rfl | (simp at hg; first | omega | (simp only [inR]; omega) | (simp; omega))) ?_
          | refine e_grd hTT false [] 2 rfl rfl rfl rfl rfl (by conv => { lhs; whnf; try dsimp only [List.take, List.drop, List.set, setCells, splice, List.append_eq, List.nil_append, List.cons_append, List.append_nil, List.length_cons, List.length_nil, Nat.zero_add, Nat.add_zero] }) (by conv => { lhs; dsimp only [keysP, List.map] }) (by intro hg; first | exact True.intro | exact Nat.le_of_ble_eq_true rfl | (simp at hg; first | omega | (simp only [inR]; omega) | (simp; omega))) ?_
          | refine e_store hTT false [] rfl rfl rfl rfl rfl (by conv => { lhs; whnf }) (by conv => { lhs; try dsimp only [List.take, List.drop, List.set, setCells, splice, List.append_eq, List.nil_append, List.cons_append, List.append_nil, List.length_cons, List.length_nil, Nat.zero_add, Nat.add_zero] }) (by conv => { lhs; dsimp only [keysP, List.map] }) (by first | exact True.intro | omega | (simp only [inR]; omega) | exact Nat.le_of_ble_eq_true rfl | (refine ⟨by omega, Nat.le_of_ble_eq_true rfl⟩) | (simp; done) | (simp; omega)) ?_
          | refine e_new hTT false [] rfl rfl rfl rfl rfl (by conv => { lhs; whnf; try dsimp only [List.take, List.drop, List.set, setCells, splice, List.append_eq, List.nil_append, List.cons_append, List.append_nil, List.length_cons, List.length_nil, Nat.zero_add, Nat.add_zero] }) (by conv => { lhs; whnf }) (by conv => { lhs; try dsimp only [List.take, List.drop, List.set, setCells, splice, List.append_eq, List.nil_append, List.cons_append, List.append_nil, List.length_cons, List.length_nil, Nat.zero_add, Nat.add_zero] }) (by conv => { lhs; dsimp only [keysP, List.map] }) (by first | exact True.intro | omega | (simp only [inR]; omega) | exact Nat.le_of_ble_eq_true rfl | (refine ⟨by omega, Nat.le_of_ble_eq_true rfl⟩) | (simp; done) | (simp; omega)) ?_
          | refine e_two hTT false [] rfl rfl rfl rfl rfl (by conv => { lhs; whnf; try dsimp only [List.take, List.drop, List.set, setCells, splice, List.append_eq, List.nil_append, List.cons_append, List.append_nil, List.length_cons, List.length_nil, Nat.zero_add, Nat.add_zero] }) (by conv => { lhs; whnf }) (by conv => { lhs; try dsimp only [List.take, List.drop, List.set, setCells, splice, List.append_eq, List.nil_append, List.cons_append, List.append_nil, List.length_cons, List.length_nil, Nat.zero_add, Nat.add_zero] }) (by conv => { lhs; whnf }) (by conv => { lhs; try dsimp only [List.take, List.drop, List.set, setCells, splice, List.append_eq, List.nil_append, List.cons_append, List.append_nil, List.length_cons, List.length_nil, Nat.zero_add, Nat.add_zero] }) (by conv => { lhs; dsimp only [keysP, List.map] }) (by first | exact True.intro | omega | (simp only [inR]; omega) | exact Nat.le_of_ble_eq_true rfl | (refine ⟨by omega, Nat.le_of_ble_eq_true rfl⟩) | (simp; done) | (simp; omega)) ?_
          | refine e_pickG rfl rfl (by first | exact pickV_or _ _ | exact pickV_and _ _ | rfl) (by first | exact True.intro | exact fun h => h) (by intro h; first | exact True.intro | (intro h2; first | (rw [h2]; rfl) | simp_all)) (by intro h; first | exact True.intro | (intro h2; first | (rw [h2]; rfl) | simp_all)) ?_))
      refine w_cond rfl (fun h4 => ?_) (fun h4 => ?_)
      · exfalso
        simp [n1, n2] at h4
        first | exact q4 (Prod.ext h4.1 h4.2) | (rcases h4 with h4 | h4; omega; exact q4 (Prod.ext h4.1 h4.2))
      repeat (first
        | (refine aw_seq_k fun K hK => ?_)
        | (refine xt_n ?_)
        | (refine xt_r ?_)
        | (refine xt_x ?_)
        | (refine xb_n ?_)
        | (refine xb_r ?_)
        | (refine xb_same ?_)
        | (refine xb_ne rfl ?_)
        | (refine aw_block ?_)
        | (refine aw_ret ?_)
        | (refine aw_exit ?_)
        | (refine aw_skip ?_)
        | (refine aw_label ?_)
        | (refine hK _ ?_; clear hK; clear K)
        | (clear hK; clear K; refine hK _ ?_; clear hK; clear K)
        | (clear hK; clear K; clear hK; clear K; refine hK _ ?_; clear hK; clear K)
        | (clear hK; clear K; clear hK; clear K; clear hK; clear K; refine hK _ ?_; clear hK; clear K)
        | (clear hK; clear K; clear hK; clear K; clear hK; clear K; clear hK; clear K; refine hK _ ?_; clear hK; clear K)
        | (first | refine w_region (by kernel_rfl) (by conv => { lhs; whnf }) ?_ | refine w_regionD (by kernel_rfl) (by conv => { lhs; whnf }) ?_)
        | refine aops_nil ⟨by kernel_rfl, ?_⟩
        | refine aops_nil ?_
        | (first
          | refine e_val hTT false [] rfl rfl rfl rfl rfl (by conv => { lhs; whnf; try dsimp only [List.take, List.drop, List.set, setCells, splice, List.append_eq, List.nil_append, List.cons_append, List.append_nil, List.length_cons, List.length_nil, Nat.zero_add, Nat.add_zero] }) (by conv => { lhs; dsimp only [keysP, List.map] }) (by first | exact True.intro | omega | (simp only [inR]; omega) | exact Nat.le_of_ble_eq_true rfl | (refine ⟨by omega, Nat.le_of_ble_eq_true rfl⟩) | (simp; done) | (simp; omega)) ?_
          | refine e_pick rfl (by first | exact True.intro | (intro h; first | (rw [h]; rfl) | simpa using h)) (by first | exact True.intro | (intro h; first | (rw [h]; rfl) | simpa using h)) (by first | exact pickV_or _ _ | exact pickV_and _ _ | rfl) ?_
          | refine e_grd hTT false [] 1 rfl rfl rfl rfl rfl (by conv => { lhs; whnf; try dsimp only [List.take, List.drop, List.set, setCells, splice, List.append_eq, List.nil_append, List.cons_append, List.append_nil, List.length_cons, List.length_nil, Nat.zero_add, Nat.add_zero] }) (by conv => { lhs; dsimp only [keysP, List.map] }) (by intro hg; first | exact True.intro | exact Nat.le_of_ble_eq_true rfl | (simp at hg; first | omega | (simp only [inR]; omega) | (simp; omega))) ?_
          | refine e_grd hTT false [] 0 rfl rfl rfl rfl rfl (by conv => { lhs; whnf; try dsimp only [List.take, List.drop, List.set, setCells, splice, List.append_eq, List.nil_append, List.cons_append, List.append_nil, List.length_cons, List.length_nil, Nat.zero_add, Nat.add_zero] }) (by conv => { lhs; dsimp only [keysP, List.map] }) (by intro hg; first | exact True.intro | exact Nat.le_of_ble_eq_true rfl | (simp at hg; first | omega | (simp only [inR]; omega) | (simp; omega))) ?_
          | refine e_grd hTT false [] 2 rfl rfl rfl rfl rfl (by conv => { lhs; whnf; try dsimp only [List.take, List.drop, List.set, setCells, splice, List.append_eq, List.nil_append, List.cons_append, List.append_nil, List.length_cons, List.length_nil, Nat.zero_add, Nat.add_zero] }) (by conv => { lhs; dsimp only [keysP, List.map] }) (by intro hg; first | exact True.intro | exact Nat.le_of_ble_eq_true rfl | (simp at hg; first | omega | (simp only [inR]; omega) | (simp; omega))) ?_
          | refine e_store hTT false [] rfl rfl rfl rfl rfl (by conv => { lhs; whnf }) (by conv => { lhs; try dsimp only [List.take, List.drop, List.set, setCells, splice, List.append_eq, List.nil_append, List.cons_append, List.append_nil, List.length_cons, List.length_nil, Nat.zero_add, Nat.add_zero] }) (by conv => { lhs; dsimp only [keysP, List.map] }) (by first | exact True.intro | omega | (simp only [inR]; omega) | exact Nat.le_of_ble_eq_true rfl | (refine ⟨by omega, Nat.le_of_ble_eq_true rfl⟩) | (simp; done) | (simp; omega)) ?_
          | refine e_new hTT false [] rfl rfl rfl rfl rfl (by conv => { lhs; whnf; try dsimp only [List.take, List.drop, List.set, setCells, splice, List.append_eq, List.nil_append, List.cons_append, List.append_nil, List.length_cons, List.length_nil, Nat.zero_add, Nat.add_zero] }) (by conv => { lhs; whnf }) (by conv => { lhs; try dsimp only [List.take, List.drop, List.set, setCells, splice, List.append_eq, List.nil_append, List.cons_append, List.append_nil, List.length_cons, List.length_nil, Nat.zero_add, Nat.add_zero] }) (by conv => { lhs; dsimp only [keysP, List.map] }) (by first | exact True.intro | omega | (simp only [inR]; omega) | exact Nat.le_of_ble_eq_true rfl | (refine ⟨by omega, Nat.le_of_ble_eq_true rfl⟩) | (simp; done) | (simp; omega)) ?_
          | refine e_two hTT false [] rfl rfl rfl rfl rfl (by conv => { lhs; whnf; try dsimp only [List.take, List.drop, List.set, setCells, splice, List.append_eq, List.nil_append, List.cons_append, List.append_nil, List.length_cons, List.length_nil, Nat.zero_add, Nat.add_zero] }) (by conv => { lhs; whnf }) (by conv => { lhs; try dsimp only [List.take, List.drop, List.set, setCells, splice, List.append_eq, List.nil_append, List.cons_append, List.append_nil, List.length_cons, List.length_nil, Nat.zero_add, Nat.add_zero] }) (by conv => { lhs; whnf }) (by conv => { lhs; try dsimp only [List.take, List.drop, List.set, setCells, splice, List.append_eq, List.nil_append, List.cons_append, List.append_nil, List.length_cons, List.length_nil, Nat.zero_add, Nat.add_zero] }) (by conv => { lhs; dsimp only [keysP, List.map] }) (by first | exact True.intro | omega | (simp only [inR]; omega) | exact Nat.le_of_ble_eq_true rfl | (refine ⟨by omega, Nat.le_of_ble_eq_true rfl⟩) | (simp; done) | (simp; omega)) ?_
          | refine e_pickG rfl rfl (by first | exact pickV_or _ _ | exact pickV_and _ _ | rfl) (by first | exact True.intro | exact fun h => h) (by intro h; first | exact True.intro | (intro h2; first | (rw [h2]; rfl) | simp_all)) (by intro h; first | exact True.intro | (intro h2; first | (rw [h2]; rfl) | simp_all)) ?_))
      refine w_cond rfl (fun h5 => ?_) (fun h5 => ?_)
      · exfalso
        rw [missB_form] at q3
        simp at h5 q3
        omega
      repeat (first
        | (refine aw_seq_k fun K hK => ?_)
        | (refine xt_n ?_)
        | (refine xt_r ?_)
        | (refine xt_x ?_)
        | (refine xb_n ?_)
        | (refine xb_r ?_)
        | (refine xb_same ?_)
        | (refine xb_ne rfl ?_)
        | (refine aw_block ?_)
        | (refine aw_ret ?_)
        | (refine aw_exit ?_)
        | (refine aw_skip ?_)
        | (refine aw_label ?_)
        | (refine hK _ ?_; clear hK; clear K)
        | (clear hK; clear K; refine hK _ ?_; clear hK; clear K)
        | (clear hK; clear K; clear hK; clear K; refine hK _ ?_; clear hK; clear K)
        | (clear hK; clear K; clear hK; clear K; clear hK; clear K; refine hK _ ?_; clear hK; clear K)
        | (clear hK; clear K; clear hK; clear K; clear hK; clear K; clear hK; clear K; refine hK _ ?_; clear hK; clear K)
        | (first | refine w_region (by kernel_rfl) (by conv => { lhs; whnf }) ?_ | refine w_regionD (by kernel_rfl) (by conv => { lhs; whnf }) ?_)
        | refine aops_nil ⟨by kernel_rfl, ?_⟩
        | refine aops_nil ?_
        | (first
          | refine e_val hTT false [] rfl rfl rfl rfl rfl (by conv => { lhs; whnf; try dsimp only [List.take, List.drop, List.set, setCells, splice, List.append_eq, List.nil_append, List.cons_append, List.append_nil, List.length_cons, List.length_nil, Nat.zero_add, Nat.add_zero] }) (by conv => { lhs; dsimp only [keysP, List.map] }) (by first | exact True.intro | omega | (simp only [inR]; omega) | exact Nat.le_of_ble_eq_true rfl | (refine ⟨by omega, Nat.le_of_ble_eq_true rfl⟩) | (simp; done) | (simp; omega)) ?_
          | refine e_pick rfl (by first | exact True.intro | (intro h; first | (rw [h]; rfl) | simpa using h)) (by first | exact True.intro | (intro h; first | (rw [h]; rfl) | simpa using h)) (by first | exact pickV_or _ _ | exact pickV_and _ _ | rfl) ?_
          | refine e_grd hTT false [] 1 rfl rfl rfl rfl rfl (by conv => { lhs; whnf; try dsimp only [List.take, List.drop, List.set, setCells, splice, List.append_eq, List.nil_append, List.cons_append, List.append_nil, List.length_cons, List.length_nil, Nat.zero_add, Nat.add_zero] }) (by conv => { lhs; dsimp only [keysP, List.map] }) (by intro hg; first | exact True.intro | exact Nat.le_of_ble_eq_true rfl | (simp at hg; first | omega | (simp only [inR]; omega) | (simp; omega))) ?_
          | refine e_grd hTT false [] 0 rfl rfl rfl rfl rfl (by conv => { lhs; whnf; try dsimp only [List.take, List.drop, List.set, setCells, splice, List.append_eq, List.nil_append, List.cons_append, List.append_nil, List.length_cons, List.length_nil, Nat.zero_add, Nat.add_zero] }) (by conv => { lhs; dsimp only [keysP, List.map] }) (by intro hg; first | exact True.intro | exact Nat.le_of_ble_eq_true rfl | (simp at hg; first | omega | (simp only [inR]; omega) | (simp; omega))) ?_
          | refine e_grd hTT false [] 2 rfl rfl rfl rfl rfl (by conv => { lhs; whnf; try dsimp only [List.take, List.drop, List.set, setCells, splice, List.append_eq, List.nil_append, List.cons_append, List.append_nil, List.length_cons, List.length_nil, Nat.zero_add, Nat.add_zero] }) (by conv => { lhs; dsimp only [keysP, List.map] }) (by intro hg; first | exact True.intro | exact Nat.le_of_ble_eq_true rfl | (simp at hg; first | omega | (simp only [inR]; omega) | (simp; omega))) ?_
          | refine e_store hTT false [] rfl rfl rfl rfl rfl (by conv => { lhs; whnf }) (by conv => { lhs; try dsimp only [List.take, List.drop, List.set, setCells, splice, List.append_eq, List.nil_append, List.cons_append, List.append_nil, List.length_cons, List.length_nil, Nat.zero_add, Nat.add_zero] }) (by conv => { lhs; dsimp only [keysP, List.map] }) (by first | exact True.intro | omega | (simp only [inR]; omega) | exact Nat.le_of_ble_eq_true rfl | (refine ⟨by omega, Nat.le_of_ble_eq_true rfl⟩) | (simp; done) | (simp; omega)) ?_
          | refine e_new hTT false [] rfl rfl rfl rfl rfl (by conv => { lhs; whnf; try dsimp only [List.take, List.drop, List.set, setCells, splice, List.append_eq, List.nil_append, List.cons_append, List.append_nil, List.length_cons, List.length_nil, Nat.zero_add, Nat.add_zero] }) (by conv => { lhs; whnf }) (by conv => { lhs; try dsimp only [List.take, List.drop, List.set, setCells, splice, List.append_eq, List.nil_append, List.cons_append, List.append_nil, List.length_cons, List.length_nil, Nat.zero_add, Nat.add_zero] }) (by conv => { lhs; dsimp only [keysP, List.map] }) (by first | exact True.intro | omega | (simp only [inR]; omega) | exact Nat.le_of_ble_eq_true rfl | (refine ⟨by omega, Nat.le_of_ble_eq_true rfl⟩) | (simp; done) | (simp; omega)) ?_
          | refine e_two hTT false [] rfl rfl rfl rfl rfl (by conv => { lhs; whnf; try dsimp only [List.take, List.drop, List.set, setCells, splice, List.append_eq, List.nil_append, List.cons_append, List.append_nil, List.length_cons, List.length_nil, Nat.zero_add, Nat.add_zero] }) (by conv => { lhs; whnf }) (by conv => { lhs; try dsimp only [List.take, List.drop, List.set, setCells, splice, List.append_eq, List.nil_append, List.cons_append, List.append_nil, List.length_cons, List.length_nil, Nat.zero_add, Nat.add_zero] }) (by conv => { lhs; whnf }) (by conv => { lhs; try dsimp only [List.take, List.drop, List.set, setCells, splice, List.append_eq, List.nil_append, List.cons_append, List.append_nil, List.length_cons, List.length_nil, Nat.zero_add, Nat.add_zero] }) (by conv => { lhs; dsimp only [keysP, List.map] }) (by first | exact True.intro | omega | (simp only [inR]; omega) | exact Nat.le_of_ble_eq_true rfl | (refine ⟨by omega, Nat.le_of_ble_eq_true rfl⟩) | (simp; done) | (simp; omega)) ?_
          | refine e_pickG rfl rfl (by first | exact pickV_or _ _ | exact pickV_and _ _ | rfl) (by first | exact True.intro | exact fun h => h) (by intro h; first | exact True.intro | (intro h2; first | (rw [h2]; rfl) | simp_all)) (by intro h; first | exact True.intro | (intro h2; first | (rw [h2]; rfl) | simp_all)) ?_))
      refine e_call (same_take_ac (readP t l) l p.1 (by omega) (by omega) (by omega) q5) rfl rfl rfl rfl rfl ?_
      repeat (first
        | (refine aw_seq_k fun K hK => ?_)
        | (refine xt_n ?_)
        | (refine xt_r ?_)
        | (refine xt_x ?_)
        | (refine xb_n ?_)
        | (refine xb_r ?_)
        | (refine xb_same ?_)
        | (refine xb_ne rfl ?_)
        | (refine aw_block ?_)
        | (refine aw_ret ?_)
        | (refine aw_exit ?_)
        | (refine aw_skip ?_)
        | (refine aw_label ?_)
        | (refine hK _ ?_; clear hK; clear K)
        | (clear hK; clear K; refine hK _ ?_; clear hK; clear K)
        | (clear hK; clear K; clear hK; clear K; refine hK _ ?_; clear hK; clear K)
        | (clear hK; clear K; clear hK; clear K; clear hK; clear K; refine hK _ ?_; clear hK; clear K)
        | (clear hK; clear K; clear hK; clear K; clear hK; clear K; clear hK; clear K; refine hK _ ?_; clear hK; clear K)
        | (first | refine w_region (by kernel_rfl) (by conv => { lhs; whnf }) ?_ | refine w_regionD (by kernel_rfl) (by conv => { lhs; whnf }) ?_)
        | refine aops_nil ⟨by kernel_rfl, ?_⟩
        | refine aops_nil ?_
        | (first
          | refine e_val hTT false [] rfl rfl rfl rfl rfl (by conv => { lhs; whnf; try dsimp only [List.take, List.drop, List.set, setCells, splice, List.append_eq, List.nil_append, List.cons_append, List.append_nil, List.length_cons, List.length_nil, Nat.zero_add, Nat.add_zero] }) (by conv => { lhs; dsimp only [keysP, List.map] }) (by first | exact True.intro | omega | (simp only [inR]; omega) | exact Nat.le_of_ble_eq_true rfl | (refine ⟨by omega, Nat.le_of_ble_eq_true rfl⟩) | (simp; done) | (simp; omega)) ?_
          | refine e_pick rfl (by first | exact True.intro | (intro h; first | (rw [h]; rfl) | simpa using h)) (by first | exact True.intro | (intro h; first | (rw [h]; rfl) | simpa using h)) (by first | exact pickV_or _ _ | exact pickV_and _ _ | rfl) ?_
          | refine e_grd hTT false [] 1 rfl rfl rfl rfl rfl (by conv => { lhs; whnf; try dsimp only [List.take, List.drop, List.set, setCells, splice, List.append_eq, List.nil_append, List.cons_append, List.append_nil, List.length_cons, List.length_nil, Nat.zero_add, Nat.add_zero] }) (by conv => { lhs; dsimp only [keysP, List.map] }) (by intro hg; first | exact True.intro | exact Nat.le_of_ble_eq_true rfl | (simp at hg; first | omega | (simp only [inR]; omega) | (simp; omega))) ?_
          | refine e_grd hTT false [] 0 rfl rfl rfl rfl rfl (by conv => { lhs; whnf; try dsimp only [List.take, List.drop, List.set, setCells, splice, List.append_eq, List.nil_append, List.cons_append, List.append_nil, List.length_cons, List.length_nil, Nat.zero_add, Nat.add_zero] }) (by conv => { lhs; dsimp only [keysP, List.map] }) (by intro hg; first | exact True.intro | exact Nat.le_of_ble_eq_true rfl | (simp at hg; first | omega | (simp only [inR]; omega) | (simp; omega))) ?_
          | refine e_grd hTT false [] 2 rfl rfl rfl rfl rfl (by conv => { lhs; whnf; try dsimp only [List.take, List.drop, List.set, setCells, splice, List.append_eq, List.nil_append, List.cons_append, List.append_nil, List.length_cons, List.length_nil, Nat.zero_add, Nat.add_zero] }) (by conv => { lhs; dsimp only [keysP, List.map] }) (by intro hg; first | exact True.intro | exact Nat.le_of_ble_eq_true rfl | (simp at hg; first | omega | (simp only [inR]; omega) | (simp; omega))) ?_
          | refine e_store hTT false [] rfl rfl rfl rfl rfl (by conv => { lhs; whnf }) (by conv => { lhs; try dsimp only [List.take, List.drop, List.set, setCells, splice, List.append_eq, List.nil_append, List.cons_append, List.append_nil, List.length_cons, List.length_nil, Nat.zero_add, Nat.add_zero] }) (by conv => { lhs; dsimp only [keysP, List.map] }) (by first | exact True.intro | omega | (simp only [inR]; omega) | exact Nat.le_of_ble_eq_true rfl | (refine ⟨by omega, Nat.le_of_ble_eq_true rfl⟩) | (simp; done) | (simp; omega)) ?_
          | refine e_new hTT false [] rfl rfl rfl rfl rfl (by conv => { lhs; whnf; try dsimp only [List.take, List.drop, List.set, setCells, splice, List.append_eq, List.nil_append, List.cons_append, List.append_nil, List.length_cons, List.length_nil, Nat.zero_add, Nat.add_zero] }) (by conv => { lhs; whnf }) (by conv => { lhs; try dsimp only [List.take, List.drop, List.set, setCells, splice, List.append_eq, List.nil_append, List.cons_append, List.append_nil, List.length_cons, List.length_nil, Nat.zero_add, Nat.add_zero] }) (by conv => { lhs; dsimp only [keysP, List.map] }) (by first | exact True.intro | omega | (simp only [inR]; omega) | exact Nat.le_of_ble_eq_true rfl | (refine ⟨by omega, Nat.le_of_ble_eq_true rfl⟩) | (simp; done) | (simp; omega)) ?_
          | refine e_two hTT false [] rfl rfl rfl rfl rfl (by conv => { lhs; whnf; try dsimp only [List.take, List.drop, List.set, setCells, splice, List.append_eq, List.nil_append, List.cons_append, List.append_nil, List.length_cons, List.length_nil, Nat.zero_add, Nat.add_zero] }) (by conv => { lhs; whnf }) (by conv => { lhs; try dsimp only [List.take, List.drop, List.set, setCells, splice, List.append_eq, List.nil_append, List.cons_append, List.append_nil, List.length_cons, List.length_nil, Nat.zero_add, Nat.add_zero] }) (by conv => { lhs; whnf }) (by conv => { lhs; try dsimp only [List.take, List.drop, List.set, setCells, splice, List.append_eq, List.nil_append, List.cons_append, List.append_nil, List.length_cons, List.length_nil, Nat.zero_add, Nat.add_zero] }) (by conv => { lhs; dsimp only [keysP, List.map] }) (by first | exact True.intro | omega | (simp only [inR]; omega) | exact Nat.le_of_ble_eq_true rfl | (refine ⟨by omega, Nat.le_of_ble_eq_true rfl⟩) | (simp; done) | (simp; omega)) ?_
          | refine e_pickG rfl rfl (by first | exact pickV_or _ _ | exact pickV_and _ _ | rfl) (by first | exact True.intro | exact fun h => h) (by intro h; first | exact True.intro | (intro h2; first | (rw [h2]; rfl) | simp_all)) (by intro h; first | exact True.intro | (intro h2; first | (rw [h2]; rfl) | simp_all)) ?_))
      refine e_callG 0 rfl (fun _ => works_ac) rfl rfl rfl rfl rfl rfl ?_
      repeat (first
        | (refine aw_seq_k fun K hK => ?_)
        | (refine xt_n ?_)
        | (refine xt_r ?_)
        | (refine xt_x ?_)
        | (refine xb_n ?_)
        | (refine xb_r ?_)
        | (refine xb_same ?_)
        | (refine xb_ne rfl ?_)
        | (refine aw_block ?_)
        | (refine aw_ret ?_)
        | (refine aw_exit ?_)
        | (refine aw_skip ?_)
        | (refine aw_label ?_)
        | (refine hK _ ?_; clear hK; clear K)
        | (clear hK; clear K; refine hK _ ?_; clear hK; clear K)
        | (clear hK; clear K; clear hK; clear K; refine hK _ ?_; clear hK; clear K)
        | (clear hK; clear K; clear hK; clear K; clear hK; clear K; refine hK _ ?_; clear hK; clear K)
        | (clear hK; clear K; clear hK; clear K; clear hK; clear K; clear hK; clear K; refine hK _ ?_; clear hK; clear K)
        | (first | refine w_region (by kernel_rfl) (by conv => { lhs; whnf }) ?_ | refine w_regionD (by kernel_rfl) (by conv => { lhs; whnf }) ?_)
        | refine aops_nil ⟨by kernel_rfl, ?_⟩
        | refine aops_nil ?_
        | (first
          | refine e_val hTT false [] rfl rfl rfl rfl rfl (by conv => { lhs; whnf; try dsimp only [List.take, List.drop, List.set, setCells, splice, List.append_eq, List.nil_append, List.cons_append, List.append_nil, List.length_cons, List.length_nil, Nat.zero_add, Nat.add_zero] }) (by conv => { lhs; dsimp only [keysP, List.map] }) (by first | exact True.intro | omega | (simp only [inR]; omega) | exact Nat.le_of_ble_eq_true rfl | (refine ⟨by omega, Nat.le_of_ble_eq_true rfl⟩) | (simp; done) | (simp; omega)) ?_
          | refine e_pick rfl (by first | exact True.intro | (intro h; first | (rw [h]; rfl) | simpa using h)) (by first | exact True.intro | (intro h; first | (rw [h]; rfl) | simpa using h)) (by first | exact pickV_or _ _ | exact pickV_and _ _ | rfl) ?_
          | refine e_grd hTT false [] 1 rfl rfl rfl rfl rfl (by conv => { lhs; whnf; try dsimp only [List.take, List.drop, List.set, setCells, splice, List.append_eq, List.nil_append, List.cons_append, List.append_nil, List.length_cons, List.length_nil, Nat.zero_add, Nat.add_zero] }) (by conv => { lhs; dsimp only [keysP, List.map] }) (by intro hg; first | exact True.intro | exact Nat.le_of_ble_eq_true rfl | (simp at hg; first | omega | (simp only [inR]; omega) | (simp; omega))) ?_
          | refine e_grd hTT false [] 0 rfl rfl rfl rfl rfl (by conv => { lhs; whnf; try dsimp only [List.take, List.drop, List.set, setCells, splice, List.append_eq, List.nil_append, List.cons_append, List.append_nil, List.length_cons, List.length_nil, Nat.zero_add, Nat.add_zero] }) (by conv => { lhs; dsimp only [keysP, List.map] }) (by intro hg; first | exact True.intro | exact Nat.le_of_ble_eq_true rfl | (simp at hg; first | omega | (simp only [inR]; omega) | (simp; omega))) ?_
          | refine e_grd hTT false [] 2 rfl rfl rfl rfl rfl (by conv => { lhs; whnf; try dsimp only [List.take, List.drop, List.set, setCells, splice, List.append_eq, List.nil_append, List.cons_append, List.append_nil, List.length_cons, List.length_nil, Nat.zero_add, Nat.add_zero] }) (by conv => { lhs; dsimp only [keysP, List.map] }) (by intro hg; first | exact True.intro | exact Nat.le_of_ble_eq_true rfl | (simp at hg; first | omega | (simp only [inR]; omega) | (simp; omega))) ?_
          | refine e_store hTT false [] rfl rfl rfl rfl rfl (by conv => { lhs; whnf }) (by conv => { lhs; try dsimp only [List.take, List.drop, List.set, setCells, splice, List.append_eq, List.nil_append, List.cons_append, List.append_nil, List.length_cons, List.length_nil, Nat.zero_add, Nat.add_zero] }) (by conv => { lhs; dsimp only [keysP, List.map] }) (by first | exact True.intro | omega | (simp only [inR]; omega) | exact Nat.le_of_ble_eq_true rfl | (refine ⟨by omega, Nat.le_of_ble_eq_true rfl⟩) | (simp; done) | (simp; omega)) ?_
          | refine e_new hTT false [] rfl rfl rfl rfl rfl (by conv => { lhs; whnf; try dsimp only [List.take, List.drop, List.set, setCells, splice, List.append_eq, List.nil_append, List.cons_append, List.append_nil, List.length_cons, List.length_nil, Nat.zero_add, Nat.add_zero] }) (by conv => { lhs; whnf }) (by conv => { lhs; try dsimp only [List.take, List.drop, List.set, setCells, splice, List.append_eq, List.nil_append, List.cons_append, List.append_nil, List.length_cons, List.length_nil, Nat.zero_add, Nat.add_zero] }) (by conv => { lhs; dsimp only [keysP, List.map] }) (by first | exact True.intro | omega | (simp only [inR]; omega) | exact Nat.le_of_ble_eq_true rfl | (refine ⟨by omega, Nat.le_of_ble_eq_true rfl⟩) | (simp; done) | (simp; omega)) ?_
          | refine e_two hTT false [] rfl rfl rfl rfl rfl (by conv => { lhs; whnf; try dsimp only [List.take, List.drop, List.set, setCells, splice, List.append_eq, List.nil_append, List.cons_append, List.append_nil, List.length_cons, List.length_nil, Nat.zero_add, Nat.add_zero] }) (by conv => { lhs; whnf }) (by conv => { lhs; try dsimp only [List.take, List.drop, List.set, setCells, splice, List.append_eq, List.nil_append, List.cons_append, List.append_nil, List.length_cons, List.length_nil, Nat.zero_add, Nat.add_zero] }) (by conv => { lhs; whnf }) (by conv => { lhs; try dsimp only [List.take, List.drop, List.set, setCells, splice, List.append_eq, List.nil_append, List.cons_append, List.append_nil, List.length_cons, List.length_nil, Nat.zero_add, Nat.add_zero] }) (by conv => { lhs; dsimp only [keysP, List.map] }) (by first | exact True.intro | omega | (simp only [inR]; omega) | exact Nat.le_of_ble_eq_true rfl | (refine ⟨by omega, Nat.le_of_ble_eq_true rfl⟩) | (simp; done) | (simp; omega)) ?_
          | refine e_pickG rfl rfl (by first | exact pickV_or _ _ | exact pickV_and _ _ | rfl) (by first | exact True.intro | exact fun h => h) (by intro h; first | exact True.intro | (intro h2; first | (rw [h2]; rfl) | simp_all)) (by intro h; first | exact True.intro | (intro h2; first | (rw [h2]; rfl) | simp_all)) ?_))
      refine ret_pure (.inr rfl) rfl ?_ rfl
      simp
      rfl
theorem exact_calls (A : Option Addr) (n c : Nat) (t : List Int) (B : Option Addr) (m d : Nat) (l : List Pt) (E : Option Addr) (k f : Nat) (bs : List Int) (less : Int) (w : World) (ht : IntsAt w A n t) (hn : n ≤ 4611686018427387904) (hc : n ≤ c)
    (hl : PtsAt w B m l) (hm : m ≤ 4611686018427387904) (hd : m ≤ d) (hb : SlAt (encK .u8) 1 w E k bs) (hk : k ≤ 4611686018427387904) (hf : k ≤ f) (hbb : ∀ x ∈ bs, 0 ≤ x ∧ x ≤ 255) (hle : 0 ≤ less ∧ less ≤ 255) :
    Calls Try.prog 8 #[.agg #[.slice A n c], .slice B m d, .slice E k f, .int .u8 less] w fun e w' => e = .returned (.bool true) ∧ Below w.heap.size w w' :=
  law_of_ac (exact_ac t l bs less (by rw [ht.1]; exact hn) (by rw [hl.1]; exact hm) (by rw [hb.1]; exact hk) hbb hle) (.cons (old_tip ht hc) (.cons (old_pts hl hd) (.cons (old_nums (k := .u8) hb hf) (.cons (.c _ _) .nil))))

set_option maxRecDepth 100000 in
theorem exact_lifted (os : Os) (started : os.Started) (H : Type) (enc : TypeId × Value → H) :
    ReturnsInHanded {} Try.checked os 8 .any (Rows.playExactSpec.pre6 enc Try.prog Try.f8 Rows.playExactRow.domain false) (Rows.playExactSpec.post enc Try.prog Try.f8 false true false false) := by
  refine returnsInHanded_of_change_sized (C := Try.checked) Try.own started (by kernel_rfl) Try.func8
    (ChangeSpec.witness6 (enc := enc) (C := Try.checked) false ⟨#[], #[.agg #[.slice none 0 0], .slice none 0 0, .slice none 0 0, .int .u8 0], []⟩ 8 (by kernel_rfl) (by kernel_rfl) (by kernel_rfl) (by kernel_rfl)) ?_
  intro W base args ds gs before hval0 hW _ hsz0 _
  have hval : ∀ (j : Nat) t v, Try.f8.params[j]? = some t → args[j]? = some v → Value.okWide Try.prog W .any base t v := hval0
  have hsz : (DataW.weightsEach Try.prog (Try.f8.params.toList ++ Rows.playExactSpec.plain.varTypes Try.prog) (ds ++ gs)).all (· ≤ reachBytes) = true := hsz0
  have hW' := hW
  obtain ⟨p, q, hA0, hV, rfl, hfz, hnd⟩ := hW
  have hA : DataW.TrodAll enc Try.prog W 0 (fun _ => true) true Try.f8.params.toList args.toList ds p := hA0
  rw [Try.params8] at hA hval hsz
  obtain ⟨rfl, rfl⟩ := trodVars_none hV
  obtain ⟨v0, v1, v2, v3, d0, d1, d2, d3, p0, p1, p2, p3, rfl, rfl, h0, h1, h2, h3⟩ := trodAll_quad hA
  obtain ⟨A0, n0, c0, l0, rfl, g0, e0, i0, b0⟩ := openBoxed Try.underlying24 rfl (by kernel_rfl) (by kernel_rfl) Try.underlying22 Try.underlying2 (by kernel_rfl) (of_decide_eq_true (by kernel_rfl)) (hval 0 _ _ rfl rfl) h0 (weights_at hsz (j := 0) rfl rfl)
  obtain ⟨A1, n1, c1, l1, rfl, g1, e1, i1, b1⟩ := openPairs Try.underlying25 Try.underlying29 (by kernel_rfl) rfl rfl (by kernel_rfl) (by kernel_rfl) Try.underlying2 Try.underlying2 (of_decide_eq_true (by kernel_rfl)) (hval 1 _ _ rfl rfl) h1 (weights_at hsz (j := 1) rfl rfl)
  obtain ⟨A2, n2, c2, l2, rfl, g2, e2, i2, b2⟩ := openInts Try.underlying39 Try.underlying5 (by kernel_rfl) (of_decide_eq_true (by kernel_rfl)) (hval 2 _ _ rfl rfl) h2 (weights_at hsz (j := 2) rfl rfl)
  obtain ⟨x3, rfl, b3⟩ := openOne Try.underlying5 (hval 3 _ _ rfl rfl) h3
  refine (exact_calls A0 n0 c0 l0 A1 n1 c1 l1 A2 n2 c2 l2 x3 W i0 (reach_le (Nat.le_trans g0 e0)) g0 i1 (reach_le (Nat.le_trans g1 e1)) g1 i2 (reach_le (Nat.le_trans g2 e2)) g2 (fun x hx => wf_u8 (b2 x hx)) (wf_u8 b3)).mono ?_
  rintro e W' ⟨rfl, hb⟩
  exact ⟨_, rfl, post_true (tb := 4) rfl hW' Try.laidOut (by kernel_rfl) rfl (by kernel_rfl) Try.underlying4 hb⟩

theorem exact_holds : Rows.PlayExactSaid :=
  OpenClaim.holds_of_wide 8 Try.f8 rfl rfl rfl rfl rfl rfl rfl ⟨rfl, rfl, rfl, rfl, rfl⟩ rfl rfl rfl rfl rfl (by kernel_rfl) Try.func8 (by kernel_rfl)
    (of_decide_eq_true (by kernel_rfl)) (by unfold Func.isWrapper; first | (rw [if_pos (by decide +kernel)]; kernel_rfl) | (rw [if_neg (by decide +kernel)]; exact ⟨rfl, rfl⟩))
    (fun os started H enc _ => exact_lifted os started H enc)
end Go.Proofs.Ytlhkpdnnopknnaa
