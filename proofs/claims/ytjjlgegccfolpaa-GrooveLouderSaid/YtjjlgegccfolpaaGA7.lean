/-
  Places, arcs, faults: the walks of the reference's outer functions. Conditions: told in each theorem.
-/
import Derived.Test.YtjjlgegccfolpaaGA6
namespace Go.Proofs.Ytjjlgegccfolpaa
open Go.Ab Go.RowKit Go.Dw Go.Shelf

def turnE (per : Int) : Int := if betB per 1 65536 then 0 else 3
theorem turnE_ok {per : Int} : turnE per = 0 ↔ 1 ≤ per ∧ per ≤ 65536 := by
  unfold turnE
  cases h : betB per 1 65536 <;> simp [betB] at h ⊢ <;> omega
theorem turnE_or (per : Int) : turnE per = 0 ∨ turnE per = 3 := by unfold turnE; split <;> simp
set_option maxRecDepth 100000 in
theorem turn_ac (per : Int) : AC Try.prog 53 [.i per] (.i (turnE per)) [] := by
  refine ac_intro hTT hMX (fn := Try.f53) (N := _) ⟨Try.func53, rfl, Try.ntmps53, by kernel_rfl⟩ (by simp) fun C hC hF => ?_
  refine aw_seq_k fun K hK => ?_
  refine w_region (n' := 2) (by kernel_rfl) (by kernel_rfl) ?_
  refine aops_n hTT (M := []) (n := 1) [pv (2 : Nat) (V.i (0 : Int))] (by kernel_rfl) (by kernel_rfl) True.intro ?_
  refine aops_nil ?_
  refine xt_n ?_
  refine hK _ ?_
  clear hK K
  refine aw_seq_k fun K hK => ?_
  refine aw_seq_k fun K hK => ?_
  refine w_region (n' := 3) (by kernel_rfl) (by kernel_rfl) ?_
  refine aops_n hTT (M := []) (n := 1) [pv (3 : Nat) (V.i per)] (by kernel_rfl) (by kernel_rfl) True.intro ?_
  refine e_call (first := []) (caps := []) (within3_ac per 1 65536) (by kernel_rfl) (by kernel_rfl) (by kernel_rfl) (by kernel_rfl) (by kernel_rfl) ?_
  refine aops_n hTT (M := []) (n := 1) [pv (5 : Nat) (V.b !betB per (1 : Int) (65536 : Int))] (by kernel_rfl) (by kernel_rfl) True.intro ?_
  refine aops_nil ?_
  refine xt_n ?_
  refine hK _ ?_
  clear hK K
  refine w_cond (t := !betB per (1 : Int) (65536 : Int)) (by kernel_rfl) (fun c1 => ?_) (fun c1 => ?_)
  · refine aw_seq_k fun K hK => ?_
    refine w_region (n' := 4) (by kernel_rfl) (by kernel_rfl) ?_
    refine aops_n hTT (M := []) (n := 1) [pv (2 : Nat) (V.i (3 : Int))] (by kernel_rfl) (by kernel_rfl) True.intro ?_
    refine aops_nil ?_
    refine xt_n ?_
    refine hK _ ?_
    clear hK K
    refine aw_ret ?_
    refine xt_r ?_
    rw [turnE, if_neg (by simpa using c1)]
    refine ret_pure (v' := V.i (3 : Int)) (.inr rfl) (by kernel_rfl) (by kernel_rfl) (by kernel_rfl)
  · refine aw_skip ?_
    refine xt_n ?_
    refine hK _ ?_
    clear hK K
    refine aw_seq_k fun K hK => ?_
    refine w_region (n' := 4) (by kernel_rfl) (by kernel_rfl) ?_
    refine aops_n hTT (M := []) (n := 1) [pv (2 : Nat) (V.i (0 : Int))] (by kernel_rfl) (by kernel_rfl) True.intro ?_
    refine aops_nil ?_
    refine xt_n ?_
    refine hK _ ?_
    clear hK K
    refine aw_ret ?_
    rw [turnE, if_pos (by simpa using c1)]
    refine ret_pure (v' := V.i (0 : Int)) (.inr rfl) (by kernel_rfl) (by kernel_rfl) (by kernel_rfl)
theorem plcE_turn {r per : Int} : plcE r per = if betB r 0 4194304 then turnE per else 3 := by
  unfold plcE turnE
  cases betB r 0 4194304 <;> simp
theorem plcE_or (r per : Int) : plcE r per = 0 ∨ plcE r per = 3 := by unfold plcE; split <;> simp
set_option maxRecDepth 100000 in
theorem place_ac (r per : Int) : AC Try.prog 60 [.i r, .i per] (.i (plcE r per)) [] := by
  refine ac_intro hTT hMX (fn := Try.f60) (N := _) ⟨Try.func60, rfl, Try.ntmps60, by kernel_rfl⟩ (by simp) fun C hC hF => ?_
  refine aw_seq_k fun K hK => ?_
  refine w_region (n' := 2) (by kernel_rfl) (by kernel_rfl) ?_
  refine aops_n hTT (M := []) (n := 1) [pv (4 : Nat) (V.i (0 : Int))] (by kernel_rfl) (by kernel_rfl) True.intro ?_
  refine aops_nil ?_
  refine xt_n ?_
  refine hK _ ?_
  clear hK K
  refine aw_seq_k fun K hK => ?_
  refine aw_seq_k fun K hK => ?_
  refine w_region (n' := 3) (by kernel_rfl) (by kernel_rfl) ?_
  refine aops_n hTT (M := []) (n := 1) [pv (5 : Nat) (V.i r)] (by kernel_rfl) (by kernel_rfl) True.intro ?_
  refine e_call (first := []) (caps := []) (within3_ac r 0 4194304) (by kernel_rfl) (by kernel_rfl) (by kernel_rfl) (by kernel_rfl) (by kernel_rfl) ?_
  refine aops_n hTT (M := []) (n := 1) [pv (7 : Nat) (V.b !betB r (0 : Int) (4194304 : Int))] (by kernel_rfl) (by kernel_rfl) True.intro ?_
  refine aops_nil ?_
  refine xt_n ?_
  refine hK _ ?_
  clear hK K
  refine w_cond (t := !betB r (0 : Int) (4194304 : Int)) (by kernel_rfl) (fun c1 => ?_) (fun c1 => ?_)
  · refine aw_seq_k fun K hK => ?_
    refine w_region (n' := 4) (by kernel_rfl) (by kernel_rfl) ?_
    refine aops_n hTT (M := []) (n := 1) [pv (4 : Nat) (V.i (3 : Int))] (by kernel_rfl) (by kernel_rfl) True.intro ?_
    refine aops_nil ?_
    refine xt_n ?_
    refine hK _ ?_
    clear hK K
    refine aw_ret ?_
    refine xt_r ?_
    rw [plcE_turn, if_neg (by simpa using c1)]
    refine ret_pure (v' := V.i (3 : Int)) (.inr rfl) (by kernel_rfl) (by kernel_rfl) (by kernel_rfl)
  · refine aw_skip ?_
    refine xt_n ?_
    refine hK _ ?_
    clear hK K
    refine aw_seq_k fun K hK => ?_
    refine w_region (n' := 4) (by kernel_rfl) (by kernel_rfl) ?_
    refine aops_n hTT (M := []) (n := 1) [pv (8 : Nat) (V.i per)] (by kernel_rfl) (by kernel_rfl) True.intro ?_
    refine e_call (first := []) (caps := []) (turn_ac per) (by kernel_rfl) (by kernel_rfl) (by kernel_rfl) (by kernel_rfl) (by kernel_rfl) ?_
    refine aops_n hTT (M := []) (n := 1) [pv (4 : Nat) (V.i (turnE per))] (by kernel_rfl) (by kernel_rfl) True.intro ?_
    refine aops_nil ?_
    refine xt_n ?_
    refine hK _ ?_
    clear hK K
    refine aw_ret ?_
    rw [plcE_turn, if_pos (by simpa using c1)]
    refine ret_pure (v' := V.i (turnE per)) (.inr rfl) (by kernel_rfl) (by kernel_rfl) (by kernel_rfl)
/-! ### the least number from which on something holds -/
structure IsFst (p : Int → Bool) (M F : Int) : Prop where
  b : 0 ≤ F ∧ F ≤ M
  lo : ∀ n, 0 ≤ n → n < F → p n = false
  hi : ∀ n, F ≤ n → n < M → p n = true
theorem fst_exists {p : Int → Bool} {M : Int} (hM : 0 ≤ M) (hm : ∀ m n, 0 ≤ m → m ≤ n → n < M → p m = true → p n = true) : ∃ F, IsFst p M F := by
  have key : ∀ k : Nat, (k : Int) ≤ M → ∃ F, (0 ≤ F ∧ F ≤ (k : Int)) ∧ (∀ n, 0 ≤ n → n < F → p n = false) ∧ ∀ n, F ≤ n → n < (k : Int) → p n = true := by
    intro k
    induction k with
    | zero => exact fun _ => ⟨0, by omega, fun n h1 h2 => by omega, fun n h1 h2 => by omega⟩
    | succ k ih =>
      intro hk
      obtain ⟨F, h1, h2, h3⟩ := ih (by omega)
      cases hp : p k with
      | true =>
        refine ⟨F, by omega, h2, fun n a b => ?_⟩
        by_cases he : n = k
        · subst he; exact hp
        · exact h3 n a (by omega)
      | false =>
        refine ⟨(k : Int) + 1, by omega, fun n a b => ?_, fun n a b => by omega⟩
        cases hn : p n with
        | false => rfl
        | true =>
          have := hm n k a (by omega) (by omega) hn
          rw [hp] at this; cases this
  obtain ⟨F, h1, h2, h3⟩ := key M.toNat (by omega)
  exact ⟨F, by omega, h2, fun n a b => h3 n a (by omega)⟩
theorem IsFst.eq {p : Int → Bool} {M F G : Int} (h : IsFst p M F) (k : IsFst p M G) : F = G := by
  rcases Int.lt_trichotomy F G with hl | hl | hl
  · have a := h.hi F (Int.le_refl _) (by have := k.b; omega)
    have b := k.lo F h.b.1 hl
    rw [a] at b; cases b
  · exact hl
  · have a := k.hi G (Int.le_refl _) (by have := h.b; omega)
    have b := h.lo G k.b.1 hl
    rw [a] at b; cases b
theorem IsFst.iff {p : Int → Bool} {M F n : Int} (h : IsFst p M F) (h0 : 0 ≤ n) (hM : n < M) : p n = true ↔ F ≤ n := by
  constructor
  · intro hp
    refine Int.not_lt.1 fun hl => ?_
    rw [h.lo n h0 hl] at hp; cases hp
  · exact fun hl => h.hi n hl hM
end Go.Proofs.Ytjjlgegccfolpaa
