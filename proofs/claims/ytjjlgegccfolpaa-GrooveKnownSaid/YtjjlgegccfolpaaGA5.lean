/-
  The fault of a groove: the walks of the program. Conditions: told in each theorem.
-/
import Derived.Test.YtjjlgegccfolpaaGA4
namespace Go.Proofs.Ytjjlgegccfolpaa
open Go.Ab Go.RowKit Go.Dw Go.Shelf

theorem nearT_idf (u : V) (b : Option Pt) (h : Pt) (a : Option Pt) (hu : u.idf = true) : V.idfL [u, gNearV b h a] = true := by
  cases b <;> cases a <;> simp [V.idfL, V.idf, gNearV, optP, hu]
def gRule (c : Cut) (l : List Pt) (r per : Int) (i : Nat) : Int := ruleP c r per (nb l i) (gp l i) (na l i)
theorem ruleP_bd (c : Cut) (r per : Int) (b : Option Pt) (h : Pt) (a : Option Pt) : 0 ≤ ruleP c r per b h a ∧ ruleP c r per b h a ≤ 5 := by
  unfold ruleP
  split
  · omega
  split
  · omega
  split
  · omega
  split
  · omega
  split <;> omega
theorem gRule_bd (c : Cut) (l : List Pt) (r per : Int) (i : Nat) : 0 ≤ gRule c l r per i ∧ gRule c l r per i ≤ 5 := ruleP_bd _ _ _ _ _ _
def faultN (c : Cut) (l : List Pt) (r per : Int) : Option Nat := (List.range l.length).find? fun i => decide (0 < gRule c l r per i)
def faultR (c : Cut) (l : List Pt) (r per : Int) : Int × Int := match faultN c l r per with
  | some i => ((i : Int), gRule c l r per i)
  | none => (0, 0)
theorem faultN_none {c : Cut} {l : List Pt} {r per : Int} : faultN c l r per = none ↔ ∀ i, i < l.length → gRule c l r per i = 0 := by
  unfold faultN
  rw [List.find?_eq_none]
  constructor
  · intro h i hi
    have := h i (by simpa using hi)
    have := (gRule_bd c l r per i).1
    simp at *
    omega
  · intro h i hi
    rw [h i (by simpa using hi)]
    decide
theorem faultN_some {c : Cut} {l : List Pt} {r per : Int} {i : Nat} : faultN c l r per = some i ↔ i < l.length ∧ 0 < gRule c l r per i ∧ ∀ j, j < i → gRule c l r per j = 0 := by
  unfold faultN
  rw [List.find?_range_eq_some]
  constructor
  · rintro ⟨h1, h2, h3⟩
    refine ⟨by simpa using h2, by simpa using h1, fun j hj => ?_⟩
    have := h3 j hj
    have := (gRule_bd c l r per j).1
    simp at *
    omega
  · rintro ⟨h1, h2, h3⟩
    exact ⟨by simpa using h2, by simpa using h1, fun j hj => by rw [h3 j hj]; decide⟩
theorem faultR_none {c : Cut} {l : List Pt} {r per : Int} (h : ∀ i, i < l.length → gRule c l r per i = 0) : faultR c l r per = (0, 0) := by rw [faultR, faultN_none.2 h]
theorem faultR_some {c : Cut} {l : List Pt} {r per : Int} {i : Nat} (h1 : i < l.length) (h2 : 0 < gRule c l r per i) (h3 : ∀ j, j < i → gRule c l r per j = 0) : faultR c l r per = ((i : Int), gRule c l r per i) := by rw [faultR, faultN_some.2 ⟨h1, h2, h3⟩]
theorem nb_Ed {l : List Pt} (hl : ∀ k, k < l.length → gE (gp l k) = true) (i : Nat) : EdO (nb l i) := by
  unfold nb
  split
  · by_cases h : i - 1 < l.length
    · exact gE_iff.1 (hl _ h)
    · rw [gp_out (by omega)]; show Ed (0, 0); unfold Ed; simp
  · trivial
theorem na_Ed {l : List Pt} (hl : ∀ k, k < l.length → gE (gp l k) = true) (i : Nat) : EdO (na l i) := by
  unfold na
  split
  · exact gE_iff.1 (hl _ (by assumption))
  · trivial
set_option maxRecDepth 100000 in
theorem gArc0_ac (r per : Int) (hp : Plc r per) : AC Try.prog 59 [.ptr [.i 0, .i 0, .i 0, .i 0, .i 0, .i 0, .i 0, .nil, .i r, .i per]] (.i (gArc r per)) [] := by
  obtain ⟨w1, w2, w3, w4⟩ := way_bd hp
  obtain ⟨hr, hq⟩ := hp
  refine ac_intro hTT hMX (fn := Try.f59) (N := _) ⟨Try.func59, rfl, Try.ntmps59, by kernel_rfl⟩ (by simp) fun C hC hF => ?_
  refine aw_seq_k fun K hK => ?_
  refine w_region (n' := 2) (by kernel_rfl) (by kernel_rfl) ?_
  refine aops_n hTT (M := []) (n := 1) [pv (2 : Nat) (V.i (0 : Int))] (by kernel_rfl) (by kernel_rfl) True.intro ?_
  refine aops_nil ?_
  refine xt_n ?_
  refine hK _ ?_
  clear hK K
  refine aw_seq_k fun K hK => ?_
  refine w_regionD (n' := 3) (by kernel_rfl) (by kernel_rfl) ?_
  refine aops_n hTT (M := []) (n := 12) [pv (5 : Nat) (V.ptr [V.i (0 : Int), V.i (0 : Int), V.i (0 : Int), V.i (0 : Int), V.i (0 : Int), V.i (0 : Int), V.i (0 : Int), V.nil, V.i r, V.i per]), pv (6 : Nat) (V.ptr [V.i (0 : Int), V.i (0 : Int), V.i (0 : Int), V.i (0 : Int), V.i (0 : Int), V.i (0 : Int), V.i (0 : Int), V.nil, V.i r, V.i per]), pv (7 : Nat) (V.ptr [V.i r, V.i per]), pv (8 : Nat) (V.i r), pc (9 : Nat) ((-9223372036854775808 : Int) ≤ (710 : Int) * r ∧ (710 : Int) * r ≤ (9223372036854775807 : Int)) (V.i ((710 : Int) * r)), pv (10 : Nat) (V.ptr [V.i (0 : Int), V.i (0 : Int), V.i (0 : Int), V.i (0 : Int), V.i (0 : Int), V.i (0 : Int), V.i (0 : Int), V.nil, V.i r, V.i per]), pv (11 : Nat) (V.ptr [V.i (0 : Int), V.i (0 : Int), V.i (0 : Int), V.i (0 : Int), V.i (0 : Int), V.i (0 : Int), V.i (0 : Int), V.nil, V.i r, V.i per]), pv (12 : Nat) (V.ptr [V.i per]), pv (13 : Nat) (V.i per), pc (14 : Nat) ((-9223372036854775808 : Int) ≤ (113 : Int) * per ∧ (113 : Int) * per ≤ (9223372036854775807 : Int)) (V.i ((113 : Int) * per)), pv (3 : Nat) (V.i ((710 : Int) * r)), pv (4 : Nat) (V.i ((113 : Int) * per))] (by kernel_rfl) (by kernel_rfl) ⟨(by omega), (by omega), True.intro⟩ ?_
  refine aops_nil ⟨by kernel_rfl, ?_⟩
  refine xt_n ?_
  refine hK _ ?_
  clear hK K
  refine aw_seq_k fun K hK => ?_
  refine w_region (n' := 4) (by kernel_rfl) (by kernel_rfl) ?_
  refine aops_n hTT (M := []) (n := 8) [pv (15 : Nat) (V.i ((710 : Int) * r)), pv (16 : Nat) (V.i ((710 : Int) * r)), pc (17 : Nat) ((-9223372036854775808 : Int) ≤ (710 : Int) * r * ((710 : Int) * r) ∧ (710 : Int) * r * ((710 : Int) * r) ≤ (9223372036854775807 : Int)) (V.i ((710 : Int) * r * ((710 : Int) * r))), pv (18 : Nat) (V.i ((113 : Int) * per)), pv (19 : Nat) (V.i ((113 : Int) * per)), pc (20 : Nat) ((-9223372036854775808 : Int) ≤ (113 : Int) * per * ((113 : Int) * per) ∧ (113 : Int) * per * ((113 : Int) * per) ≤ (9223372036854775807 : Int)) (V.i ((113 : Int) * per * ((113 : Int) * per))), pc (21 : Nat) ((0 : Int) < (113 : Int) * per * ((113 : Int) * per) ∧ (-9223372036854775808 : Int) ≤ (710 : Int) * r * ((710 : Int) * r) ∧ (710 : Int) * r * ((710 : Int) * r) ≤ (9223372036854775807 : Int)) (V.i (Int.tdiv ((710 : Int) * r * ((710 : Int) * r)) ((113 : Int) * per * ((113 : Int) * per)))), pv (2 : Nat) (V.i (Int.tdiv ((710 : Int) * r * ((710 : Int) * r)) ((113 : Int) * per * ((113 : Int) * per))))] (by kernel_rfl) (by kernel_rfl) ⟨(by omega), (by omega), ⟨(by omega), (by omega)⟩, True.intro⟩ ?_
  refine aops_nil ?_
  refine xt_n ?_
  refine hK _ ?_
  clear hK K
  refine aw_ret ?_
  refine ret_pure (v' := V.i (Int.tdiv ((710 : Int) * r * ((710 : Int) * r)) ((113 : Int) * per * ((113 : Int) * per)))) (.inr rfl) (by kernel_rfl) (by kernel_rfl) (by kernel_rfl)
set_option maxRecDepth 100000 in
theorem all_ac (u : List V) (hu : V.idfL u = true) : AC Try.prog 75 [.ptr u] (.fn (.func 86) [] [.ptr [.ptr u]]) [] := by
  refine ac_intro hTT hMX (fn := Try.f75) (N := _) ⟨Try.func75, rfl, Try.ntmps75, by kernel_rfl⟩ (by simp) fun C hC hF => ?_
  refine aw_seq_k fun K hK => ?_
  refine w_region (n' := 2) (by kernel_rfl) (by kernel_rfl) ?_
  refine aops_n hTT (M := []) (n := 2) [pv (1 : Nat) (V.ptr [V.ptr u]), pv (2 : Nat) (V.c Value.nilFunc)] (by kernel_rfl) (by kernel_rfl) True.intro ?_
  refine aops_nil ?_
  refine xt_n ?_
  refine hK _ ?_
  clear hK K
  refine aw_seq_k fun K hK => ?_
  refine w_region (n' := 3) (by kernel_rfl) (by kernel_rfl) ?_
  refine aops_n hTT (M := []) (n := 2) [pv (3 : Nat) (V.fn (Fn.func (86 : Nat)) [] [V.ptr [V.ptr u]]), pv (2 : Nat) (V.fn (Fn.func (86 : Nat)) [] [V.ptr [V.ptr u]])] (by kernel_rfl) (by kernel_rfl) True.intro ?_
  refine aops_nil ?_
  refine xt_n ?_
  refine hK _ ?_
  clear hK K
  refine aw_ret ?_
  refine ret_pure (v' := V.fn (Fn.func (86 : Nat)) [] [V.ptr [V.ptr u]]) (.inr rfl) (by kernel_rfl) (by kernel_rfl) (by kernel_rfl)
set_option maxRecDepth 100000 in
theorem fault_ac (c : Cut) (l : List Pt) (r per : Int) (hc : cutE c = 0) (hl : gChk l = 0) (hp : Plc r per) : AC Try.prog 51 [.ptr (trC c l r per)] (.tup [.i (faultR c l r per).1, .i (faultR c l r per).2]) [] := by
  obtain ⟨l1, l2⟩ := gChk_ok.1 hl
  refine ac_intro hTT hMX (fn := Try.f51) (N := _) ⟨Try.func51, rfl, Try.ntmps51, by kernel_rfl⟩ (by simp) fun C hC hF => ?_
  refine aw_seq_k fun K hK => ?_
  refine w_region (n' := 2) (by kernel_rfl) (by kernel_rfl) ?_
  refine aops_n hTT (M := []) (n := 3) [pv (1 : Nat) (V.ptr [V.ptr [V.i (Cut.half c), V.i (Cut.gain c), V.i (Cut.thin c), V.i (Cut.wide c), V.i (Cut.slope c), V.i (Cut.jerk c), V.i (Cut.sty c), V.sl (2 : Nat) (List.length l) fun (k : Nat) => [V.i (Prod.fst (gp l k)), V.i (Prod.snd (gp l k))], V.i r, V.i per]]), pn (2 : Nat) (V.ref (100002 : Nat) (0 : Nat)) (100002 : Nat) (Ob.box (3 : Nat) [V.i (0 : Int)]), pn (3 : Nat) (V.ref (100003 : Nat) (0 : Nat)) (100003 : Nat) (Ob.box (3 : Nat) [V.i (0 : Int)])] (by kernel_rfl) (by kernel_rfl) True.intro ?_
  refine aops_nil ?_
  refine xt_n ?_
  refine hK _ ?_
  clear hK K
  refine aw_seq_k fun K hK => ?_
  refine aw_seq_k fun K hK => ?_
  refine w_region (n' := 3) (by kernel_rfl) (by kernel_rfl) ?_
  refine aops_n hTT (M := []) (n := 1) [pv (7 : Nat) (V.ptr [V.i (Cut.half c), V.i (Cut.gain c), V.i (Cut.thin c), V.i (Cut.wide c), V.i (Cut.slope c), V.i (Cut.jerk c), V.i (Cut.sty c), V.sl (2 : Nat) (List.length l) fun (k : Nat) => [V.i (Prod.fst (gp l k)), V.i (Prod.snd (gp l k))], V.i r, V.i per])] (by kernel_rfl) (by kernel_rfl) True.intro ?_
  refine e_call (first := []) (caps := []) (all_ac (trC c l r per) (by kernel_rfl)) (by kernel_rfl) (by kernel_rfl) (by kernel_rfl) (by kernel_rfl) (by kernel_rfl) ?_
  refine aops_nil ?_
  refine xt_n ?_
  refine hK _ ?_
  clear hK K
  refine aw_block ?_
  refine w_rangeI (caps := [V.ptr [V.ptr [V.i (Cut.half c), V.i (Cut.gain c), V.i (Cut.thin c), V.i (Cut.wide c), V.i (Cut.slope c), V.i (Cut.jerk c), V.i (Cut.sty c), V.sl (2 : Nat) (List.length l) fun (k : Nat) => [V.i (Prod.fst (gp l k)), V.i (Prod.snd (gp l k))], V.i r, V.i per]]]) hF hC ((all_it c l r per l1)) (by kernel_rfl) (by kernel_rfl) ?_ (by kernel_rfl) [500, 501] [(500, 100002), (501, 100003)] [(1, .ptr [.ptr (trC c l r per)]), (2, .ref 500 0), (3, .ref 501 0)] (fun k => ∀ j, j < k → gRule c l r per j = 0) (fun _ => [.box 3 [.i 0], .box 3 [.i 0]]) (fun k e sx => e = .ret ∧ sx = [.box 3 [.i k], .box 3 [.i (gRule c l r per k)]] ∧ 0 < gRule c l r per k ∧ ∀ j, j < k → gRule c l r per j = 0) ?_ (by kernel_rfl) (by kernel_rfl) (by kernel_rfl) (.cons (by kernel_rfl) (.cons (by kernel_rfl) (.cons (by kernel_rfl) .nil))) (.cons ⟨Ob.box (3 : Nat) [V.i (0 : Int)], (by kernel_rfl), .box (by kernel_rfl)⟩ (.cons ⟨Ob.box (3 : Nat) [V.i (0 : Int)], (by kernel_rfl), .box (by kernel_rfl)⟩ .nil)) (by kernel_rfl) ?_ ?_ ?_ ?_ ?_
  · intro x hx
    simp only [allV, List.mem_map] at hx
    obtain ⟨j, _, rfl⟩ := hx
    rfl
  · intro j hj
    omega
  · intro j o ho
    simp at ho
    rcases ho with rfl | rfl <;> rfl
  · rintro k e sx ⟨_, rfl, _⟩ o ho
    simp at ho
    rcases ho with rfl | rfl <;> rfl
  · rintro C' ⟨lx, hF'⟩ k x hx hok
    have hk : k < l.length := by have := (List.getElem?_eq_some_iff.1 hx).1; rwa [allV_len] at this
    rw [allV_get hk] at hx
    injection hx with hx
    subst hx
    refine aw_seq_k fun K hK => ?_
    refine w_region (n' := 2) (by kernel_rfl) (by kernel_rfl) ?_
    refine aops_n hTT (M := []) (n := 1) [pv (4 : Nat) (V.i (↑k : Int))] (by kernel_rfl) (by kernel_rfl) True.intro ?_
    refine aops_nil ?_
    refine xt_n ?_
    refine hK _ ?_
    clear hK K
    refine w_region (n' := 3) (by kernel_rfl) (by kernel_rfl) ?_
    refine aops_n hTT (M := []) (n := 2) [pn (5 : Nat) (V.ref (200005 : Nat) (0 : Nat)) (200005 : Nat) (Ob.box (86 : Nat) [V.c (Value.pointer none), V.c (Value.pointer none), V.c (Value.pointer none)]), pw ((0 : Nat) + (3 : Nat) ≤ (3 : Nat)) (200005 : Nat) (Ob.box (86 : Nat) [optP (nb l k), V.ptr [V.i (Prod.fst (gp l k)), V.i (Prod.snd (gp l k))], optP (na l k)])] (by kernel_rfl) (by kernel_rfl) ⟨(by omega), True.intro⟩ ?_
    refine aops_nil ?_
    refine xt_n ?_
    refine aw_block ?_
    refine aw_seq_k fun K hK => ?_
    refine w_region (n' := 4) (by kernel_rfl) (by kernel_rfl) ?_
    refine aops_n hTT (M := []) (n := 2) [pv (11 : Nat) (V.ptr [V.i (Cut.half c), V.i (Cut.gain c), V.i (Cut.thin c), V.i (Cut.wide c), V.i (Cut.slope c), V.i (Cut.jerk c), V.i (Cut.sty c), V.sl (2 : Nat) (List.length l) fun (k : Nat) => [V.i (Prod.fst (gp l k)), V.i (Prod.snd (gp l k))], V.i r, V.i per]), pc (12 : Nat) ((0 : Nat) ≤ (3 : Nat)) (V.agg [optP (nb l k), V.ptr [V.i (Prod.fst (gp l k)), V.i (Prod.snd (gp l k))], optP (na l k)])] (by kernel_rfl) (by kernel_rfl) ⟨(by omega), True.intro⟩ ?_
    refine e_call (first := []) (caps := []) (rule_ac c l r per (nb l k) (gp l k) (na l k) hc hp (nb_Ed l2 k) (gE_iff.1 (l2 k hk)) (na_Ed l2 k)) (by kernel_rfl) (by kernel_rfl) ?_ (by kernel_rfl) (by kernel_rfl) ?_
    · exact nearT_idf _ _ _ _ (by kernel_rfl)
    refine aops_n hTT (M := []) (n := 1) [pv (6 : Nat) (V.i (ruleP c r per (nb l k) (gp l k) (na l k)))] (by kernel_rfl) (by kernel_rfl) True.intro ?_
    refine aops_nil ?_
    refine xt_n ?_
    refine hK _ ?_
    clear hK K
    refine aw_seq_k fun K hK => ?_
    refine w_region (n' := 5) (by kernel_rfl) (by kernel_rfl) ?_
    refine aops_n hTT (M := []) (n := 2) [pv (14 : Nat) (V.i (ruleP c r per (nb l k) (gp l k) (na l k))), pv (15 : Nat) (V.b (decide ((0 : Int) < ruleP c r per (nb l k) (gp l k) (na l k))))] (by kernel_rfl) (by kernel_rfl) True.intro ?_
    refine aops_nil ?_
    refine xt_n ?_
    refine hK _ ?_
    clear hK K
    refine w_cond (t := decide ((0 : Int) < ruleP c r per (nb l k) (gp l k) (na l k))) (by kernel_rfl) (fun c1 => ?_) (fun c1 => ?_)
    · have h1 : 0 < gRule c l r per k := by simp at c1; exact c1
      refine aw_seq_k fun K hK => ?_
      refine w_region (n' := 6) (by kernel_rfl) (by kernel_rfl) ?_
      refine aops_n hTT (M := []) (n := 4) [pv (16 : Nat) (V.i (↑k : Int)), pv (17 : Nat) (V.i (ruleP c r per (nb l k) (gp l k) (na l k))), pw ((0 : Nat) + (1 : Nat) ≤ (1 : Nat)) (500 : Nat) (Ob.box (3 : Nat) [V.i (↑k : Int)]), pw ((0 : Nat) + (1 : Nat) ≤ (1 : Nat)) (501 : Nat) (Ob.box (3 : Nat) [V.i (ruleP c r per (nb l k) (gp l k) (na l k))])] (by kernel_rfl) (by kernel_rfl) ⟨(by omega), (by omega), True.intro⟩ ?_
      refine aops_nil ?_
      refine xt_n ?_
      refine hK _ ?_
      clear hK K
      refine aw_ret ?_
      refine xb_r ?_
      refine ⟨_, ⟨rfl, rfl, h1, hok⟩, ?_⟩
      refine le_ren (sl := [(500, Ob.box (3 : Nat) [V.i (↑k : Int)]), (501, Ob.box (3 : Nat) [V.i (gRule c l r per k)])]) [] .nil (.cons ⟨Ob.box (3 : Nat) [V.i (↑k : Int)], (by kernel_rfl), .box (by kernel_rfl)⟩ (.cons ⟨Ob.box (3 : Nat) [V.i (ruleP c r per (nb l k) (gp l k) (na l k))], (by kernel_rfl), .box (by kernel_rfl)⟩ .nil)) (by kernel_rfl) (by kernel_rfl)
    · have h1 : gRule c l r per k ≤ 0 := by simp at c1; exact c1
      have h2 := (gRule_bd c l r per k).1
      refine aw_skip ?_
      refine xb_n ?_
      refine ⟨fun j hj => ?_, ?_⟩
      · rcases Nat.lt_or_ge j k with h | h
        · exact hok j h
        · obtain rfl : j = k := by omega
          omega
      · refine le_ren (sl := [(500, Ob.box (3 : Nat) [V.i (0 : Int)]), (501, Ob.box (3 : Nat) [V.i (0 : Int)])]) [] .nil (.cons ⟨Ob.box (3 : Nat) [V.i (0 : Int)], (by kernel_rfl), .box (by kernel_rfl)⟩ (.cons ⟨Ob.box (3 : Nat) [V.i (0 : Int)], (by kernel_rfl), .box (by kernel_rfl)⟩ .nil)) (by kernel_rfl) (by kernel_rfl)
  · intro hok
    rw [allV_len] at hok
    refine xb_n ?_
    refine xt_n ?_
    refine hK _ ?_
    clear hK K
    refine aw_seq_k fun K hK => ?_
    refine w_region (n' := 2) (by kernel_rfl) (by kernel_rfl) ?_
    refine aops_n hTT (M := []) (n := 2) [pw ((0 : Nat) + (1 : Nat) ≤ (1 : Nat)) (500 : Nat) (Ob.box (3 : Nat) [V.i (0 : Int)]), pw ((0 : Nat) + (1 : Nat) ≤ (1 : Nat)) (501 : Nat) (Ob.box (3 : Nat) [V.i (0 : Int)])] (by kernel_rfl) (by kernel_rfl) ⟨(by omega), (by omega), True.intro⟩ ?_
    refine aops_nil ?_
    refine xt_n ?_
    refine hK _ ?_
    clear hK K
    refine aw_ret ?_
    refine ret_of_le (le_freezeBox (t := (3 : Nat)) (cs := [V.i (0 : Int)]) 500 (by kernel_rfl) (by kernel_rfl)) ?_
    refine ret_of_le (le_freezeBox (t := (3 : Nat)) (cs := [V.i (0 : Int)]) 501 (by kernel_rfl) (by kernel_rfl)) ?_
    rw [faultR_none hok]
    refine ret_pure (v' := V.tup [V.i (0 : Int), V.i (0 : Int)]) (.inr rfl) (by kernel_rfl) (by kernel_rfl) (by kernel_rfl)
  · rintro k e sx hk ⟨rfl, rfl, h1, h2⟩
    rw [allV_len] at hk
    refine aw_ret ?_
    refine xb_r ?_
    refine xt_r ?_
    refine ret_of_le (le_freezeBox (t := (3 : Nat)) (cs := [V.i (↑k : Int)]) 500 (by kernel_rfl) (by kernel_rfl)) ?_
    refine ret_of_le (le_freezeBox (t := (3 : Nat)) (cs := [V.i (gRule c l r per k)]) 501 (by kernel_rfl) (by kernel_rfl)) ?_
    rw [faultR_some hk h1 h2]
    refine ret_pure (v' := V.tup [V.i (↑k : Int), V.i (gRule c l r per k)]) (.inr rfl) (by kernel_rfl) (by kernel_rfl) (by kernel_rfl)
/-! ### which grooves, which places -/
def plcE (r per : Int) : Int := if betB r 0 4194304 && betB per 1 65536 then 0 else 3
theorem plcE_ok {r per : Int} : plcE r per = 0 ↔ Plc r per := by
  unfold plcE
  by_cases h : (betB r 0 4194304 && betB per 1 65536) = true
  · rw [if_pos h]
    simp [betB] at h
    exact ⟨fun _ => ⟨by omega, by omega⟩, fun _ => rfl⟩
  · rw [if_neg h]
    refine ⟨fun e => (by cases e), fun hp => ?_⟩
    obtain ⟨h1, h2⟩ := hp
    exact absurd (by simp [betB]; omega) h
set_option maxRecDepth 100000 in
theorem checkPlace_ac (r per : Int) : AC Try.prog 48 [.i r, .i per] (.i (plcE r per)) [] := by
  refine ac_intro hTT hMX (fn := Try.f48) (N := _) ⟨Try.func48, rfl, Try.ntmps48, by kernel_rfl⟩ (by simp) fun C hC hF => ?_
  refine aw_seq_k fun K hK => ?_
  refine w_region (n' := 2) (by kernel_rfl) (by kernel_rfl) ?_
  refine aops_n hTT (M := []) (n := 1) [pv (4 : Nat) (V.i (0 : Int))] (by kernel_rfl) (by kernel_rfl) True.intro ?_
  refine aops_nil ?_
  refine xt_n ?_
  refine hK _ ?_
  clear hK K
  refine aw_seq_k fun K hK => ?_
  refine aw_seq_k fun K hK => ?_
  refine w_region (n' := 3) (by kernel_rfl) (by kernel_rfl) ?_
  refine aops_n hTT (M := []) (n := 1) [pv (5 : Nat) (V.i r)] (by kernel_rfl) (by kernel_rfl) True.intro ?_
  refine e_call (first := []) (caps := []) (between_ac r 0 4194304) (by kernel_rfl) (by kernel_rfl) (by kernel_rfl) (by kernel_rfl) (by kernel_rfl) ?_
  refine aops_n hTT (M := []) (n := 3) [pv (7 : Nat) (V.b !betB r (0 : Int) (4194304 : Int)), pv (8 : Nat) (V.b !betB r (0 : Int) (4194304 : Int)), pc (9 : Nat) ((True ∧ True) ∧ (((!betB r (0 : Int) (4194304 : Int)) == false) = true → True)) (V.gd ((!betB r (0 : Int) (4194304 : Int)) == false) (V.i per))] (by kernel_rfl) (by kernel_rfl) ⟨⟨⟨True.intro, True.intro⟩, (fun _ => True.intro)⟩, True.intro⟩ ?_
  refine e_callG 1 (g := (!betB r (0 : Int) (4194304 : Int)) == false) (first := []) (caps := []) (by kernel_rfl) (fun h => between_ac per 1 65536) (by kernel_rfl) (by kernel_rfl) (by kernel_rfl) (by kernel_rfl) (by kernel_rfl) (by kernel_rfl) ?_
  refine aops_n hTT (M := []) (n := 2) [pc (11 : Nat) (((((!betB r (0 : Int) (4194304 : Int)) == false) = true → ((!betB r (0 : Int) (4194304 : Int)) == false) = true) ∧ True) ∧ (((!betB r (0 : Int) (4194304 : Int)) == false) = true → True)) (V.gd ((!betB r (0 : Int) (4194304 : Int)) == false) (V.b !betB per (1 : Int) (65536 : Int))), pc (12 : Nat) (True ∧ ((!betB r (0 : Int) (4194304 : Int)) = false → ((!betB r (0 : Int) (4194304 : Int)) == false) = true)) (V.b (!betB r (0 : Int) (4194304 : Int) || !betB per (1 : Int) (65536 : Int)))] (by kernel_rfl) (by kernel_rfl) ⟨⟨⟨(by (exact fun h => h)), True.intro⟩, (fun _ => True.intro)⟩, ⟨True.intro, (by (intro h; rw [h]; rfl))⟩, True.intro⟩ ?_
  refine aops_nil ?_
  refine xt_n ?_
  refine hK _ ?_
  clear hK K
  refine w_cond (t := !betB r (0 : Int) (4194304 : Int) || !betB per (1 : Int) (65536 : Int)) (by kernel_rfl) (fun c1 => ?_) (fun c1 => ?_)
  · have e : plcE r per = 3 := by
      cases h1 : betB r 0 4194304 <;> cases h2 : betB per 1 65536 <;> simp [plcE, h1, h2] at c1 ⊢
    refine aw_seq_k fun K hK => ?_
    refine w_region (n' := 4) (by kernel_rfl) (by kernel_rfl) ?_
    refine aops_n hTT (M := []) (n := 1) [pv (4 : Nat) (V.i (3 : Int))] (by kernel_rfl) (by kernel_rfl) True.intro ?_
    refine aops_nil ?_
    refine xt_n ?_
    refine hK _ ?_
    clear hK K
    refine aw_ret ?_
    refine xt_r ?_
    rw [e]
    refine ret_pure (v' := V.i (3 : Int)) (.inr rfl) (by kernel_rfl) (by kernel_rfl) (by kernel_rfl)
  · have e : plcE r per = 0 := by
      cases h1 : betB r 0 4194304 <;> cases h2 : betB per 1 65536 <;> simp [plcE, h1, h2] at c1 ⊢
    refine aw_skip ?_
    refine xt_n ?_
    refine hK _ ?_
    clear hK K
    refine aw_seq_k fun K hK => ?_
    refine w_region (n' := 4) (by kernel_rfl) (by kernel_rfl) ?_
    refine aops_n hTT (M := []) (n := 1) [pv (4 : Nat) (V.i (0 : Int))] (by kernel_rfl) (by kernel_rfl) True.intro ?_
    refine aops_nil ?_
    refine xt_n ?_
    refine hK _ ?_
    clear hK K
    refine aw_ret ?_
    rw [e]
    refine ret_pure (v' := V.i (0 : Int)) (.inr rfl) (by kernel_rfl) (by kernel_rfl) (by kernel_rfl)
def gErr (c : Cut) (l : List Pt) : Int := if cutE c = 0 then gChk l else cutE c
theorem gErr_1 {c : Cut} {l : List Pt} (h : ¬ cutE c = 0) : gErr c l = cutE c := by rw [gErr, if_neg h]
theorem gErr_2 {c : Cut} {l : List Pt} (h : cutE c = 0) : gErr c l = gChk l := by rw [gErr, if_pos h]
theorem gErr_ok {c : Cut} {l : List Pt} (h : gErr c l = 0) : cutE c = 0 ∧ gChk l = 0 := by
  by_cases hc : cutE c = 0
  · rw [gErr_2 hc] at h; exact ⟨hc, h⟩
  · rw [gErr_1 hc] at h; exact absurd h hc
set_option maxRecDepth 100000 in
theorem newTrack_ok (c : Cut) (l : List Pt) (hl : l.length ≤ 4611686018427387904) (h : gErr c l = 0) : AC Try.prog 47 [c.v, V.pts l] (.tup [.ref 0 0, .i 0]) [TrO c l 0 0] := by
  obtain ⟨h1, h2⟩ := gErr_ok h
  have A1 := cutCheck_ac c
  have A2 := gCheckPoints_ac l hl
  rw [h1] at A1
  rw [h2] at A2
  refine ac_intro hTT hMX (fn := Try.f47) (N := _) ⟨Try.func47, rfl, Try.ntmps47, by kernel_rfl⟩ (by simp) fun C hC hF => ?_
  refine aw_seq_k fun K hK => ?_
  refine w_region (n' := 2) (by kernel_rfl) (by kernel_rfl) ?_
  refine aops_n hTT (M := []) (n := 3) [pv (2 : Nat) (V.ptr [V.i (Cut.half c), V.i (Cut.gain c), V.i (Cut.thin c), V.i (Cut.wide c), V.i (Cut.slope c), V.i (Cut.jerk c), V.i (Cut.sty c)]), pv (4 : Nat) (V.c (Value.pointer none)), pv (5 : Nat) (V.i (0 : Int))] (by kernel_rfl) (by kernel_rfl) True.intro ?_
  refine aops_nil ?_
  refine xt_n ?_
  refine hK _ ?_
  clear hK K
  refine aw_seq_k fun K hK => ?_
  refine aw_seq_k fun K hK => ?_
  refine w_region (n' := 3) (by kernel_rfl) (by kernel_rfl) ?_
  refine aops_n hTT (M := []) (n := 1) [pv (8 : Nat) (V.agg [V.i (Cut.half c), V.i (Cut.gain c), V.i (Cut.thin c), V.i (Cut.wide c), V.i (Cut.slope c), V.i (Cut.jerk c), V.i (Cut.sty c)])] (by kernel_rfl) (by kernel_rfl) True.intro ?_
  refine e_call (first := []) (caps := []) (A1) (by kernel_rfl) (by kernel_rfl) (by kernel_rfl) (by kernel_rfl) (by kernel_rfl) ?_
  refine aops_n hTT (M := []) (n := 1) [pv (6 : Nat) (V.i (0 : Int))] (by kernel_rfl) (by kernel_rfl) True.intro ?_
  refine aops_nil ?_
  refine xt_n ?_
  refine hK _ ?_
  clear hK K
  refine aw_seq_k fun K hK => ?_
  refine w_region (n' := 4) (by kernel_rfl) (by kernel_rfl) ?_
  refine aops_n hTT (M := []) (n := 2) [pv (10 : Nat) (V.i (0 : Int)), pv (11 : Nat) (V.b false)] (by kernel_rfl) (by kernel_rfl) True.intro ?_
  refine aops_nil ?_
  refine xt_n ?_
  refine hK _ ?_
  clear hK K
  refine w_false (t := false) (by kernel_rfl) rfl ?_
  refine aw_skip ?_
  refine xt_n ?_
  refine hK _ ?_
  clear hK K
  refine aw_seq_k fun K hK => ?_
  refine aw_seq_k fun K hK => ?_
  refine w_region (n' := 5) (by kernel_rfl) (by kernel_rfl) ?_
  refine aops_n hTT (M := []) (n := 1) [pv (13 : Nat) (V.sl (2 : Nat) (List.length l) fun (k : Nat) => [V.i (Prod.fst (gp l k)), V.i (Prod.snd (gp l k))])] (by kernel_rfl) (by kernel_rfl) True.intro ?_
  refine e_call (first := []) (caps := []) (A2) (by kernel_rfl) (by kernel_rfl) (by kernel_rfl) (by kernel_rfl) (by kernel_rfl) ?_
  refine aops_n hTT (M := [21]) (n := 1) [pv (7 : Nat) (V.i (0 : Int))] (by kernel_rfl) (by kernel_rfl) True.intro ?_
  refine aops_nil ?_
  refine xt_n ?_
  refine hK _ ?_
  clear hK K
  refine aw_seq_k fun K hK => ?_
  refine w_region (n' := 6) (by kernel_rfl) (by kernel_rfl) ?_
  refine aops_n hTT (M := [21]) (n := 2) [pv (15 : Nat) (V.i (0 : Int)), pv (16 : Nat) (V.b false)] (by kernel_rfl) (by kernel_rfl) True.intro ?_
  refine aops_nil ?_
  refine xt_n ?_
  refine hK _ ?_
  clear hK K
  refine w_false (t := false) (by kernel_rfl) rfl ?_
  refine aw_skip ?_
  refine xt_n ?_
  refine hK _ ?_
  clear hK K
  refine aw_seq_k fun K hK => ?_
  refine w_region (n' := 7) (by kernel_rfl) (by kernel_rfl) ?_
  refine aops_n hTT (M := [21]) (n := 6) [pv (18 : Nat) (V.agg [V.i (Cut.half c), V.i (Cut.gain c), V.i (Cut.thin c), V.i (Cut.wide c), V.i (Cut.slope c), V.i (Cut.jerk c), V.i (Cut.sty c)]), pv (19 : Nat) (V.sl (2 : Nat) (List.length l) fun (k : Nat) => [V.i (Prod.fst (gp l k)), V.i (Prod.snd (gp l k))]), pv (20 : Nat) (V.agg [V.i (Cut.half c), V.i (Cut.gain c), V.i (Cut.thin c), V.i (Cut.wide c), V.i (Cut.slope c), V.i (Cut.jerk c), V.i (Cut.sty c), V.sl (2 : Nat) (List.length l) fun (k : Nat) => [V.i (Prod.fst (gp l k)), V.i (Prod.snd (gp l k))], V.i (0 : Int), V.i (0 : Int)]), pn (21 : Nat) (V.ref (600021 : Nat) (0 : Nat)) (600021 : Nat) (Ob.box (90 : Nat) [V.i (Cut.half c), V.i (Cut.gain c), V.i (Cut.thin c), V.i (Cut.wide c), V.i (Cut.slope c), V.i (Cut.jerk c), V.i (Cut.sty c), V.sl (2 : Nat) (List.length l) fun (k : Nat) => [V.i (Prod.fst (gp l k)), V.i (Prod.snd (gp l k))], V.i (0 : Int), V.i (0 : Int)]), pv (4 : Nat) (V.ref (600021 : Nat) (0 : Nat)), pv (5 : Nat) (V.i (0 : Int))] (by kernel_rfl) (by kernel_rfl) True.intro ?_
  refine aops_nil ?_
  refine xt_n ?_
  refine hK _ ?_
  clear hK K
  refine aw_ret ?_
  refine ret_own [(0, 600021)] [(4, V.ref (0 : Nat) (0 : Nat)), (5, V.i (0 : Int))] (.inr rfl) (.cons (by kernel_rfl) (.cons (by kernel_rfl) .nil)) (.cons ⟨Ob.box (90 : Nat) [V.i (Cut.half c), V.i (Cut.gain c), V.i (Cut.thin c), V.i (Cut.wide c), V.i (Cut.slope c), V.i (Cut.jerk c), V.i (Cut.sty c), V.sl (2 : Nat) (List.length l) fun (k : Nat) => [V.i (Prod.fst (gp l k)), V.i (Prod.snd (gp l k))], V.i (0 : Int), V.i (0 : Int)], (by kernel_rfl), .box (by kernel_rfl)⟩ .nil) (by kernel_rfl) (by kernel_rfl) (by kernel_rfl) (by kernel_rfl)
set_option maxRecDepth 100000 in
theorem newTrack_no (c : Cut) (l : List Pt) (hl : l.length ≤ 4611686018427387904) (h : ¬ gErr c l = 0) : AC Try.prog 47 [c.v, V.pts l] (.tup [.c (.pointer none), .i (gErr c l)]) [] := by
  refine ac_intro hTT hMX (fn := Try.f47) (N := _) ⟨Try.func47, rfl, Try.ntmps47, by kernel_rfl⟩ (by simp) fun C hC hF => ?_
  refine aw_seq_k fun K hK => ?_
  refine w_region (n' := 2) (by kernel_rfl) (by kernel_rfl) ?_
  refine aops_n hTT (M := []) (n := 3) [pv (2 : Nat) (V.ptr [V.i (Cut.half c), V.i (Cut.gain c), V.i (Cut.thin c), V.i (Cut.wide c), V.i (Cut.slope c), V.i (Cut.jerk c), V.i (Cut.sty c)]), pv (4 : Nat) (V.c (Value.pointer none)), pv (5 : Nat) (V.i (0 : Int))] (by kernel_rfl) (by kernel_rfl) True.intro ?_
  refine aops_nil ?_
  refine xt_n ?_
  refine hK _ ?_
  clear hK K
  refine aw_seq_k fun K hK => ?_
  refine aw_seq_k fun K hK => ?_
  refine w_region (n' := 3) (by kernel_rfl) (by kernel_rfl) ?_
  refine aops_n hTT (M := []) (n := 1) [pv (8 : Nat) (V.agg [V.i (Cut.half c), V.i (Cut.gain c), V.i (Cut.thin c), V.i (Cut.wide c), V.i (Cut.slope c), V.i (Cut.jerk c), V.i (Cut.sty c)])] (by kernel_rfl) (by kernel_rfl) True.intro ?_
  refine e_call (first := []) (caps := []) (cutCheck_ac c) (by kernel_rfl) (by kernel_rfl) (by kernel_rfl) (by kernel_rfl) (by kernel_rfl) ?_
  refine aops_n hTT (M := []) (n := 1) [pv (6 : Nat) (V.i (cutE c))] (by kernel_rfl) (by kernel_rfl) True.intro ?_
  refine aops_nil ?_
  refine xt_n ?_
  refine hK _ ?_
  clear hK K
  refine aw_seq_k fun K hK => ?_
  refine w_region (n' := 4) (by kernel_rfl) (by kernel_rfl) ?_
  refine aops_n hTT (M := []) (n := 2) [pv (10 : Nat) (V.i (cutE c)), pv (11 : Nat) (V.b !decide (cutE c = (0 : Int)))] (by kernel_rfl) (by kernel_rfl) True.intro ?_
  refine aops_nil ?_
  refine xt_n ?_
  refine hK _ ?_
  clear hK K
  refine w_cond (t := !decide (cutE c = (0 : Int))) (by kernel_rfl) (fun c1 => ?_) (fun c1 => ?_)
  · simp at c1
    refine aw_seq_k fun K hK => ?_
    refine w_region (n' := 5) (by kernel_rfl) (by kernel_rfl) ?_
    refine aops_n hTT (M := []) (n := 3) [pv (12 : Nat) (V.i (cutE c)), pv (4 : Nat) (V.c (Value.pointer none)), pv (5 : Nat) (V.i (cutE c))] (by kernel_rfl) (by kernel_rfl) True.intro ?_
    refine aops_nil ?_
    refine xt_n ?_
    refine hK _ ?_
    clear hK K
    refine aw_ret ?_
    refine xt_r ?_
    rw [gErr_1 c1]
    refine ret_pure (v' := V.tup [V.c (Value.pointer none), V.i (cutE c)]) (.inr rfl) (by kernel_rfl) (by kernel_rfl) (by kernel_rfl)
  simp at c1
  refine aw_skip ?_
  refine xt_n ?_
  refine hK _ ?_
  clear hK K
  refine aw_seq_k fun K hK => ?_
  refine aw_seq_k fun K hK => ?_
  refine w_region (n' := 5) (by kernel_rfl) (by kernel_rfl) ?_
  refine aops_n hTT (M := []) (n := 1) [pv (13 : Nat) (V.sl (2 : Nat) (List.length l) fun (k : Nat) => [V.i (Prod.fst (gp l k)), V.i (Prod.snd (gp l k))])] (by kernel_rfl) (by kernel_rfl) True.intro ?_
  refine e_call (first := []) (caps := []) (gCheckPoints_ac l hl) (by kernel_rfl) (by kernel_rfl) (by kernel_rfl) (by kernel_rfl) (by kernel_rfl) ?_
  refine aops_n hTT (M := []) (n := 1) [pv (7 : Nat) (V.i (gChk l))] (by kernel_rfl) (by kernel_rfl) True.intro ?_
  refine aops_nil ?_
  refine xt_n ?_
  refine hK _ ?_
  clear hK K
  refine aw_seq_k fun K hK => ?_
  refine w_region (n' := 6) (by kernel_rfl) (by kernel_rfl) ?_
  refine aops_n hTT (M := []) (n := 2) [pv (15 : Nat) (V.i (gChk l)), pv (16 : Nat) (V.b !decide (gChk l = (0 : Int)))] (by kernel_rfl) (by kernel_rfl) True.intro ?_
  refine aops_nil ?_
  refine xt_n ?_
  refine hK _ ?_
  clear hK K
  refine w_cond (t := !decide (gChk l = (0 : Int))) (by kernel_rfl) (fun c2 => ?_) (fun c2 => ?_)
  · refine aw_seq_k fun K hK => ?_
    refine w_region (n' := 7) (by kernel_rfl) (by kernel_rfl) ?_
    refine aops_n hTT (M := []) (n := 3) [pv (17 : Nat) (V.i (gChk l)), pv (4 : Nat) (V.c (Value.pointer none)), pv (5 : Nat) (V.i (gChk l))] (by kernel_rfl) (by kernel_rfl) True.intro ?_
    refine aops_nil ?_
    refine xt_n ?_
    refine hK _ ?_
    clear hK K
    refine aw_ret ?_
    refine xt_r ?_
    rw [gErr_2 c1]
    refine ret_pure (v' := V.tup [V.c (Value.pointer none), V.i (gChk l)]) (.inr rfl) (by kernel_rfl) (by kernel_rfl) (by kernel_rfl)
  · simp at c2
    rw [gErr_2 c1] at h
    exact absurd c2 h
def arcR (r per : Int) : Int := if plcE r per = 0 then gArc r per else 0
set_option maxRecDepth 100000 in
theorem Arc_ac (r per : Int) : AC Try.prog 26 [.i r, .i per] (.tup [.i (arcR r per), .i (plcE r per)]) [] := by
  refine ac_intro hTT hMX (fn := Try.f26) (N := _) ⟨Try.func26, rfl, Try.ntmps26, by kernel_rfl⟩ (by simp) fun C hC hF => ?_
  refine aw_seq_k fun K hK => ?_
  refine w_region (n' := 2) (by kernel_rfl) (by kernel_rfl) ?_
  refine aops_n hTT (M := []) (n := 2) [pv (4 : Nat) (V.i (0 : Int)), pv (5 : Nat) (V.i (0 : Int))] (by kernel_rfl) (by kernel_rfl) True.intro ?_
  refine aops_nil ?_
  refine xt_n ?_
  refine hK _ ?_
  clear hK K
  refine aw_seq_k fun K hK => ?_
  refine aw_seq_k fun K hK => ?_
  refine w_region (n' := 3) (by kernel_rfl) (by kernel_rfl) ?_
  refine aops_n hTT (M := []) (n := 2) [pv (7 : Nat) (V.i r), pv (8 : Nat) (V.i per)] (by kernel_rfl) (by kernel_rfl) True.intro ?_
  refine e_call (first := []) (caps := []) (checkPlace_ac r per) (by kernel_rfl) (by kernel_rfl) (by kernel_rfl) (by kernel_rfl) (by kernel_rfl) ?_
  refine aops_n hTT (M := []) (n := 1) [pv (6 : Nat) (V.i (plcE r per))] (by kernel_rfl) (by kernel_rfl) True.intro ?_
  refine aops_nil ?_
  refine xt_n ?_
  refine hK _ ?_
  clear hK K
  refine aw_seq_k fun K hK => ?_
  refine w_region (n' := 4) (by kernel_rfl) (by kernel_rfl) ?_
  refine aops_n hTT (M := []) (n := 2) [pv (10 : Nat) (V.i (plcE r per)), pv (11 : Nat) (V.b !decide (plcE r per = (0 : Int)))] (by kernel_rfl) (by kernel_rfl) True.intro ?_
  refine aops_nil ?_
  refine xt_n ?_
  refine hK _ ?_
  clear hK K
  refine w_cond (t := !decide (plcE r per = (0 : Int))) (by kernel_rfl) (fun c1 => ?_) (fun c1 => ?_)
  · have h : ¬ plcE r per = 0 := by simpa using c1
    refine aw_seq_k fun K hK => ?_
    refine w_region (n' := 5) (by kernel_rfl) (by kernel_rfl) ?_
    refine aops_n hTT (M := []) (n := 3) [pv (12 : Nat) (V.i (plcE r per)), pv (4 : Nat) (V.i (0 : Int)), pv (5 : Nat) (V.i (plcE r per))] (by kernel_rfl) (by kernel_rfl) True.intro ?_
    refine aops_nil ?_
    refine xt_n ?_
    refine hK _ ?_
    clear hK K
    refine aw_ret ?_
    refine xt_r ?_
    rw [arcR, if_neg h]
    refine ret_pure (v' := V.tup [V.i (0 : Int), V.i (plcE r per)]) (.inr rfl) (by kernel_rfl) (by kernel_rfl) (by kernel_rfl)
  · have h : plcE r per = 0 := by simpa using c1
    refine aw_skip ?_
    refine xt_n ?_
    refine hK _ ?_
    clear hK K
    refine aw_seq_k fun K hK => ?_
    refine w_region (n' := 5) (by kernel_rfl) (by kernel_rfl) ?_
    refine aops_n hTT (M := []) (n := 4) [pv (13 : Nat) (V.i r), pv (14 : Nat) (V.i per), pv (15 : Nat) (V.agg [V.i (0 : Int), V.i (0 : Int), V.i (0 : Int), V.i (0 : Int), V.i (0 : Int), V.i (0 : Int), V.i (0 : Int), V.nil, V.i r, V.i per]), pv (16 : Nat) (V.ptr [V.i (0 : Int), V.i (0 : Int), V.i (0 : Int), V.i (0 : Int), V.i (0 : Int), V.i (0 : Int), V.i (0 : Int), V.nil, V.i r, V.i per])] (by kernel_rfl) (by kernel_rfl) True.intro ?_
    refine e_call (first := []) (caps := []) (gArc0_ac r per (plcE_ok.1 h)) (by kernel_rfl) (by kernel_rfl) (by kernel_rfl) (by kernel_rfl) (by kernel_rfl) ?_
    refine aops_n hTT (M := []) (n := 2) [pv (4 : Nat) (V.i (gArc r per)), pv (5 : Nat) (V.i (0 : Int))] (by kernel_rfl) (by kernel_rfl) True.intro ?_
    refine aops_nil ?_
    refine xt_n ?_
    refine hK _ ?_
    clear hK K
    refine aw_ret ?_
    rw [arcR, if_pos h, h]
    refine ret_pure (v' := V.tup [V.i (gArc r per), V.i (0 : Int)]) (.inr rfl) (by kernel_rfl) (by kernel_rfl) (by kernel_rfl)
/-- the fault of a groove, or the error -/
def FaultV (c : Cut) (l : List Pt) (r per : Int) : Int × Int × Int :=
  if gErr c l = 0 then (if plcE r per = 0 then (if (faultR c l r per).2 = 0 then (0, 0, 5) else ((faultR c l r per).1, (faultR c l r per).2, 0)) else (0, 0, plcE r per)) else (0, 0, gErr c l)
theorem FaultV_1 {c : Cut} {l : List Pt} {r per : Int} (h : ¬ gErr c l = 0) : FaultV c l r per = (0, 0, gErr c l) := by rw [FaultV, if_neg h]
theorem FaultV_2 {c : Cut} {l : List Pt} {r per : Int} (h : gErr c l = 0) (h2 : ¬ plcE r per = 0) : FaultV c l r per = (0, 0, plcE r per) := by rw [FaultV, if_pos h, if_neg h2]
theorem FaultV_3 {c : Cut} {l : List Pt} {r per : Int} (h : gErr c l = 0) (h2 : plcE r per = 0) (h3 : (faultR c l r per).2 = 0) : FaultV c l r per = (0, 0, 5) := by rw [FaultV, if_pos h, if_pos h2, if_pos h3]
theorem FaultV_4 {c : Cut} {l : List Pt} {r per : Int} (h : gErr c l = 0) (h2 : plcE r per = 0) (h3 : ¬ (faultR c l r per).2 = 0) : FaultV c l r per = ((faultR c l r per).1, (faultR c l r per).2, 0) := by rw [FaultV, if_pos h, if_pos h2, if_neg h3]
def FaultT (c : Cut) (l : List Pt) (r per : Int) : V := .tup [.i (FaultV c l r per).1, .i (FaultV c l r per).2.1, .i (FaultV c l r per).2.2]
set_option maxRecDepth 100000 in
theorem Fault_ac (c : Cut) (l : List Pt) (r per : Int) (hl : l.length ≤ 4611686018427387904) : AC Try.prog 28 [c.v, V.pts l, .i r, .i per] (FaultT c l r per) [] := by
  refine ac_intro hTT hMX (fn := Try.f28) (N := _) ⟨Try.func28, rfl, Try.ntmps28, by kernel_rfl⟩ (by simp) fun C hC hF => ?_
  unfold FaultT
  by_cases h : gErr c l = 0
  · refine aw_seq_k fun K hK => ?_
    refine w_region (n' := 2) (by kernel_rfl) (by kernel_rfl) ?_
    refine aops_n hTT (M := []) (n := 4) [pv (4 : Nat) (V.ptr [V.i (Cut.half c), V.i (Cut.gain c), V.i (Cut.thin c), V.i (Cut.wide c), V.i (Cut.slope c), V.i (Cut.jerk c), V.i (Cut.sty c)]), pv (8 : Nat) (V.i (0 : Int)), pv (9 : Nat) (V.i (0 : Int)), pv (10 : Nat) (V.i (0 : Int))] (by kernel_rfl) (by kernel_rfl) True.intro ?_
    refine aops_nil ?_
    refine xt_n ?_
    refine hK _ ?_
    clear hK K
    refine aw_seq_k fun K hK => ?_
    refine w_region (n' := 3) (by kernel_rfl) (by kernel_rfl) ?_
    refine aops_n hTT (M := []) (n := 2) [pv (16 : Nat) (V.agg [V.i (Cut.half c), V.i (Cut.gain c), V.i (Cut.thin c), V.i (Cut.wide c), V.i (Cut.slope c), V.i (Cut.jerk c), V.i (Cut.sty c)]), pv (17 : Nat) (V.sl (2 : Nat) (List.length l) fun (k : Nat) => [V.i (Prod.fst (gp l k)), V.i (Prod.snd (gp l k))])] (by kernel_rfl) (by kernel_rfl) True.intro ?_
    refine e_callO (first := []) (caps := []) (k := 200018) (v' := V.tup [V.ref (200018 : Nat) (0 : Nat), V.i (0 : Int)]) (ob' := Ob.box (90 : Nat) [V.i (Cut.half c), V.i (Cut.gain c), V.i (Cut.thin c), V.i (Cut.wide c), V.i (Cut.slope c), V.i (Cut.jerk c), V.i (Cut.sty c), V.sl (2 : Nat) (List.length l) fun (k : Nat) => [V.i (Prod.fst (gp l k)), V.i (Prod.snd (gp l k))], V.i (0 : Int), V.i (0 : Int)]) (newTrack_ok c l hl h) (by kernel_rfl) (by kernel_rfl) (by kernel_rfl) (by kernel_rfl) (by kernel_rfl) (by kernel_rfl) (by kernel_rfl) ?_
    refine aops_n hTT (M := []) (n := 5) [pv (15 : Nat) (V.tup [V.ref (200018 : Nat) (0 : Nat), V.i (0 : Int)]), pv (19 : Nat) (V.ref (200018 : Nat) (0 : Nat)), pv (20 : Nat) (V.i (0 : Int)), pv (11 : Nat) (V.ref (200018 : Nat) (0 : Nat)), pv (12 : Nat) (V.i (0 : Int))] (by kernel_rfl) (by kernel_rfl) True.intro ?_
    refine aops_nil ?_
    refine xt_n ?_
    refine hK _ ?_
    clear hK K
    refine aw_seq_k fun K hK => ?_
    refine aw_seq_k fun K hK => ?_
    refine w_region (n' := 4) (by kernel_rfl) (by kernel_rfl) ?_
    refine aops_n hTT (M := []) (n := 2) [pv (21 : Nat) (V.i (0 : Int)), pv (22 : Nat) (V.b true)] (by kernel_rfl) (by kernel_rfl) True.intro ?_
    refine aops_nil ?_
    refine xt_n ?_
    refine hK _ ?_
    clear hK K
    refine w_true (t := true) (by kernel_rfl) rfl ?_
    refine w_region (n' := 5) (by kernel_rfl) (by kernel_rfl) ?_
    refine aops_n hTT (M := []) (n := 2) [pv (23 : Nat) (V.i r), pv (24 : Nat) (V.i per)] (by kernel_rfl) (by kernel_rfl) True.intro ?_
    refine e_call (first := []) (caps := []) (checkPlace_ac r per) (by kernel_rfl) (by kernel_rfl) (by kernel_rfl) (by kernel_rfl) (by kernel_rfl) ?_
    refine aops_n hTT (M := []) (n := 1) [pv (12 : Nat) (V.i (plcE r per))] (by kernel_rfl) (by kernel_rfl) True.intro ?_
    refine aops_nil ?_
    refine xt_n ?_
    refine hK _ ?_
    clear hK K
    refine aw_seq_k fun K hK => ?_
    refine aw_seq_k fun K hK => ?_
    refine w_region (n' := 6) (by kernel_rfl) (by kernel_rfl) ?_
    refine aops_n hTT (M := []) (n := 2) [pv (26 : Nat) (V.i (plcE r per)), pv (27 : Nat) (V.b !decide (plcE r per = (0 : Int)))] (by kernel_rfl) (by kernel_rfl) True.intro ?_
    refine aops_nil ?_
    refine xt_n ?_
    refine hK _ ?_
    clear hK K
    refine w_cond (t := !decide (plcE r per = (0 : Int))) (by kernel_rfl) (fun c1 => ?_) (fun c1 => ?_)
    · have h2 : ¬ plcE r per = 0 := by simpa using c1
      refine aw_seq_k fun K hK => ?_
      refine w_region (n' := 7) (by kernel_rfl) (by kernel_rfl) ?_
      refine aops_n hTT (M := []) (n := 4) [pv (28 : Nat) (V.i (plcE r per)), pv (8 : Nat) (V.i (0 : Int)), pv (9 : Nat) (V.i (0 : Int)), pv (10 : Nat) (V.i (plcE r per))] (by kernel_rfl) (by kernel_rfl) True.intro ?_
      refine aops_nil ?_
      refine xt_n ?_
      refine hK _ ?_
      clear hK K
      refine aw_ret ?_
      refine xt_r ?_
      rw [FaultV_2 h h2]
      refine ret_pure (v' := V.tup [V.i (0 : Int), V.i (0 : Int), V.i (plcE r per)]) (.inr rfl) (by kernel_rfl) (by kernel_rfl) (by kernel_rfl)
    · have h2 : plcE r per = 0 := by simpa using c1
      obtain ⟨q1, q2⟩ := gErr_ok h
      refine aw_skip ?_
      refine xt_n ?_
      refine hK _ ?_
      clear hK K
      refine aw_seq_k fun K hK => ?_
      refine w_region (n' := 7) (by kernel_rfl) (by kernel_rfl) ?_
      refine aops_n hTT (M := []) (n := 10) [pv (29 : Nat) (V.ref (200018 : Nat) (0 : Nat)), pv (30 : Nat) (V.ref (200018 : Nat) (0 : Nat)), pv (31 : Nat) (V.i r), pv (32 : Nat) (V.i per), pv (33 : Nat) (V.ref (200018 : Nat) (0 : Nat)), pv (34 : Nat) (V.ref (200018 : Nat) (8 : Nat)), pw ((8 : Nat) + (1 : Nat) ≤ (10 : Nat)) (200018 : Nat) (Ob.box (90 : Nat) [V.i (Cut.half c), V.i (Cut.gain c), V.i (Cut.thin c), V.i (Cut.wide c), V.i (Cut.slope c), V.i (Cut.jerk c), V.i (Cut.sty c), V.sl (2 : Nat) (List.length l) fun (k : Nat) => [V.i (Prod.fst (gp l k)), V.i (Prod.snd (gp l k))], V.i r, V.i (0 : Int)]), pv (35 : Nat) (V.ref (200018 : Nat) (0 : Nat)), pv (36 : Nat) (V.ref (200018 : Nat) (9 : Nat)), pw ((9 : Nat) + (1 : Nat) ≤ (10 : Nat)) (200018 : Nat) (Ob.box (90 : Nat) [V.i (Cut.half c), V.i (Cut.gain c), V.i (Cut.thin c), V.i (Cut.wide c), V.i (Cut.slope c), V.i (Cut.jerk c), V.i (Cut.sty c), V.sl (2 : Nat) (List.length l) fun (k : Nat) => [V.i (Prod.fst (gp l k)), V.i (Prod.snd (gp l k))], V.i r, V.i per])] (by kernel_rfl) (by kernel_rfl) ⟨(by omega), (by omega), True.intro⟩ ?_
      refine aops_nil ?_
      refine xt_n ?_
      refine hK _ ?_
      clear hK K
      refine aw_seq_k fun K hK => ?_
      refine w_le (le_freezeBox (t := (90 : Nat)) (cs := [V.i (Cut.half c), V.i (Cut.gain c), V.i (Cut.thin c), V.i (Cut.wide c), V.i (Cut.slope c), V.i (Cut.jerk c), V.i (Cut.sty c), V.sl (2 : Nat) (List.length l) fun (k : Nat) => [V.i (Prod.fst (gp l k)), V.i (Prod.snd (gp l k))], V.i r, V.i per]) 200018 (by kernel_rfl) (by kernel_rfl)) ?_
      refine w_region (n' := 8) (by kernel_rfl) (by kernel_rfl) ?_
      refine aops_n hTT (M := []) (n := 1) [pv (38 : Nat) (V.ptr [V.i (Cut.half c), V.i (Cut.gain c), V.i (Cut.thin c), V.i (Cut.wide c), V.i (Cut.slope c), V.i (Cut.jerk c), V.i (Cut.sty c), V.sl (2 : Nat) (List.length l) fun (k : Nat) => [V.i (Prod.fst (gp l k)), V.i (Prod.snd (gp l k))], V.i r, V.i per])] (by kernel_rfl) (by kernel_rfl) True.intro ?_
      refine e_call (first := []) (caps := []) (fault_ac c l r per q1 q2 (plcE_ok.1 h2)) (by kernel_rfl) (by kernel_rfl) (by kernel_rfl) (by kernel_rfl) (by kernel_rfl) ?_
      refine aops_n hTT (M := []) (n := 5) [pv (37 : Nat) (V.tup [V.i (Prod.fst (faultR c l r per)), V.i (Prod.snd (faultR c l r per))]), pv (40 : Nat) (V.i (Prod.fst (faultR c l r per))), pv (41 : Nat) (V.i (Prod.snd (faultR c l r per))), pv (13 : Nat) (V.i (Prod.fst (faultR c l r per))), pv (14 : Nat) (V.i (Prod.snd (faultR c l r per)))] (by kernel_rfl) (by kernel_rfl) True.intro ?_
      refine aops_nil ?_
      refine xt_n ?_
      refine hK _ ?_
      clear hK K
      refine aw_seq_k fun K hK => ?_
      refine aw_seq_k fun K hK => ?_
      refine w_region (n' := 9) (by kernel_rfl) (by kernel_rfl) ?_
      refine aops_n hTT (M := []) (n := 2) [pv (42 : Nat) (V.i (Prod.snd (faultR c l r per))), pv (43 : Nat) (V.b (decide (Prod.snd (faultR c l r per) = (0 : Int))))] (by kernel_rfl) (by kernel_rfl) True.intro ?_
      refine aops_nil ?_
      refine xt_n ?_
      refine hK _ ?_
      clear hK K
      refine w_cond (t := decide (Prod.snd (faultR c l r per) = (0 : Int))) (by kernel_rfl) (fun c2 => ?_) (fun c2 => ?_)
      · have h3 : (faultR c l r per).2 = 0 := by simpa using c2
        refine aw_seq_k fun K hK => ?_
        refine w_region (n' := 10) (by kernel_rfl) (by kernel_rfl) ?_
        refine aops_n hTT (M := []) (n := 3) [pv (8 : Nat) (V.i (0 : Int)), pv (9 : Nat) (V.i (0 : Int)), pv (10 : Nat) (V.i (5 : Int))] (by kernel_rfl) (by kernel_rfl) True.intro ?_
        refine aops_nil ?_
        refine xt_n ?_
        refine hK _ ?_
        clear hK K
        refine aw_ret ?_
        refine xt_r ?_
        rw [FaultV_3 h h2 h3]
        refine ret_pure (v' := V.tup [V.i (0 : Int), V.i (0 : Int), V.i (5 : Int)]) (.inr rfl) (by kernel_rfl) (by kernel_rfl) (by kernel_rfl)
      · have h3 : ¬ (faultR c l r per).2 = 0 := by simpa using c2
        refine aw_skip ?_
        refine xt_n ?_
        refine hK _ ?_
        clear hK K
        refine aw_seq_k fun K hK => ?_
        refine w_region (n' := 10) (by kernel_rfl) (by kernel_rfl) ?_
        refine aops_n hTT (M := []) (n := 5) [pv (44 : Nat) (V.i (Prod.fst (faultR c l r per))), pv (45 : Nat) (V.i (Prod.snd (faultR c l r per))), pv (8 : Nat) (V.i (Prod.fst (faultR c l r per))), pv (9 : Nat) (V.i (Prod.snd (faultR c l r per))), pv (10 : Nat) (V.i (0 : Int))] (by kernel_rfl) (by kernel_rfl) True.intro ?_
        refine aops_nil ?_
        refine xt_n ?_
        refine hK _ ?_
        clear hK K
        refine aw_ret ?_
        rw [FaultV_4 h h2 h3]
        refine ret_pure (v' := V.tup [V.i (Prod.fst (faultR c l r per)), V.i (Prod.snd (faultR c l r per)), V.i (0 : Int)]) (.inr rfl) (by kernel_rfl) (by kernel_rfl) (by kernel_rfl)
  · refine aw_seq_k fun K hK => ?_
    refine w_region (n' := 2) (by kernel_rfl) (by kernel_rfl) ?_
    refine aops_n hTT (M := []) (n := 4) [pv (4 : Nat) (V.ptr [V.i (Cut.half c), V.i (Cut.gain c), V.i (Cut.thin c), V.i (Cut.wide c), V.i (Cut.slope c), V.i (Cut.jerk c), V.i (Cut.sty c)]), pv (8 : Nat) (V.i (0 : Int)), pv (9 : Nat) (V.i (0 : Int)), pv (10 : Nat) (V.i (0 : Int))] (by kernel_rfl) (by kernel_rfl) True.intro ?_
    refine aops_nil ?_
    refine xt_n ?_
    refine hK _ ?_
    clear hK K
    refine aw_seq_k fun K hK => ?_
    refine w_region (n' := 3) (by kernel_rfl) (by kernel_rfl) ?_
    refine aops_n hTT (M := []) (n := 2) [pv (16 : Nat) (V.agg [V.i (Cut.half c), V.i (Cut.gain c), V.i (Cut.thin c), V.i (Cut.wide c), V.i (Cut.slope c), V.i (Cut.jerk c), V.i (Cut.sty c)]), pv (17 : Nat) (V.sl (2 : Nat) (List.length l) fun (k : Nat) => [V.i (Prod.fst (gp l k)), V.i (Prod.snd (gp l k))])] (by kernel_rfl) (by kernel_rfl) True.intro ?_
    refine e_call (first := []) (caps := []) (newTrack_no c l hl h) (by kernel_rfl) (by kernel_rfl) (by kernel_rfl) (by kernel_rfl) (by kernel_rfl) ?_
    refine aops_n hTT (M := []) (n := 5) [pv (15 : Nat) (V.tup [V.c (Value.pointer none), V.i (gErr c l)]), pv (19 : Nat) (V.c (Value.pointer none)), pv (20 : Nat) (V.i (gErr c l)), pv (11 : Nat) (V.c (Value.pointer none)), pv (12 : Nat) (V.i (gErr c l))] (by kernel_rfl) (by kernel_rfl) True.intro ?_
    refine aops_nil ?_
    refine xt_n ?_
    refine hK _ ?_
    clear hK K
    refine aw_seq_k fun K hK => ?_
    refine aw_seq_k fun K hK => ?_
    refine w_region (n' := 4) (by kernel_rfl) (by kernel_rfl) ?_
    refine aops_n hTT (M := []) (n := 2) [pv (21 : Nat) (V.i (gErr c l)), pv (22 : Nat) (V.b (decide (gErr c l = (0 : Int))))] (by kernel_rfl) (by kernel_rfl) True.intro ?_
    refine aops_nil ?_
    refine xt_n ?_
    refine hK _ ?_
    clear hK K
    refine w_cond (t := decide (gErr c l = (0 : Int))) (by kernel_rfl) (fun c1 => ?_) (fun c1 => ?_)
    · simp at c1
      exact absurd c1 h
    refine aw_skip ?_
    refine xt_n ?_
    refine hK _ ?_
    clear hK K
    refine aw_seq_k fun K hK => ?_
    refine aw_seq_k fun K hK => ?_
    refine w_region (n' := 5) (by kernel_rfl) (by kernel_rfl) ?_
    refine aops_n hTT (M := []) (n := 2) [pv (26 : Nat) (V.i (gErr c l)), pv (27 : Nat) (V.b !decide (gErr c l = (0 : Int)))] (by kernel_rfl) (by kernel_rfl) True.intro ?_
    refine aops_nil ?_
    refine xt_n ?_
    refine hK _ ?_
    clear hK K
    refine w_cond (t := !decide (gErr c l = (0 : Int))) (by kernel_rfl) (fun c1 => ?_) (fun c1 => ?_)
    · refine aw_seq_k fun K hK => ?_
      refine w_region (n' := 6) (by kernel_rfl) (by kernel_rfl) ?_
      refine aops_n hTT (M := []) (n := 4) [pv (28 : Nat) (V.i (gErr c l)), pv (8 : Nat) (V.i (0 : Int)), pv (9 : Nat) (V.i (0 : Int)), pv (10 : Nat) (V.i (gErr c l))] (by kernel_rfl) (by kernel_rfl) True.intro ?_
      refine aops_nil ?_
      refine xt_n ?_
      refine hK _ ?_
      clear hK K
      refine aw_ret ?_
      refine xt_r ?_
      rw [FaultV_1 h]
      refine ret_pure (v' := V.tup [V.i (0 : Int), V.i (0 : Int), V.i (gErr c l)]) (.inr rfl) (by kernel_rfl) (by kernel_rfl) (by kernel_rfl)
    · simp at c1
      exact absurd c1 h
end Go.Proofs.Ytjjlgegccfolpaa
