/-
  A groove turned round, mirrored, cut: what is read of it. Conditions: told in each theorem.
-/
import Derived.Test.YtlfaaddoemcokaaPC
import Derived.Test.YtlfaaddoemcokaaPlayI
import Derived.Test.YtlfaaddoemcokaaPlayK
namespace Go.Proofs.Ytlfaaddoemcokaa
open Go.Ab Go.RowKit Go.Dw Go.Shelf

theorem Balance_ac (l : List Pt) (hl : l.length ≤ 4611686018427387904) : AC Try.prog 22 [V.pts l] (.tup [.agg [.i (balArm l).1, .i (balArm l).2], .i (checkPts l)]) [] := by
  refine ac_of_calls (enters_of Try.func22 (by kernel_rfl) rfl) fun L w vs hL hvs => ?_
  obtain ⟨vs⟩ := vs
  obtain ⟨x1, e1, q1⟩ := hvs.get (i := 0) rfl
  obtain ⟨A, c, rfl, _, ha⟩ := R_pts_inv q1 hL
  have hn := hvs.1
  have hvs' : vs = [.slice A l.length c] := by
    match vs, hn with
    | [a], _ => simp at e1; subst e1; rfl
  subst hvs'
  refine (balance_calls A _ c l w ha hl).mono ?_
  rintro e w' ⟨rfl, hb⟩
  exact ⟨_, rfl, hb, fun _ => False, fun _ h => h.elim, .tup' (.cons (.agg' (.cons (.c _ _) rfl (.cons (.c _ _) rfl .nil))) (.cons (.c _ _) .nil))⟩
theorem inside_ac (a b : List Pt) (ha : a.length ≤ 4611686018427387904) (hb : b.length ≤ 4611686018427387904) : AC Try.prog 23 [V.pts a, V.pts b] (.b (decide (Inside a b))) [] := by
  refine ac_of_flat (enters_of Try.func23 (by kernel_rfl) rfl) fun L w vs hL hvs => ?_
  obtain ⟨A, c, B, d, rfl, h1, h2⟩ := open_pp hL hvs
  exact inside_calls A B _ c _ d a b w h1 h2 ha hb

def mirL (l : List Pt) : List Pt := l.map fun p => (-p.2, -p.1)
theorem mirL_length (l : List Pt) : (mirL l).length = l.length := by simp [mirL]
theorem gp_mirL (l : List Pt) (i : Nat) : gp (mirL l) i = (-(gp l i).2, -(gp l i).1) := by
  simp only [gp, mirL, List.getD_eq_getElem?_getD, List.getElem?_map]
  cases l[i]? <;> simp
theorem gp_rev {l : List Pt} {i : Nat} (h : i < l.length) : gp l.reverse i = gp l (l.length - 1 - i) := by
  simp [gp, List.getD_eq_getElem?_getD, List.getElem?_reverse h]
theorem read_rev {t : List Int} {l : List Pt} {i : Nat} (hi : i < l.length) : gp (readP t l.reverse) i = gp (readP t l) (l.length - 1 - i) := by
  have hi' : i < l.reverse.length := by simpa using hi
  have hj : l.length - 1 - i < l.length := by omega
  have key : ∀ p : Nat → Prop, ((∀ u, u < l.reverse.length → dist u i < t.length → p u) ↔ ∀ u, u < l.length → dist u (l.length - 1 - i) < t.length → p (l.length - 1 - u)) := by
    intro p
    constructor
    · intro h u hu hd
      exact h _ (by simp; omega) (by unfold dist at *; omega)
    · intro h u hu hd
      simp at hu
      have := h (l.length - 1 - u) (by omega) (by unfold dist at *; omega)
      rwa [show l.length - 1 - (l.length - 1 - u) = u by omega] at this
  have hdist : ∀ u, u < l.length → dist (l.length - 1 - u) i = dist u (l.length - 1 - i) := fun u hu => by unfold dist; omega
  refine Prod.ext (eq_of_ge_iff fun x => ?_) (eq_of_le_iff fun x => ?_)
  · rw [in_le hi', in_le hj, key, gp_rev hi]
    refine and_congr_right fun _ => forall_congr' fun u => forall_congr' fun hu => ?_
    rw [gp_rev (by omega), hdist u hu, show l.length - 1 - (l.length - 1 - u) = u by omega]
  · rw [le_out hi', le_out hj, key, gp_rev hi]
    refine and_congr_right fun _ => forall_congr' fun u => forall_congr' fun hu => ?_
    rw [gp_rev (by omega), hdist u hu, show l.length - 1 - (l.length - 1 - u) = u by omega]
theorem read_mir {t : List Int} {l : List Pt} {i : Nat} (hi : i < l.length) : gp (readP t (mirL l)) i = (-(gp (readP t l) i).2, -(gp (readP t l) i).1) := by
  have hi' : i < (mirL l).length := by rw [mirL_length]; exact hi
  refine Prod.ext (eq_of_ge_iff fun x => ?_) (eq_of_le_iff fun x => ?_)
  · have e : -(gp (readP t l) i).2 ≤ x ↔ -x ≤ (gp (readP t l) i).2 := by omega
    show _ ↔ -(gp (readP t l) i).2 ≤ x
    rw [e, in_le hi', le_out hi, mirL_length, gp_mirL]
    refine and_congr (by dsimp only; omega) (forall_congr' fun u => forall_congr' fun _ => forall_congr' fun _ => ?_)
    rw [gp_mirL]
    dsimp only
    omega
  · have e : x ≤ -(gp (readP t l) i).1 ↔ (gp (readP t l) i).1 ≤ -x := by omega
    show _ ↔ x ≤ -(gp (readP t l) i).1
    rw [e, le_out hi', in_le hi, mirL_length, gp_mirL]
    refine and_congr (by dsimp only; omega) (forall_congr' fun u => forall_congr' fun _ => forall_congr' fun _ => ?_)
    rw [gp_mirL]
    dsimp only
    omega
theorem gp_take {l : List Pt} {m i : Nat} (h : i < m) : gp (l.take m) i = gp l i := by simp [gp, List.getD_eq_getElem?_getD, List.getElem?_take, h]
theorem read_part {t : List Int} {l : List Pt} {m i : Nat} (hm : m ≤ l.length) (hi : i < m) : ((gp (readP t l) i).2 ≤ (gp (readP t (l.take m)) i).2 ∧ (gp (readP t (l.take m)) i).1 ≤ (gp (readP t l) i).1) ∧ (i + t.length ≤ m → gp (readP t (l.take m)) i = gp (readP t l) i) := by
  have hl : (l.take m).length = m := by simp; omega
  have hi' : i < (l.take m).length := by omega
  have o1 := (le_out (t := t) (l := l) (i := i) (by omega) (x := (gp (readP t l) i).2)).1 (Int.le_refl _)
  have o2 := (in_le (t := t) (l := l) (i := i) (by omega) (x := (gp (readP t l) i).1)).1 (Int.le_refl _)
  refine ⟨⟨(le_out hi').2 ⟨?_, fun u hu hd => ?_⟩, (in_le hi').2 ⟨?_, fun u hu hd => ?_⟩⟩, fun ht => ?_⟩
  · rw [gp_take hi]; exact o1.1
  · rw [gp_take (by omega)]; exact o1.2 u (by omega) hd
  · rw [gp_take hi]; exact o2.1
  · rw [gp_take (by omega)]; exact o2.2 u (by omega) hd
  · have near : ∀ u, dist u i < t.length → u < m := fun u hd => by unfold dist at hd; omega
    refine Prod.ext (eq_of_ge_iff fun x => ?_) (eq_of_le_iff fun x => ?_)
    · rw [in_le hi', in_le (by omega), gp_take hi, hl]
      refine and_congr_right fun _ => ⟨fun h u hu hd => ?_, fun h u hu hd => ?_⟩
      · have := h u (near u hd) hd; rwa [gp_take (near u hd)] at this
      · have := h u (by omega) hd; rwa [gp_take hu]
    · rw [le_out hi', le_out (by omega), gp_take hi, hl]
      refine and_congr_right fun _ => ⟨fun h u hu hd => ?_, fun h u hu hd => ?_⟩
      · have := h u (near u hd) hd; rwa [gp_take (near u hd)] at this
      · have := h u (by omega) hd; rwa [gp_take hu]
theorem inside_part {t : List Int} {l : List Pt} {m : Nat} (hm : m ≤ l.length) : Inside ((readP t l).take m) (readP t (l.take m)) := by
  have h1 : ((readP t l).take m).length = m := by rw [List.length_take, readP_length]; omega
  refine ⟨by rw [h1, readP_length]; simp; omega, fun k hk => ?_⟩
  rw [h1] at hk
  have := (read_part (t := t) hm hk).1
  unfold inK
  rw [gp_take hk]
  exact this
theorem bendAt_mir (l : List Pt) (i : Nat) : bendAt (mirL l) i = -bendAt l i := by
  unfold bendAt
  rw [gp_mirL, gp_mirL, gp_mirL]
  dsimp only
  omega
theorem gi_bends_mir (l : List Pt) (k : Nat) : gi (bendsL (mirL l)) k = -gi (bendsL l) k := by
  simp only [gi, bendsL, bendsTo, mirL_length, List.getD_eq_getElem?_getD, List.getElem?_map]
  by_cases h : k < l.length - 2
  · simp [List.getElem?_range h, bendAt_mir]
  · simp [List.getElem?_eq_none (show (List.range (l.length - 2)).length ≤ k by simp; omega)]
theorem max_mir (l : List Pt) : ∀ k, maxTo (bendsL (mirL l)) k = -minTo (bendsL l) k ∧ minTo (bendsL (mirL l)) k = -maxTo (bendsL l) k
  | 0 => by simp [maxTo, minTo, gi_bends_mir]
  | k + 1 => by
    obtain ⟨h1, h2⟩ := max_mir l k
    simp only [maxTo, minTo, h1, h2, gi_bends_mir]
    omega
theorem hold_mir (l : List Pt) (h : checkPts l = 0) (h' : checkPts (mirL l) = 0) : (balArm l).1 = (balArm (mirL l)).1 := by
  unfold balArm balHi balLo
  rw [mirL_length, (max_mir l _).1, (max_mir l _).2, h, h']
  split
  · dsimp only; congr 1; omega
  · rfl
theorem bd_rev {l : List Pt} (h : Bd l) : Bd l.reverse := fun p hp => h p (by simpa using hp)
theorem bd_mir {l : List Pt} (h : Bd l) : Bd (mirL l) := fun p hp => by
  simp only [mirL, List.mem_map] at hp
  obtain ⟨q, hq, rfl⟩ := hp
  have := h q hq
  dsimp only
  omega
theorem bd_take {l : List Pt} (h : Bd l) (m : Nat) : Bd (l.take m) := fun p hp => h p (List.mem_of_mem_take hp)
end Go.Proofs.Ytlfaaddoemcokaa
