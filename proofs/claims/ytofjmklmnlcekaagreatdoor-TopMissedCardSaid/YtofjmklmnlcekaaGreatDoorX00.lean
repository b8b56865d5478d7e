/-
  Several texts in one: Where something holds first. No condition. .. A row that grew by one. No condition.
-/
import Derived.Test.YtofjmklmnlcekaaGreatDoorMD
namespace Go.Ab
open Go.RowKit Go.Dw
def idxF (p : Nat → Bool) (n : Nat) : Int := match (List.range n).find? p with | some i => (i : Int) | none => -1
theorem idxF_inv {p : Nat → Bool} {n : Nat} : (idxF p n = -1 ∧ ∀ j, j < n → p j = false) ∨ ∃ i, i < n ∧ idxF p n = i ∧ p i = true ∧ ∀ j, j < i → p j = false := by
 cases h : (List.range n).find? p with
 | none => exact .inl ⟨by rw [idxF, h], by simpa using h⟩
 | some i =>
  obtain ⟨h1, h2, h3⟩ := List.find?_range_eq_some.1 h
  exact .inr ⟨i, by simpa using h2, by rw [idxF, h], h1, by simpa using h3⟩
end Go.Ab

namespace Go.Ab
open Go.RowKit Go.Dw
def chN : Nat → Nat → Nat
 | _, 0 => 1
 | 0, _ + 1 => 0
 | n + 1, k + 1 => chN n k + chN n (k + 1)
theorem chN_zero (n : Nat) : chN n 0 = 1 := by cases n <;> rfl
theorem chN_succ (n k : Nat) : chN (n + 1) (k + 1) = chN n k + chN n (k + 1) := rfl
theorem chN_gt : ∀ (n k : Nat), n < k → chN n k = 0
 | 0, k + 1, _ => rfl
 | n + 1, k + 1, h => by rw [chN_succ, chN_gt n k oM, chN_gt n (k + 1) oM]
theorem chN_self : ∀ n : Nat, chN n n = 1
 | 0 => rfl
 | n + 1 => by rw [chN_succ, chN_self n, chN_gt n (n + 1) oM]
theorem chN_pow : ∀ (n k : Nat), chN n k ≤ 2 ^ n
 | 0, 0 => by decide
 | n + 1, 0 => by rw [chN_zero]; exact Nat.one_le_two_pow
 | 0, k + 1 => Nat.zero_le _
 | n + 1, k + 1 => by
  rw [chN_succ, Nat.pow_succ]
  have := chN_pow n k
  have := chN_pow n (k + 1)
  omega
theorem chN_50 {n : Nat} (h : n ≤ 50) (k : Nat) : chN n k ≤ 1125899906842624 := Nat.le_trans (chN_pow n k) (Nat.le_trans (Nat.pow_le_pow_right (by decide) h) (by decide))
def chO (n s k : Nat) : Nat := if k ≤ s then chN n (s - k) else 0
def wysN (b r s : Nat) : Nat → Nat
 | 0 => 0
 | m + 1 => wysN b r s m + chN b m * chO r s m
theorem wys_zero (r s : Nat) : ∀ m : Nat, wysN 0 r s (m + 1) = chN r s
 | 0 => by simp [wysN, chN_zero, chO]
 | m + 1 => by
  rw [wysN, wys_zero r s m]
  simp [chN]
theorem wys_step (b r s : Nat) : ∀ m : Nat, wysN (b + 1) r (s + 1) (m + 1) = wysN b r (s + 1) (m + 1) + wysN b r s m
 | 0 => by simp [wysN, chN_zero]
 | m + 1 => by
  rw [wysN, wys_step b r s m, wysN.eq_2 b r (s + 1) (m + 1), wysN.eq_2 b r s m, chN_succ, Nat.add_mul]
  have : chO r (s + 1) (m + 1) = chO r s m := by simp [chO]
  rw [this]
  omega
theorem wys_none (b r : Nat) : ∀ m : Nat, wysN b r 0 (m + 1) = 1
 | 0 => by simp [wysN, chN_zero, chO]
 | m + 1 => by
  rw [wysN, wys_none b r m]
  simp [chO]
theorem wys_le : ∀ (b r s m : Nat), wysN b r s m ≤ chN (b + r) s
 | b, r, s, 0 => by simp [wysN]
 | 0, r, s, m + 1 => by rw [wys_zero, Nat.zero_add]; exact Nat.le_refl _
 | b + 1, r, 0, m + 1 => by rw [wys_none, chN_zero]; exact Nat.le_refl _
 | b + 1, r, s + 1, m + 1 => by
  rw [wys_step, show b + 1 + r = (b + r) + 1 by omega, chN_succ]
  have := wys_le b r (s + 1) (m + 1)
  have := wys_le b r s m
  omega
theorem wys_all {b n : Nat} (h : b ≤ n) : ∀ m : Nat, m ≤ b → wysN b (n - b) n m = 0
 | 0, _ => rfl
 | m + 1, hm => by
  rw [wysN, wys_all h m oM, chO, if_pos oM, chN_gt (n - b) (n - m) oM]
  rfl
theorem wys_first (b r s : Nat) : wysN b r s 1 = chN r s := by simp [wysN, chN_zero, chO]
def holdN (n b : Nat) (re ac : Int) (s m : Nat) : Bool :=
 decide (1000 * ((chN n s : Int) - wysN 0 n s (m + 1)) ≤ re * chN n s) && decide (1000 * (wysN b (n - b) s (m + 1) : Int) ≤ ac * chN n s)
def smpM (n b : Nat) (re ac : Int) (s : Nat) : Int := idxF (holdN n b re ac s) (n + 1)
def smpS (n b : Nat) (re ac : Int) : Int := idxF (fun s => decide (0 ≤ smpM n b re ac s)) (n + 1)
theorem smp_ex {n b : Nat} {re ac : Int} (hb : 1 ≤ b) (hn : b ≤ n) (hr : 0 ≤ re) (ha : 0 ≤ ac) : holdN n b re ac n (b - 1) = true := by
 have e : b - 1 + 1 = b := by omega
 rw [holdN, e, wys_all hn b (Nat.le_refl _), chN_self]
 obtain ⟨c, rfl⟩ : ∃ c, b = c + 1 := ⟨b - 1, by omega⟩
 rw [wys_zero, chN_self]
 simp only [Bool.and_eq_true, decide_eq_true_eq]
 omega
theorem smpM_none {n b : Nat} {re ac : Int} {s : Nat} (h : smpM n b re ac s = -1) (j : Nat) (hj : j ≤ n) : holdN n b re ac s j = false := by
 rcases idxF_inv (p := holdN n b re ac s) (n := n + 1) with ⟨_, h2⟩ | ⟨m, _, e2, _, _⟩
 ·
  exact h2 j oM
 ·
  have e3 : smpM n b re ac s = m := e2
  rw [e3] at h
  omega
theorem smp_at {n b : Nat} {re ac : Int} (hb : 1 ≤ b) (hn : b ≤ n) (hr : 0 ≤ re) (ha : 0 ≤ ac) :
  ∃ s m : Nat, smpS n b re ac = s ∧ smpM n b re ac s = m ∧ s ≤ n ∧ m ≤ n ∧ holdN n b re ac s m = true ∧ (∀ k, k < s → smpM n b re ac k = -1) ∧ ∀ j, j < m → holdN n b re ac s j = false := by
 rcases idxF_inv (p := fun s => decide (0 ≤ smpM n b re ac s)) (n := n + 1) with ⟨_, h⟩ | ⟨s, hs, e, h, h0⟩
 ·
  exfalso
  have h1 := h n oM
  rcases idxF_inv (p := holdN n b re ac n) (n := n + 1) with ⟨e2, h2⟩ | ⟨m, hm, e2, h2, _⟩
  ·
   have := h2 (b - 1) oM
   rw [smp_ex hb hn hr ha] at this
   cases this
  ·
   have e3 : smpM n b re ac n = m := e2
   rw [e3] at h1
   simp at h1
 ·
  rcases idxF_inv (p := holdN n b re ac s) (n := n + 1) with ⟨e2, h2⟩ | ⟨m, hm, e2, h2, h3⟩
  ·
   have e3 : smpM n b re ac s = -1 := e2
   rw [e3] at h
   cases h
  ·
   refine ⟨s, m, e, e2, by omega, by omega, h2, fun k hk => ?_, h3⟩
   have h4 := h0 k hk
   rcases idxF_inv (p := holdN n b re ac k) (n := n + 1) with ⟨e4, _⟩ | ⟨j, _, e4, _, _⟩
   ·
    exact e4
   ·
    have e5 : smpM n b re ac k = j := e4
    rw [e5] at h4
    simp at h4
structure Mt where
 a : Nat
 b : Nat
 m : Int
def Mt.c (x : Mt) : List V := [.i x.a, .i x.b, .i x.m]
def gmt (l : List Mt) (k : Nat) : Mt := l.getD k ⟨0, 0, 0⟩
def V.mts (l : List Mt) : V := .sl 3 l.length fun k => (gmt l k).c
def mntL : Nat → List Int → List Int → Nat → Nat → Int → List Mt
 | 0, _, _, _, _, _ => []
 | u + 1, x, y, i, k, d =>
  if 0 < d then
   let n := min (min (gi x i) (gi y k)) d
   let x' := x.set i (gi x i - n)
   let y' := y.set k (gi y k - n)
   let rest := if gi x' i = 0 then mntL u x' y' (i + 1) k (d - n) else if gi y' k = 0 then mntL u x' y' i (k + 1) (d - n) else mntL u x' y' i k (d - n)
   if 0 < n then ⟨i, k, n⟩ :: rest else rest
  else []
def sumF (x : List Int) (i : Nat) : Int := (x.drop i).sum
def NN (x : List Int) : Prop := ∀ v ∈ x, 0 ≤ v
theorem gi_memM {x : List Int} {i : Nat} (h : i < x.length) : gi x i ∈ x := by
 rw [gi, List.getD_eq_getElem?_getD, List.getElem?_eq_getElem h]
 exact List.getElem_mem _
theorem sumF_at {x : List Int} {i : Nat} (h : i < x.length) : sumF x i = gi x i + sumF x (i + 1) := by
 rw [sumF, sumF, List.drop_eq_getElem_cons h, List.sum_cons, gi, List.getD_eq_getElem?_getD, List.getElem?_eq_getElem h]
 rfl
theorem sumF_end {x : List Int} {i : Nat} (h : x.length ≤ i) : sumF x i = 0 := by rw [sumF, List.drop_eq_nil_of_le h]; rfl
theorem sumF_set {x : List Int} {i j : Nat} (v : Int) (h : i < j) : sumF (x.set i v) j = sumF x j := by
 rw [sumF, sumF, List.drop_set_of_lt h]
theorem gi_set {x : List Int} {i : Nat} (v : Int) (h : i < x.length) : gi (x.set i v) i = v := by
 simp [gi, h]
theorem gi_set_ne {x : List Int} {i j : Nat} (v : Int) (h : i ≠ j) : gi (x.set i v) j = gi x j := by
 simp [gi, List.getElem?_set_ne h]
theorem NN_set {x : List Int} {i : Nat} {v : Int} (h : NN x) (hv : 0 ≤ v) : NN (x.set i v) := fun w hw => by
 rcases List.mem_or_eq_of_mem_set hw with h1 | h1
 ·
  exact h w h1
 ·
  rw [h1]; exact hv
theorem sumF_nn : ∀ (x : List Int), NN x → 0 ≤ x.sum
 | [], _ => by decide
 | v :: x, h => by
  rw [List.sum_cons]
  have := h v (by simp)
  have := sumF_nn x fun w hw => h w (by simp [hw])
  omega
theorem sumF_0 {x : List Int} (h : NN x) (i : Nat) : 0 ≤ sumF x i := sumF_nn _ fun w hw => h w (List.mem_of_mem_drop hw)
theorem sumF_le {x : List Int} (h : NN x) {i : Nat} (hi : 0 < sumF x i) : i < x.length := by
 rcases Nat.lt_or_ge i x.length with h1 | h1
 ·
  exact h1
 ·
  rw [sumF_end h1] at hi; omega
structure MOk (u : Nat) (x y : List Int) (i k : Nat) (d : Int) : Prop where
 nx : NN x
 ny : NN y
 d0 : 0 ≤ d
 dx : d ≤ sumF x i
 dy : d ≤ sumF y k
 fu : 0 < d → (x.length - i) + (y.length - k) ≤ u
theorem MOk.ix {u x y i k d} (h : MOk u x y i k d) (hd : 0 < d) : i < x.length := sumF_le h.nx (by have := h.dx; omega)
theorem MOk.iy {u x y i k d} (h : MOk u x y i k d) (hd : 0 < d) : k < y.length := sumF_le h.ny (by have := h.dy; omega)
def mtN (x y : List Int) (i k : Nat) (d : Int) : Int := min (min (gi x i) (gi y k)) d
theorem MOk.n0 {u x y i k d} (h : MOk u x y i k d) (hd : 0 < d) : 0 ≤ mtN x y i k d ∧ mtN x y i k d ≤ d ∧ mtN x y i k d ≤ gi x i ∧ mtN x y i k d ≤ gi y k := by
 have h1 := h.nx _ (gi_memM (h.ix hd))
 have h2 := h.ny _ (gi_memM (h.iy hd))
 unfold mtN
 omega
theorem MOk.stepx {u x y i k d} (h : MOk (u + 1) x y i k d) (hd : 0 < d) (h0 : gi x i - mtN x y i k d = 0) : MOk u (x.set i (gi x i - mtN x y i k d)) (y.set k (gi y k - mtN x y i k d)) (i + 1) k (d - mtN x y i k d) := by
 obtain ⟨n0, n1, n2, n3⟩ := h.n0 hd
 have hx := h.ix hd
 have hy := h.iy hd
 have e1 := sumF_at hx
 have e2 := sumF_at hy
 refine ⟨NN_set h.nx oM, NN_set h.ny oM, by omega, ?_, ?_, fun _ => ?_⟩
 ·
  rw [sumF_set _ oM]
  have := h.dx
  omega
 ·
  rw [sumF_at (by simpa using hy), gi_set _ hy, sumF_set _ oM]
  have := h.dy
  omega
 ·
  have := h.fu hd
  simp only [List.length_set]
  omega
theorem MOk.stepy {u x y i k d} (h : MOk (u + 1) x y i k d) (hd : 0 < d) (h0 : gi y k - mtN x y i k d = 0) : MOk u (x.set i (gi x i - mtN x y i k d)) (y.set k (gi y k - mtN x y i k d)) i (k + 1) (d - mtN x y i k d) := by
 obtain ⟨n0, n1, n2, n3⟩ := h.n0 hd
 have hx := h.ix hd
 have hy := h.iy hd
 have e1 := sumF_at hx
 have e2 := sumF_at hy
 refine ⟨NN_set h.nx oM, NN_set h.ny oM, by omega, ?_, ?_, fun _ => ?_⟩
 ·
  rw [sumF_at (by simpa using hx), gi_set _ hx, sumF_set _ oM]
  have := h.dx
  omega
 ·
  rw [sumF_set _ oM]
  have := h.dy
  omega
 ·
  have := h.fu hd
  simp only [List.length_set]
  omega
theorem MOk.stepz {u x y i k d} (h : MOk (u + 1) x y i k d) (hd : 0 < d) (h0 : ¬ gi x i - mtN x y i k d = 0) (h1 : ¬ gi y k - mtN x y i k d = 0) : d - mtN x y i k d = 0 ∧ MOk u (x.set i (gi x i - mtN x y i k d)) (y.set k (gi y k - mtN x y i k d)) i k (d - mtN x y i k d) := by
 obtain ⟨n0, n1, n2, n3⟩ := h.n0 hd
 have hx := h.ix hd
 have hy := h.iy hd
 have e0 : d - mtN x y i k d = 0 := by unfold mtN at *; omega
 refine ⟨e0, NN_set h.nx oM, NN_set h.ny oM, by omega, ?_, ?_, fun h => by omega⟩
 ·
  rw [e0]; exact sumF_0 (NN_set h.nx oM) _
 ·
  rw [e0]; exact sumF_0 (NN_set h.ny oM) _
theorem mntL_end (u : Nat) (x y : List Int) (i k : Nat) {d : Int} (h : ¬ 0 < d) : mntL u x y i k d = [] := by
 cases u with
 | zero => rfl
 | succ u => rw [mntL, if_neg h]
def mtA (x y : List Int) (i k : Nat) (d : Int) : List Mt := if 0 < mtN x y i k d then [⟨i, k, mtN x y i k d⟩] else []
theorem mntL_x {u x y i k d} (h : MOk (u + 1) x y i k d) (hd : 0 < d) (h0 : gi x i - mtN x y i k d = 0) : mntL (u + 1) x y i k d = mtA x y i k d ++ mntL u (x.set i (gi x i - mtN x y i k d)) (y.set k (gi y k - mtN x y i k d)) (i + 1) k (d - mtN x y i k d) := by
 rw [mntL, if_pos hd]
 show (if 0 < mtN x y i k d then _ :: (if gi (x.set i (gi x i - mtN x y i k d)) i = 0 then _ else _) else (if gi (x.set i (gi x i - mtN x y i k d)) i = 0 then _ else _)) = _
 rw [if_pos (show gi (x.set i (gi x i - mtN x y i k d)) i = 0 by rw [gi_set _ (h.ix hd)]; exact h0), mtA]
 by_cases hn : 0 < mtN x y i k d
 ·
  rw [if_pos hn, if_pos hn]; rfl
 ·
  rw [if_neg hn, if_neg hn]; rfl
theorem mntL_y {u x y i k d} (h : MOk (u + 1) x y i k d) (hd : 0 < d) (h0 : ¬ gi x i - mtN x y i k d = 0) (h1 : gi y k - mtN x y i k d = 0) : mntL (u + 1) x y i k d = mtA x y i k d ++ mntL u (x.set i (gi x i - mtN x y i k d)) (y.set k (gi y k - mtN x y i k d)) i (k + 1) (d - mtN x y i k d) := by
 rw [mntL, if_pos hd]
 show (if 0 < mtN x y i k d then _ :: (if gi (x.set i (gi x i - mtN x y i k d)) i = 0 then _ else (if gi (y.set k (gi y k - mtN x y i k d)) k = 0 then _ else _)) else (if gi (x.set i (gi x i - mtN x y i k d)) i = 0 then _ else (if gi (y.set k (gi y k - mtN x y i k d)) k = 0 then _ else _))) = _
 rw [if_neg (show ¬ gi (x.set i (gi x i - mtN x y i k d)) i = 0 by rw [gi_set _ (h.ix hd)]; exact h0), if_pos (show gi (y.set k (gi y k - mtN x y i k d)) k = 0 by rw [gi_set _ (h.iy hd)]; exact h1), mtA]
 by_cases hn : 0 < mtN x y i k d
 ·
  rw [if_pos hn, if_pos hn]; rfl
 ·
  rw [if_neg hn, if_neg hn]; rfl
theorem mntL_z {u x y i k d} (h : MOk (u + 1) x y i k d) (hd : 0 < d) (h0 : ¬ gi x i - mtN x y i k d = 0) (h1 : ¬ gi y k - mtN x y i k d = 0) : mntL (u + 1) x y i k d = mtA x y i k d ++ mntL u (x.set i (gi x i - mtN x y i k d)) (y.set k (gi y k - mtN x y i k d)) i k (d - mtN x y i k d) := by
 rw [mntL, if_pos hd]
 show (if 0 < mtN x y i k d then _ :: (if gi (x.set i (gi x i - mtN x y i k d)) i = 0 then _ else (if gi (y.set k (gi y k - mtN x y i k d)) k = 0 then _ else _)) else (if gi (x.set i (gi x i - mtN x y i k d)) i = 0 then _ else (if gi (y.set k (gi y k - mtN x y i k d)) k = 0 then _ else _))) = _
 rw [if_neg (show ¬ gi (x.set i (gi x i - mtN x y i k d)) i = 0 by rw [gi_set _ (h.ix hd)]; exact h0), if_neg (show ¬ gi (y.set k (gi y k - mtN x y i k d)) k = 0 by rw [gi_set _ (h.iy hd)]; exact h1), mtA]
 by_cases hn : 0 < mtN x y i k d
 ·
  rw [if_pos hn, if_pos hn]; rfl
 ·
  rw [if_neg hn, if_neg hn]; rfl
theorem mntL_app {u x y i k d} (h : MOk (u + 1) x y i k d) (hd : 0 < d) : ∃ R, mntL (u + 1) x y i k d = mtA x y i k d ++ R := by
 by_cases h0 : gi x i - mtN x y i k d = 0
 ·
  exact ⟨_, mntL_x h hd h0⟩
 ·
  by_cases h1 : gi y k - mtN x y i k d = 0
  ·
   exact ⟨_, mntL_y h hd h0 h1⟩
  ·
   exact ⟨_, mntL_z h hd h0 h1⟩
theorem mntL_len : ∀ (u : Nat) (x y : List Int) (i k : Nat) (d : Int), (mntL u x y i k d).length ≤ u
 | 0, _, _, _, _, _ => Nat.le_refl _
 | u + 1, x, y, i, k, d => by
  have h1 := fun x y i k d => mntL_len u x y i k d
  rw [mntL]
  split
  ·
   simp only
   split <;> (try rw [List.length_cons]) <;> split <;> (try split) <;> first | exact Nat.succ_le_succ (h1 _ _ _ _ _) | exact Nat.le_succ_of_le (h1 _ _ _ _ _)
  ·
   simp
theorem drop_app {L A R : List Mt} {q : Nat} (h : L.drop q = A ++ R) : L.drop (q + A.length) = R := by
 rw [← List.drop_drop, h, List.drop_left]
theorem drop_le {L A R : List Mt} {q : Nat} (hq : q ≤ L.length) (h : L.drop q = A ++ R) : q + A.length ≤ L.length := by
 have := congrArg List.length h
 rw [List.length_drop, List.length_append] at this
 omega
def manyL (l : List Mt) : Int := (l.map Mt.m).sum
def manyA (l : List Mt) (s : Nat) : Int := ((l.filter fun x => x.a = s).map Mt.m).sum
theorem mtA_many (x y : List Int) (i k : Nat) (d : Int) (h : 0 ≤ mtN x y i k d) : manyL (mtA x y i k d) = mtN x y i k d := by
 unfold mtA manyL
 split
 ·
  simp
 ·
  simp; omega
theorem mtA_manyA (x y : List Int) (i k : Nat) (d : Int) (h : 0 ≤ mtN x y i k d) (s : Nat) : manyA (mtA x y i k d) s = if i = s then mtN x y i k d else 0 := by
 unfold mtA manyA
 split
 ·
  by_cases hs : i = s <;> simp [hs]
 ·
  simp; intro _; omega
theorem manyL_app (a b : List Mt) : manyL (a ++ b) = manyL a + manyL b := by simp [manyL]
theorem manyA_app (a b : List Mt) (s : Nat) : manyA (a ++ b) s = manyA a s + manyA b s := by simp [manyA]
def MGood (L : List Mt) (x y : List Int) (i : Nat) (d : Int) : Prop := manyL L = d ∧ (∀ s, 0 ≤ manyA L s ∧ manyA L s ≤ manyL L ∧ (i ≤ s → manyA L s ≤ gi x s) ∧ (s < i → manyA L s = 0)) ∧ ∀ z ∈ L, 0 < z.m ∧ z.m ≤ d ∧ z.a < x.length ∧ z.b < y.length
theorem many_all : ∀ (u : Nat) (x y : List Int) (i k : Nat) (d : Int), MOk u x y i k d → MGood (mntL u x y i k d) x y i d := by
 intro u
 induction u with
 | zero =>
  intro x y i k d h
  have hd : d = 0 := by
   rcases Int.lt_or_le 0 d with h1 | h1
   ·
    have := h.fu h1
    have := h.ix h1
    omega
   ·
    have := h.d0; omega
  refine ⟨by rw [hd]; rfl, fun s => ⟨Int.le_refl 0, Int.le_refl 0, fun hs => ?_, fun _ => rfl⟩, fun z hz => by cases hz⟩
  show (0 : Int) ≤ gi x s
  rcases Nat.lt_or_ge s x.length with h1 | h1
  ·
   exact h.nx _ (gi_memM h1)
  ·
   rw [gi, List.getD_eq_getElem?_getD, List.getElem?_eq_none h1]; decide
 | succ u ih =>
  intro x y i k d h
  by_cases hd : 0 < d
  ·
   obtain ⟨n0, n1, n2, n3⟩ := h.n0 hd
   have hx := h.ix hd
   have hy := h.iy hd
   have key : ∀ (i' k' : Nat), i ≤ i' → i' ≤ i + 1 → MOk u (x.set i (gi x i - mtN x y i k d)) (y.set k (gi y k - mtN x y i k d)) i' k' (d - mtN x y i k d) → (mntL (u + 1) x y i k d = mtA x y i k d ++ mntL u (x.set i (gi x i - mtN x y i k d)) (y.set k (gi y k - mtN x y i k d)) i' k' (d - mtN x y i k d)) → MGood (mntL (u + 1) x y i k d) x y i d := by
    intro i' k' h1 h2 h3 h4
    unfold MGood
    obtain ⟨a1, a2, a3⟩ := ih _ _ _ _ _ h3
    rw [h4, manyL_app, mtA_many _ _ _ _ _ n0, a1]
    refine ⟨by omega, fun s => ?_, fun z hz => ?_⟩
    ·
     obtain ⟨b1, b2, b3, b4⟩ := a2 s
     rw [manyA_app, mtA_manyA _ _ _ _ _ n0]
     rw [a1] at b2
     by_cases hs : i = s
     ·
      subst hs
      rw [if_pos rfl]
      refine ⟨by omega, by omega, fun _ => ?_, fun hs => by omega⟩
      rcases Nat.lt_or_ge i i' with h5 | h5
      ·
       rw [b4 h5]; omega
      ·
       have := b3 h5
       rw [gi_set _ hx] at this
       omega
     ·
      rw [if_neg hs]
      refine ⟨by omega, by omega, fun h5 => ?_, fun h5 => ?_⟩
      ·
       have := b3 oM
       rw [gi_set_ne _ hs] at this
       omega
      ·
       rw [b4 oM]; decide
    ·
     rcases List.mem_append.1 hz with h5 | h5
     ·
      unfold mtA at h5
      split at h5
      ·
       rw [List.mem_singleton] at h5
       subst h5
       exact ⟨by assumption, n1, hx, hy⟩
      ·
       cases h5
     ·
      obtain ⟨c1, c2, c3, c4⟩ := a3 z h5
      rw [List.length_set] at c3 c4
      exact ⟨c1, by omega, c3, c4⟩
   by_cases h0 : gi x i - mtN x y i k d = 0
   ·
    exact key (i + 1) k oM oM (h.stepx hd h0) (mntL_x h hd h0)
   ·
    by_cases h1 : gi y k - mtN x y i k d = 0
    ·
     exact key i (k + 1) oM oM (h.stepy hd h1) (mntL_y h hd h0 h1)
    ·
     exact key i k oM oM (h.stepz hd h0 h1).2 (mntL_z h hd h0 h1)
  ·
   rw [mntL_end _ _ _ _ _ hd]
   have := h.d0
   unfold MGood
   refine ⟨by show (0 : Int) = d; omega, fun s => ⟨Int.le_refl 0, Int.le_refl 0, fun hs => ?_, fun _ => rfl⟩, fun z hz => by cases hz⟩
   show (0 : Int) ≤ gi x s
   rcases Nat.lt_or_ge s x.length with h1 | h1
   ·
    exact h.nx _ (gi_memM h1)
   ·
    rw [gi, List.getD_eq_getElem?_getD, List.getElem?_eq_none h1]; decide
structure MSt where
 u : Nat
 x : List Int
 y : List Int
 i : Nat
 k : Nat
 d : Int
 q : Nat
theorem gmt_at {L R : List Mt} {z : Mt} {q : Nat} (h : L.drop q = z :: R) : q < L.length ∧ gmt L q = z ∧ L.drop (q + 1) = R := by
 have h1 : q < L.length := by
  rcases Nat.lt_or_ge q L.length with h1 | h1
  ·
   exact h1
  ·
   rw [List.drop_eq_nil_of_le h1] at h; cases h
 rw [List.drop_eq_getElem_cons h1] at h
 injection h with h2 h3
 exact ⟨h1, by rw [gmt, List.getD_eq_getElem?_getD, List.getElem?_eq_getElem h1]; exact h2, h3⟩
theorem gi_upd (x : List Int) (i : Nat) (v : Int) (j : Nat) (hi : i < x.length) : gi (x.set i v) j = if j = i then v else gi x j := by
 by_cases h : j = i
 ·
  subst h; rw [if_pos rfl, gi_set _ hi]
 ·
  rw [if_neg h, gi_set_ne _ (Ne.symm h)]
def rmtL : Nat → List Int → List Int → Nat → Nat → Int → List Mt
 | 0, _, _, _, _, _ => []
 | u + 1, x, y, i, k, d =>
  if 0 < d then
   if gi x i = 0 then rmtL u x y (i + 1) k d else if gi y k = 0 then rmtL u x y i (k + 1) d
   else ⟨i, k, mtN x y i k d⟩ :: rmtL u (x.set i (gi x i - mtN x y i k d)) (y.set k (gi y k - mtN x y i k d)) i k (d - mtN x y i k d)
  else []
structure RMok (u : Nat) (x y : List Int) (i k : Nat) (d : Int) : Prop where
 nx : NN x
 ny : NN y
 d0 : 0 ≤ d
 dx : d ≤ sumF x i
 dy : d ≤ sumF y k
 fu : (x.length - i) + (y.length - k) + d.toNat ≤ u
theorem RMok.ix {u x y i k d} (h : RMok u x y i k d) (hd : 0 < d) : i < x.length := sumF_le h.nx (by have := h.dx; omega)
theorem RMok.iy {u x y i k d} (h : RMok u x y i k d) (hd : 0 < d) : k < y.length := sumF_le h.ny (by have := h.dy; omega)
theorem RMok.pos {u x y i k d} (h : RMok u x y i k d) (hd : 0 < d) : ∃ v, u = v + 1 := ⟨u - 1, by have := h.fu; omega⟩
theorem RMok.stepx {u x y i k d} (h : RMok (u + 1) x y i k d) (hd : 0 < d) (h0 : gi x i = 0) : RMok u x y (i + 1) k d :=
 ⟨h.nx, h.ny, h.d0, by have := h.dx; rw [sumF_at (h.ix hd)] at this; omega, h.dy, by have := h.fu; have := h.ix hd; omega⟩
theorem RMok.stepy {u x y i k d} (h : RMok (u + 1) x y i k d) (hd : 0 < d) (h0 : gi y k = 0) : RMok u x y i (k + 1) d :=
 ⟨h.nx, h.ny, h.d0, h.dx, by have := h.dy; rw [sumF_at (h.iy hd)] at this; omega, by have := h.fu; have := h.iy hd; omega⟩
theorem RMok.nn {u x y i k d} (h : RMok u x y i k d) (hd : 0 < d) (h0 : ¬ gi x i = 0) (h1 : ¬ gi y k = 0) : 0 < mtN x y i k d ∧ mtN x y i k d ≤ d ∧ mtN x y i k d ≤ gi x i ∧ mtN x y i k d ≤ gi y k := by
 have h1 := h.nx _ (gi_memM (h.ix hd))
 have h2 := h.ny _ (gi_memM (h.iy hd))
 unfold mtN
 omega
theorem RMok.stepz {u x y i k d} (h : RMok (u + 1) x y i k d) (hd : 0 < d) (h0 : ¬ gi x i = 0) (h1 : ¬ gi y k = 0) : RMok u (x.set i (gi x i - mtN x y i k d)) (y.set k (gi y k - mtN x y i k d)) i k (d - mtN x y i k d) := by
 obtain ⟨n0, n1, n2, n3⟩ := h.nn hd h0 h1
 have hx := h.ix hd
 have hy := h.iy hd
 have e1 := sumF_at hx
 have e2 := sumF_at hy
 refine ⟨NN_set h.nx oM, NN_set h.ny oM, by omega, ?_, ?_, ?_⟩
 ·
  rw [sumF_at (by simpa using hx), gi_set _ hx, sumF_set _ oM]
  have := h.dx
  omega
 ·
  rw [sumF_at (by simpa using hy), gi_set _ hy, sumF_set _ oM]
  have := h.dy
  omega
 ·
  have := h.fu
  simp only [List.length_set]
  omega
theorem rmtL_end (u : Nat) (x y : List Int) (i k : Nat) {d : Int} (h : ¬ 0 < d) : rmtL u x y i k d = [] := by
 cases u with
 | zero => rfl
 | succ u => rw [rmtL, if_neg h]
theorem rmtL_x {u x y i k d} (hd : 0 < d) (h0 : gi x i = 0) : rmtL (u + 1) x y i k d = rmtL u x y (i + 1) k d := by rw [rmtL, if_pos hd, if_pos h0]
theorem rmtL_y {u x y i k d} (hd : 0 < d) (h0 : ¬ gi x i = 0) (h1 : gi y k = 0) : rmtL (u + 1) x y i k d = rmtL u x y i (k + 1) d := by rw [rmtL, if_pos hd, if_neg h0, if_pos h1]
theorem rmtL_z {u x y i k d} (hd : 0 < d) (h0 : ¬ gi x i = 0) (h1 : ¬ gi y k = 0) : rmtL (u + 1) x y i k d = ⟨i, k, mtN x y i k d⟩ :: rmtL u (x.set i (gi x i - mtN x y i k d)) (y.set k (gi y k - mtN x y i k d)) i k (d - mtN x y i k d) := by rw [rmtL, if_pos hd, if_neg h0, if_neg h1]
def mtE (x y : List Int) (d : Int) : Int := if x.sum < d ∨ y.sum < d then 15 else 0
theorem rmtL_len : ∀ (u : Nat) (x y : List Int) (i k : Nat) (d : Int), (rmtL u x y i k d).length ≤ u
 | 0, _, _, _, _, _ => Nat.le_refl _
 | u + 1, x, y, i, k, d => by
  have h1 := fun x y i k d => rmtL_len u x y i k d
  rw [rmtL]
  split
  ·
   split
   ·
    exact Nat.le_succ_of_le (h1 _ _ _ _ _)
   ·
    split
    ·
     exact Nat.le_succ_of_le (h1 _ _ _ _ _)
    ·
     rw [List.length_cons]; exact Nat.succ_le_succ (h1 _ _ _ _ _)
  ·
   simp
def mtV (x y : List Int) (d : Int) : V := if mtE x y d = 0 then .tup [V.mts (mntL (x.length + y.length) x y 0 0 d), .i 0] else .tup [.nil, .i 15]
def rmtV (x y : List Int) (d : Int) : V := if mtE x y d = 0 then .tup [V.mts (rmtL (x.length + y.length + d.toNat) x y 0 0 d), .i 0] else .tup [.nil, .i 15]
theorem mtE_ok {x y : List Int} {d : Int} : mtE x y d = 0 ↔ d ≤ x.sum ∧ d ≤ y.sum := by
 unfold mtE
 split
 ·
  constructor
  ·
   intro h; omega
  ·
   intro h; omega
 ·
  constructor
  ·
   intro h; omega
  ·
   intro h; rfl
theorem smp_pass {n b : Nat} {re ac : Int} {s m : Nat} (h : holdN n b re ac s m = true) : 1000 * (wysN b (n - b) s (m + 1) : Int) ≤ ac * chN n s := by
 unfold holdN at h
 simp only [Bool.and_eq_true, decide_eq_true_eq] at h
 exact h.2
def sqV (F : Nat → Nat → Nat) : List V := (List.range 2601).map fun j => V.i (F (j / 51) (j % 51))
theorem sqV_len (F : Nat → Nat → Nat) : (sqV F).length = 2601 := by simp [sqV]
theorem sqV_ren (g : Nat → Nat) (F : Nat → Nat → Nat) : V.renL g (sqV F) = sqV F := by kernel_rfl
theorem sqV_idf (F : Nat → Nat → Nat) : V.idfL (sqV F) = true := by kernel_rfl
theorem sqV_get {F : Nat → Nat → Nat} {n k o : Nat} {x : Int} (hn : n < 51) (hk : k < 51) (ho : o = n * 51 + k) (hx : (F n k : Int) = x) : (sqV F)[o]? = some (V.i x) := by
 subst ho hx
 have h1 : (n * 51 + k) / 51 = n := by omega
 have h2 : (n * 51 + k) % 51 = k := by omega
 have h3 : n * 51 + k < 2601 := by omega
 simp [sqV, h1, h2, h3]
theorem sqV_set {F G : Nat → Nat → Nat} {n k : Nat} {x : Int} (hn : n < 51) (hk : k < 51) (hx : (G n k : Int) = x) (hG : ∀ a b, b < 51 → ¬ (a = n ∧ b = k) → G a b = F a b) : (sqV F).set (n * 51 + k) (V.i x) = sqV G := by
 subst hx
 refine List.ext_getElem (by simp [sqV]) fun j h1 h2 => ?_
 have hj : j < 2601 := by rw [sqV_len] at h2; exact h2
 by_cases h : j = n * 51 + k
 ·
  subst h
  have h1 : (n * 51 + k) / 51 = n := by omega
  have h2 : (n * 51 + k) % 51 = k := by omega
  simp [sqV, h1, h2]
 ·
  rw [List.getElem_set_ne (Ne.symm h)]
  simp [sqV]
  rw [hG _ _ oM oM]
def triV : V := .ptr (sqV chN)
def triF (n k a b : Nat) : Nat := if a < n ∨ a = n ∧ b < k then chN a b else 0
def chV (n : Nat) (k : Int) : Int := if k < 0 then 0 else chN n k.toNat
theorem chV_nat (n k : Nat) : chV n k = chN n k := by rw [chV, if_neg oM, Int.toNat_natCast]
theorem chV_sub (n s k : Nat) : chV n ((s : Int) - k) = chO n s k := by
 unfold chV chO
 by_cases h : k ≤ s
 ·
  rw [if_neg oM, if_pos h, show ((s : Int) - k).toNat = s - k by omega]
 ·
  rw [if_pos oM, if_neg h]; rfl
end Go.Ab

namespace Go.Ab
open Go.RowKit Go.Dw
def Ob.fz (id : Nat) (v : V) : Ob → Ob
 | .box t cs => .box t (V.fzL id v cs)
 | .row e sz n r => .row e sz n r
 | .mp s f => .mp s (f.map (V.fz id v))
section
variable {P : Program} {b : Frame} {a : Act} {k : List Item} {cs : List Frame} {w : World} {F : Fence} {n : Nat}
theorem stepR_scope {c : Code} : step P (lone (b.atR a (.code (.scope c) :: k)) cs w) = .next (lone (b.atR a (.code c :: .inScope c :: k)) cs w) :=
 step_lone_go (by simp [stepG, stepG.exec, Frame.atR])
theorem stepR_inScope {c : Code} : step P (lone (b.atR a (.inScope c :: k)) cs w) = .next (lone (b.atR a k) cs w) :=
 step_lone_go (by simp [stepG, stepG.exec, Frame.atR])
def ExScope (Q : Exit → Act → World → Prop) : Exit → Act → World → Prop
 | .goto _, _, _ => False
 | e, a, w => Q e a w
theorem wpIn_scope {c : Code} {Q : Exit → Act → World → Prop} (h : c.wpIn F n P (ExScope Q) a w) : (Code.scope c).wpIn F n P Q a w := by
 intro b k cs hro hb hr
 have h0 : (lone (b.atR a (.code (.scope c) :: k)) cs w).fenced P F := fenced_calm hb hr rfl
 obtain ⟨e, a₁, w₁, hq, harr⟩ := h b (.inScope c :: k) cs hro hb hr
 cases e with
 | normal => exact ⟨.normal, a₁, w₁, hq, .head h0 stepR_scope (StepsIn.trans harr (.one (fenced_calm hb hr rfl) stepR_inScope))⟩
 | exit id =>
  have hx : exitTo id (.inScope c :: k) = exitTo id k := by simp [exitTo]
  exact ⟨.exit id, a₁, w₁, hq, fun k' hk => .head h0 stepR_scope (harr.1 k' (by rw [hx]; exact hk)),
   fun hr' hk => let ⟨k₁, h1, h2⟩ := harr.2 hr' (by rw [hx]; exact hk); ⟨k₁, h1, .head h0 stepR_scope h2⟩⟩
 | goto l => exact hq.elim
 | ret => exact ⟨_, a₁, w₁, hq, .of_steps (.one h0 stepR_scope) harr⟩
 | panic ch => exact ⟨_, a₁, w₁, hq, .of_steps (.one h0 stepR_scope) harr⟩
 | outgrown => exact ⟨_, a₁, w₁, hq, .of_steps (.one h0 stepR_scope) harr⟩
end
def XScope (Q : Exit → S → Prop) : Exit → S → Prop
 | .goto _, _ => False
 | e, s => Q e s
section
variable {P : Program} {N : Nat} {C : Cx P N} {Q : Exit → S → Prop} {s : S} {id : Nat}
theorem aw_scope {c : Code} (h : AW C c (XScope Q) s) : AW C (.scope c) Q s := by
 intro a w g
 refine wpIn_scope (wpIn_mono (h a w g) ?_)
 rintro e a' w' ⟨s', q, g', t⟩
 cases e with
 | goto l => exact q.elim
 | _ => exact ⟨s', q, g', t⟩
theorem xs_r (h : Q .ret s) : XScope Q .ret s := h
end
end Go.Ab

namespace Go.Ab
open Go.RowKit Go.Dw
mutual
def V.inN (n : Nat) : V → Bool
 | .agg cs => V.inNL n cs
 | .tup cs => V.inNL n cs
 | .fn _ a b => V.inNL n a && V.inNL n b
 | .ifc _ v => v.inN n
 | .gd _ v => v.inN n
 | .own i => decide (500 ≤ i) && decide (i < 500 + n)
 | .ref i _ => decide (500 ≤ i) && decide (i < 500 + n)
 | .oel i _ _ _ => decide (500 ≤ i) && decide (i < 500 + n)
 | .osl i _ _ _ => decide (500 ≤ i) && decide (i < 500 + n)
 | _ => true
def V.inNL (n : Nat) : List V → Bool
 | [] => true
 | v :: l => v.inN n && V.inNL n l
end
mutual
theorem idf_inN (n : Nat) : ∀ v : V, v.idf = true → v.inN n = true
 | .agg cs, h => by rw [V.idf] at h; rw [V.inN]; exact idf_inNL n cs h
 | .tup cs, h => by rw [V.idf] at h; rw [V.inN]; exact idf_inNL n cs h
 | .fn f a b, h => by rw [V.idf, Bool.and_eq_true] at h; rw [V.inN, idf_inNL n a h.1, idf_inNL n b h.2]; rfl
 | .ifc t v, h => by rw [V.idf] at h; rw [V.inN]; exact idf_inN n v h
 | .gd q v, h => by rw [V.idf] at h; rw [V.inN]; exact idf_inN n v h
 | .own _, h => by simp [V.idf] at h
 | .ref _ _, h => by simp [V.idf] at h
 | .oel _ _ _ _, h => by simp [V.idf] at h
 | .osl _ _ _ _, h => by simp [V.idf] at h
 | .any, _ => rfl
 | .c _, _ => rfl
 | .nil, _ => rfl
 | .emp, _ => rfl
 | .sl _ _ _, _ => rfl
 | .ptr _, _ => rfl
theorem idf_inNL (n : Nat) : ∀ l : List V, V.idfL l = true → V.inNL n l = true
 | [], _ => rfl
 | v :: l, h => by rw [V.idfL, Bool.and_eq_true] at h; rw [V.inNL, idf_inN n v h.1, idf_inNL n l h.2]; rfl
end
theorem V.inNL_get {n : Nat} : ∀ {l : List V} (_ : V.inNL n l = true) {i : Nat} {u : V} (_ : l[i]? = some u), u.inN n = true
 | v :: l, h, 0, u, hu => by
  simp at hu; subst hu
  simp only [V.inNL, Bool.and_eq_true] at h
  exact h.1
 | v :: l, h, i + 1, u, hu => by
  simp only [V.inNL, Bool.and_eq_true] at h
  exact V.inNL_get h.2 (by simpa using hu)
theorem R.into {n : Nat} {w : World} {L : Nat → Prop} {ρ : Nat → Option Value} {u : V} {x : Value} (h : R w L ρ u x) : ∀ (_ : u.inN n = true) (ρ' : Nat → Option Value), (∀ id v, 500 ≤ id → id < 500 + n → ρ id = some v → ρ' id = some v) → R w L ρ' u x := by
 induction h with
 | any => exact fun _ _ _ => .any _ _
 | c => exact fun _ _ _ => .c _ _
 | agg ρ cs xs f hl hf hr ih =>
  intro hi ρ' hρ
  simp only [V.inN] at hi
  exact .agg _ _ _ f hl hf fun i u hu => ih i u hu (V.inNL_get hi hu) ρ' hρ
 | tup ρ cs xs f hl hf hr ih =>
  intro hi ρ' hρ
  simp only [V.inN] at hi
  exact .tup _ _ _ f hl hf fun i u hu => ih i u hu (V.inNL_get hi hu) ρ' hρ
 | nil => exact fun _ _ _ => .nil _
 | emp => exact fun _ _ _ => .emp _ _
 | sl0 => exact fun _ _ _ => .sl0 _ _ _ _ _
 | sl ρ sz n row b o c f hb hcap hlen hf hr ih => exact fun _ ρ' _ => .sl _ _ _ _ _ _ _ f hb hcap hlen hf hr
 | ptr ρ cs b o f hb hf hr ih => exact fun _ ρ' _ => .ptr _ _ _ _ f hb hf hr
 | own ρ id x h h1 =>
  intro hi ρ' hρ
  simp only [V.inN, Bool.and_eq_true, decide_eq_true_eq] at hi
  exact .own _ _ _ (hρ _ _ hi.1 hi.2 h) h1
 | ref ρ id off b h =>
  intro hi ρ' hρ
  simp only [V.inN, Bool.and_eq_true, decide_eq_true_eq] at hi
  exact .ref _ _ _ _ (hρ _ _ hi.1 hi.2 h)
 | oel ρ id sz i off b n c h =>
  intro hi ρ' hρ
  simp only [V.inN, Bool.and_eq_true, decide_eq_true_eq] at hi
  exact .oel _ _ _ _ _ _ n c (hρ _ _ hi.1 hi.2 h)
 | osl ρ id sz off k b m c c2 A h hn hA =>
  intro hi ρ' hρ
  simp only [V.inN, Bool.and_eq_true, decide_eq_true_eq] at hi
  exact .osl _ _ _ _ _ _ m c _ _ (hρ _ _ hi.1 hi.2 h) hn hA
 | fn ρ f fs cs xs ys g h hl hm hg hh hr hs ih1 ih2 =>
  intro hi ρ' hρ
  simp only [V.inN, Bool.and_eq_true] at hi
  exact .fn _ _ _ _ _ _ g h hl hm hg hh (fun i u hu => ih1 i u hu (V.inNL_get hi.1 hu) ρ' hρ) fun i u hu => ih2 i u hu (V.inNL_get hi.2 hu) ρ' hρ
 | ifc ρ t u x h ih =>
  intro hi ρ' hρ
  simp only [V.inN] at hi
  exact .ifc _ _ _ _ (ih hi ρ' hρ)
 | gd ρ g u x h h' ih =>
  intro hi ρ' hρ
  simp only [V.inN] at hi
  exact .gd _ _ _ _ (fun hg => ih hg hi ρ' hρ) h'
theorem RV.into {n : Nat} {w : World} {L : Nat → Prop} {ρ ρ' : Nat → Option Value} {us : List V} {xs : List Value} (h : RV w L ρ us xs) (hi : V.inNL n us = true) (hρ : ∀ id v, 500 ≤ id → id < 500 + n → ρ id = some v → ρ' id = some v) : RV w L ρ' us xs :=
 ⟨h.1, fun i u x hu hx => (h.2 i u x hu hx).into (V.inNL_get hi hu) ρ' hρ⟩
theorem RL.into {n : Nat} {w : World} {L : Nat → Prop} {ρ ρ' : Nat → Option Value} {us : List V} {xs : List Value} (h : RL w L ρ us xs) (hi : V.inNL n us = true) (hρ : ∀ id v, 500 ≤ id → id < 500 + n → ρ id = some v → ρ' id = some v) : RL w L ρ' us xs :=
 ⟨h.1, fun i u x hu hx => ⟨(h.2 i u x hu hx).1.into (V.inNL_get hi hu) ρ' hρ, (h.2 i u x hu hx).2⟩⟩
theorem RV_ren {w : World} {L : Nat → Prop} {ρ : Nat → Option Value} (g : Nat → Nat) {us : List V} {xs : List Value} (h : RV w L ρ (V.renL g us) xs) : RV w L (fun i => ρ (g i)) us xs :=
 ⟨by rw [← h.1, V.renL_len], fun i u x hu hx => R_renL g us i u x hu (h.2 i (u.ren g) x (by rw [V.renL_get, hu]; rfl) hx)⟩
def Ob.inN (n : Nat) : Ob → Prop
 | .box _ cs => V.inNL n cs = true
 | .row _ _ m f => ∀ i, i < m → V.inNL n (f i) = true
 | .mp _ f => ∀ k u, f.look k = some u → V.inN n u = true
theorem V.inNL_append {n : Nat} : ∀ {l m : List V}, V.inNL n l = true → V.inNL n m = true → V.inNL n (l ++ m) = true
 | [], m, _, h => h
 | v :: l, m, h, k => by
  simp only [V.inNL, Bool.and_eq_true, List.cons_append] at h ⊢
  exact ⟨h.1, V.inNL_append h.2 k⟩
theorem inN_slRows {k : Nat} {row : Nat → List V} : ∀ n, (∀ i, i < n → V.inNL k (row i) = true) → V.inNL k (slRows n row).flatten = true := by
 intro n h
 have key : ∀ l : List (List V), (∀ x ∈ l, V.inNL k x = true) → V.inNL k l.flatten = true := by
  intro l
  induction l with
  | nil => intro _; rfl
  | cons x l ih => intro h; rw [List.flatten_cons]; exact V.inNL_append (h x (by simp)) (ih fun y hy => h y (by simp [hy]))
 refine key _ fun x hx => ?_
 simp only [slRows, List.mem_map, List.mem_range] at hx
 obtain ⟨i, hi, rfl⟩ := hx
 exact h i hi
def insF (ins : List Ob) (id : Nat) : Option Ob := if 500 ≤ id then ins[id - 500]? else none
def outF (outs : List (Option Ob)) (obs : List Ob) (id : Nat) : Option Ob := if 500 ≤ id then (outs[id - 500]?).join else obs[id]?
def AM (P : Program) (f : FuncId) (args : List V) (ins : List Ob) (v : V) (outs : List (Option Ob)) (obs : List Ob) : Prop :=
 (∀ (args : Array Value) (w : World), (callFunc f args).run P w = .ok (.enter f args) w) ∧
 ∀ (W LB L : Nat → Prop) (w : World) (ρ : Nat → Option Value) (vs : Array Value), (∀ b, W b → LB b) → (∀ b, W b → ¬ L b) → G W LB (insF ins) w L ρ → (∀ id, (id < 500 ∨ 500 + ins.length ≤ id) → ρ id = none) → RV w L ρ args vs.toList →
  Calls P f vs w fun e w' => ∃ x, e = .returned x ∧ Tch W w w' ∧ ∃ L' ρ', G W LB (outF outs obs) w' L' ρ' ∧ Ext w L ρ w' L' ρ' ∧ R w' L' ρ' v x ∧ ∀ j, obs.length ≤ j → (j < 500 ∨ 500 + ins.length ≤ j) → ρ' j = none
def clampM (k n nx i : Nat) : Nat := if i < k ∨ (500 ≤ i ∧ i < 500 + n) then i else nx * 100000 + i
def RetPostM (T : List TI) (fn : Func) (n : Nat) (v : V) (outs : List (Option Ob)) (obs : List Ob) : Exit → S → Prop := fun e s => (e = .normal ∨ e = .ret) ∧ ∃ s', Le s s' ∧ resV T s' fn.results.toList = some v ∧ (∀ i ob, obs[i]? = some ob → s'.σ i = some ob) ∧ (∀ i ob, outs[i]? = some (some ob) → s'.σ (500 + i) = some ob) ∧
 v.ren (clampM obs.length n s'.nx) = v ∧ (∀ ob ∈ obs, ob.ren (clampM obs.length n s'.nx) = ob) ∧ (∀ ob : Ob, some ob ∈ outs → ob.ren (clampM obs.length n s'.nx) = ob)
theorem am_introP {T : List TI} {P : Program} (hT : TabOk T P) (hmx : P.follows .mixedOrders = true) {f : FuncId} {fn : Func} {c : Code} {N : Nat} (hk : FnOk P f fn c N) {args : List V} {ins : List Ob} {v : V} {outs : List (Option Ob)} {obs : List Ob} (hargs : args.length ≤ N) (hn : outs.length = ins.length) (hn4 : ins.length ≤ 400) (_ : obs.length ≤ 90)
  (h : ∀ C : Cx P N, C.F = Fence.wide → (∀ id x, C.dfs.pin id = some x → 500 ≤ id ∧ id < 500 + ins.length) → C.dfs.tl = [] → AW C c (RetPostM T fn ins.length v outs obs) ⟨fun t => args.getD t .any, insF ins, 1⟩) : AM P f args ins v outs obs := by
 refine ⟨hk.call, fun W LB L w ρ vs hwl hWL hG hρn hvs => ?_⟩
 have hsome : ∀ i, i < ins.length → ∃ ob x, ins[i]? = some ob ∧ insF ins (500 + i) = some ob ∧ ρ (500 + i) = some x ∧ ∀ k, blk x = some k → k < w.heap.size ∧ W k ∧ ¬ L k := by
  intro i hi
  have h1 : ins[i]? = some ins[i] := List.getElem?_eq_getElem hi
  have h2 : insF ins (500 + i) = some ins[i] := by unfold insF; rw [if_pos oM, Nat.add_sub_cancel_left]; exact h1
  obtain ⟨x, hx, hx2⟩ := (hG.ob _ _ h2).lt
  exact ⟨_, x, h1, h2, hx, hx2⟩
 obtain ⟨C, hW, hLB, hd, hFw, htl⟩ : ∃ C : Cx P N, C.W = W ∧ C.LB = LB ∧ C.dfs.pin = (fun id => if 500 ≤ id ∧ id < 500 + ins.length then ρ id else none) ∧ C.F = Fence.wide ∧ C.dfs.tl = [] :=
  ⟨⟨W, LB, hwl, ⟨[], fun id => if 500 ≤ id ∧ id < 500 + ins.length then ρ id else none, fun id x hp => by
   split at hp
   ·
    omega
   ·
    cases hp⟩, hmx, Fence.wide, .inl rfl⟩, rfl, rfl, rfl, rfl, rfl⟩
 have hvl : vs.size = args.length := by have := hvs.1; simpa using this.symm
 refine callsIn_wide.1 (callsIn_of_wp_marks (n := 0) hk.hf hk.hb trivial ?_ rfl)
 have hw := h C hFw (fun id x hp => by
  rw [hd] at hp
  simp only at hp
  split at hp
  ·
   assumption
  ·
   cases hp) htl
 unfold AW at hw
 rw [hFw] at hw
 refine wpIn_mono (hw _ w ⟨L, ρ, ⟨?_, fun id hid => ?_, fun t => ?_, ?_, ?_, fun id x hp => ?_⟩⟩) ?_
 ·
  rw [hW, hLB]; exact hG
 ·
  have hid' : 1 * 100000 ≤ id := hid
  exact hρn id (.inr oM)
 ·
  by_cases ht : t < args.length
  ·
   have h1 : args[t]? = some args[t] := List.getElem?_eq_getElem ht
   obtain ⟨x, hx, hr⟩ := hvs.get h1
   have e1 : args.getD t .any = args[t] := by simp [List.getD_eq_getElem?_getD, h1]
   have e2 : (vs ++ Array.replicate (fn.ntmps - vs.size) undef).getD t undef = x := by
    rw [Array.getD_eq_getD_getElem?, Array.getElem?_append_left oM]
    have : vs[t]? = some x := by simpa using hx
    rw [this]; rfl
   show R w L ρ (args.getD t .any) _
   rw [e1, e2]; exact hr
  ·
   have e1 : args.getD t .any = .any := by simp [List.getD_eq_getElem?_getD, List.getElem?_eq_none (Nat.le_of_not_lt ht)]
   show R w L ρ (args.getD t .any) _
   rw [e1]; exact .any _ _
 ·
  rw [← hk.hn] at hargs ⊢
  simp; omega
 ·
  exact ⟨[], by rw [htl]; rfl, by simp, by simp⟩
 ·
  rw [hd] at hp
  simp only at hp
  split at hp
  ·
   exact hp
  ·
   cases hp
 ·
  rintro e a' w' ⟨s', ⟨he, s'', hle, hres, hob, hout, hcv, hco, hcu⟩, g', t⟩
  obtain ⟨L', ρ', g''⟩ := hle C a' w' g'
  rw [hW] at t
  obtain ⟨Ds, d1, d2, d3⟩ := g''.defers
  rw [htl, List.append_nil] at d1
  refine end_marks' Ds he d1 d2 (fun D hD => (d3 D hD).1) fun w2 ht2 => ?_
  obtain ⟨g2, e2⟩ := g''.g.marks ht2 d3
  obtain ⟨x, hx, hr⟩ := resV_run hT g2 (fun t => (g''.tm t).ext e2) fn hres
  have hWD : ∀ D ∈ Ds, W D := fun D hD => by have := (d3 D hD).2.1; rw [hW] at this; exact this
  have tt : Tch W w w2 := t.trans (ht2.mono fun k _ hkD => hWD k hkD)
  refine ⟨x, hx, x, rfl, tt, ?_⟩
  have hr2 : R w2 L' (fun i => ρ' (clampM obs.length ins.length s''.nx i)) v x := R_ren _ _ _ (by rw [hcv]; exact hr)
  have hlt : ∀ i, i < obs.length → clampM obs.length ins.length s''.nx i = i := fun i hi => by unfold clampM; rw [if_pos (.inl hi)]
  have hlt5 : ∀ i, 500 ≤ i → i < 500 + ins.length → clampM obs.length ins.length s''.nx i = i := fun i h1 h2 => by unfold clampM; rw [if_pos (.inr ⟨h1, h2⟩)]
  have hoF : ∀ id o, outF outs obs id = some o → s''.σ id = some o ∧ clampM obs.length ins.length s''.nx id = id ∧ o.ren (clampM obs.length ins.length s''.nx) = o := by
   intro id o ho
   unfold outF at ho
   split at ho
   ·
    rename_i h5
    have ho' : outs[id - 500]? = some (some o) := by
     cases hq : outs[id - 500]? with
     | none => rw [hq] at ho; cases ho
     | some q => rw [hq] at ho; simp at ho; rw [ho]
    have hlt' := (List.getElem?_eq_some_iff.1 ho').1
    refine ⟨?_, hlt5 id h5 oM, hcu o (List.mem_of_getElem? ho')⟩
    have := hout (id - 500) o ho'
    rwa [show 500 + (id - 500) = id by omega] at this
   ·
    exact ⟨hob id o ho, hlt id (List.getElem?_eq_some_iff.1 ho).1, hco o (List.mem_of_getElem? ho)⟩
  have hE2 : Ext w2 L' (fun i => ρ' (clampM obs.length ins.length s''.nx i)) w2 (fun b => L' b ∨ L b) (fun i => ρ' (clampM obs.length ins.length s''.nx i)) := ⟨fun b hb => ⟨.inl hb, rfl⟩, fun _ _ h => h⟩
  refine ⟨fun b => L' b ∨ L b, fun i => ρ' (clampM obs.length ins.length s''.nx i), ⟨fun b hb => ?_, fun b hb => ?_, fun id o ho => ?_, fun i j x y k hij hi hj => ?_, g2.glL hE2.l⟩, ⟨fun b hb => ⟨.inr hb, tt.block b (hG.ll b hb).1 fun hc => hWL b hc hb⟩, fun id x hx => ?_⟩, hr2.ext hE2, fun j hj hj5 => ?_⟩
  ·
   rcases hb with hb | hb
   ·
    have := g2.ll b hb
    rw [hLB] at this
    exact ⟨this.1, this.2⟩
   ·
    exact ⟨Nat.lt_of_lt_of_le (hG.ll b hb).1 tt.size, (hG.ll b hb).2⟩
  ·
   exact hG.new b (Nat.le_trans tt.size hb)
  ·
   obtain ⟨q1, q2, q3⟩ := hoF id o ho
   have hr0 := g2.ob id o q1
   rw [hW] at hr0
   have hr : Real W w2 L' (fun i => ρ' (clampM obs.length ins.length s''.nx i)) id o := Real.ren (by rw [q2, q3]; exact hr0)
   obtain ⟨y, hy, hy2⟩ := hr.lt
   refine hr.keep hE2 fun x k hx hk => ?_
   rw [hx] at hy; injection hy with hy; subst hy
   refine ⟨rfl, ?_⟩
   rintro (h1 | h1)
   ·
    exact (hy2 k hk).2.2 h1
   ·
    exact hWL k (hy2 k hk).2.1 h1
  ·
   have key : ∀ i, outF outs obs i ≠ none → s''.σ i ≠ none ∧ clampM obs.length ins.length s''.nx i = i := fun i hi => by
    cases ho : outF outs obs i with
    | none => exact absurd ho hi
    | some o => obtain ⟨q1, q2, _⟩ := hoF i o ho; exact ⟨by rw [q1]; simp, q2⟩
   simp only [(key i hi).2, (key j hj).2]
   exact g2.sep i j x y k hij (key i hi).1 (key j hj).1
  ·
   show ρ' (clampM obs.length ins.length s''.nx id) = some x
   by_cases h5 : 500 ≤ id ∧ id < 500 + ins.length
   ·
    rw [hlt5 id h5.1 h5.2]
    exact g''.pin id x (by rw [hd]; simp only; rw [if_pos h5]; exact hx)
   ·
    rw [hρn id oM] at hx; cases hx
  ·
   have e3 : clampM obs.length ins.length s''.nx j = s''.nx * 100000 + j := if_neg oM
   show ρ' (clampM obs.length ins.length s''.nx j) = none
   rw [e3]
   exact g''.fr _ (by unfold freshA; omega)
def nameG (nx : Nat) (d : Option Tmp) (ns : List Nat) (id : Nat) : Nat := if 500 ≤ id then ns.getD (id - 500) (nx * 100000 + 1000 * id + d.getD 0) else callG nx d id
def outD (g : Nat → Nat) : List Nat → List (Option Ob) → List (Nat × Option Ob)
 | k :: ks, o :: os => (k, o.map (Ob.ren g)) :: outD g ks os
 | _, _ => []
def preD : List Nat → List Ob → List (Nat × Ob)
 | k :: ks, o :: os => (k, o) :: preD ks os
 | _, _ => []
theorem upds_append (σ : Nat → Option Ob) : ∀ l m : List (Nat × Option Ob), upds σ (l ++ m) = upds (upds σ l) m
 | [], m => rfl
 | (k, o) :: l, m => by simp only [List.cons_append, upds]; exact upds_append _ l m
theorem outD_in (g : Nat → Nat) : ∀ (ns : List Nat) (os : List (Option Ob)) (σ : Nat → Option Ob) (id : Nat) (o : Ob), ns.Nodup → os.length = ns.length → upds σ (outD g ns os) id = some o → (∃ (i : Nat) (ob : Ob), ns[i]? = some id ∧ os[i]? = some (some ob) ∧ o = ob.ren g) ∨ (σ id = some o ∧ id ∉ ns)
 | [], os, σ, id, o, _, _, h => .inr ⟨by simpa [outD, upds] using h, by simp⟩
 | n :: ns, [], σ, id, o, _, hl, h => by simp at hl
 | n :: ns, x :: os, σ, id, o, hn, hl, h => by
  rw [outD, upds] at h
  have hn' := List.nodup_cons.1 hn
  rcases outD_in g ns os _ id o hn'.2 (by simpa using hl) h with ⟨i, ob, h1, h2, h3⟩ | ⟨h1, h2⟩
  ·
   exact .inl ⟨i + 1, ob, by simpa using h1, by simpa using h2, h3⟩
  ·
   by_cases he : id = n
   ·
    subst he
    rw [upd_same] at h1
    cases x with
    | none => cases h1
    | some x => simp at h1; exact .inl ⟨0, x, rfl, rfl, h1.symm⟩
   ·
    rw [upd_ne _ _ he] at h1
    exact .inr ⟨h1, by simp [he, h2]⟩
theorem preD_in : ∀ {ns : List Nat} {os : List Ob} {i : Nat} {n : Nat} {o : Ob}, ns[i]? = some n → os[i]? = some o → (n, o) ∈ preD ns os
 | [], _, _, _, _, h, _ => by simp at h
 | _ :: _, [], _, _, _, _, h => by simp at h
 | a :: ns, b :: os, 0, n, o, h, k => by simp at h k; subst h k; simp [preD]
 | a :: ns, b :: os, i + 1, n, o, h, k => by
  simp at h k
  exact List.mem_cons_of_mem _ (preD_in h k)
section
variable {P : Program} {W LB : Nat → Prop} {d : Option Tmp} {ty : TypeId} {pos : String} {af : Array Edge} {gd : Option (Nat × Bool)} {ev : Operand → V}
def Hex (P : Program) (o : Oper) (ev : Operand → V) (f : FuncId) (as0 : List V) : Prop :=
 ∀ (w : World) (L : Nat → Prop) (ρ : Nat → Option Value) (g : Operand → Value), (∀ x ∈ o.op.operands, R w L ρ (ev x) (g x)) → ∃ vs : Array Value, ((∀ (args : Array Value) (w : World), (callFunc f args).run P w = .ok (.enter f args) w) → (execOp g o).run P w = .ok (.enter f vs) w) ∧ RV w L ρ as0 vs.toList
theorem as_callMG {o : Oper} {f : FuncId} {as0 args : List V} {ins ins' : List Ob} {v : V} {outs : List (Option Ob)} {obs : List Ob} (hc : AM P f args ins v outs obs) (hwl : ∀ b, W b → LB b) (ns : List Nat) (hp : plainOp o.op = true) (hex : Hex P o ev f as0) (nx : Nat)
  (hargs : as0 = V.renL (nameG nx d ns) args) (hin : V.inNL ins.length args = true) (hd : d.all (fun t => decide (t < 1000)) = true) (hobs : obs.length ≤ 90)
  (hns : ns.Nodup) (hnl : ns.length = ins.length) (hol : outs.length = ins.length) (hil : ins'.length = ins.length) (hins : ∀ (i : Nat) (o o' : Ob), ins[i]? = some o → ins'[i]? = some o' → ObEq o' (o.ren (nameG nx d ns)) ∧ o.inN ins.length) :
  AStep P W LB o ev (v.ren (nameG nx d ns)) (preD ns ins') ((List.range obs.length).map (callG nx d)) (outD (nameG nx d ns) ns outs ++ callD (nameG nx d ns) 0 obs) := by
 intro σ w L ρ g hG hr hpre hnew
 obtain ⟨vs, hrun0, hz⟩ := hex w L ρ g hr
 obtain ⟨G0, hG0⟩ : ∃ G0, G0 = nameG nx d ns := ⟨_, rfl⟩
 rw [← hG0] at hargs hins ⊢
 obtain ⟨n, hn⟩ : ∃ n, n = ins.length := ⟨_, rfl⟩
 rw [← hn] at hin hnl hol hil hins
 have gpin : ∀ i, i < n → ∃ m, ns[i]? = some m ∧ G0 (500 + i) = m := by
  intro i hi
  have h2 : ns[i]? = some ns[i] := List.getElem?_eq_getElem oM
  refine ⟨_, h2, ?_⟩
  rw [hG0]; unfold nameG
  rw [if_pos oM, Nat.add_sub_cancel_left, List.getD_eq_getElem?_getD, h2]; rfl
 have gnew : ∀ j, j < 500 → G0 j = callG nx d j := fun j hj => by rw [hG0]; unfold nameG; rw [if_neg oM]
 -- the objects that are handed
 have hobj : ∀ i, i < n → ∃ m o o' x, ns[i]? = some m ∧ G0 (500 + i) = m ∧ ins[i]? = some o ∧ σ m = some o' ∧ ObEq o' (o.ren G0) ∧ o.inN n ∧ Real W w L ρ m o' ∧ ρ m = some x ∧ ∀ k, blk x = some k → k < w.heap.size ∧ W k ∧ ¬ L k := by
  intro i hi
  obtain ⟨m, hm, hgm⟩ := gpin i hi
  have h2 : ins[i]? = some ins[i] := List.getElem?_eq_getElem oM
  have h3 : ins'[i]? = some ins'[i] := List.getElem?_eq_getElem oM
  have h4 := hpre _ (preD_in hm h3)
  obtain ⟨h5, h6⟩ := hins i _ _ h2 h3
  have h7 := hG.ob m _ h4
  obtain ⟨x, hx, hx2⟩ := h7.lt
  exact ⟨m, _, _, x, hm, hgm, h2, h4, h5, h6, h7, hx, hx2⟩
 obtain ⟨ρ1, hρ1⟩ : ∃ ρ1 : Nat → Option Value, ∀ id, ρ1 id = if 500 ≤ id ∧ id < 500 + n then ρ (G0 id) else none := ⟨_, fun _ => rfl⟩
 have hρ1p : ∀ i, i < n → ρ1 (500 + i) = ρ (G0 (500 + i)) := fun i hi => by rw [hρ1, if_pos oM]
 have hinto : ∀ id v, 500 ≤ id → id < 500 + n → (fun i => ρ (G0 i)) id = some v → ρ1 id = some v := fun id v h5 h6 h7 => by rw [hρ1, if_pos ⟨h5, h6⟩]; exact h7
 have hrv : RV w L ρ1 args vs.toList := by
  rw [hargs] at hz
  exact (RV_ren G0 hz).into hin hinto
 obtain ⟨W1, hW1⟩ : ∃ W1 : Nat → Prop, ∀ b, W1 b ↔ (∃ i x, i < n ∧ ρ1 (500 + i) = some x ∧ blk x = some b) ∨ w.heap.size ≤ b := ⟨_, fun _ => Iff.rfl⟩
 have hW1old : ∀ b, W1 b → b < w.heap.size → W b ∧ ¬ L b ∧ ∃ i m x, i < n ∧ ns[i]? = some m ∧ σ m ≠ none ∧ ρ m = some x ∧ blk x = some b := by
  intro b hb hlt
  rcases (hW1 b).1 hb with ⟨i, x, hi, hx, hbx⟩ | h
  ·
   obtain ⟨m, o, o', x', q1, q2, q3, q4, q5, q6, q7, q8, q9⟩ := hobj i hi
   rw [hρ1p i hi, q2, q8] at hx
   injection hx with hx; subst hx
   exact ⟨(q9 b hbx).2.1, (q9 b hbx).2.2, i, m, _, hi, q1, by rw [q4]; simp, q8, hbx⟩
  ·
   omega
 have hW1W : ∀ b, W1 b → W b := fun b hb => by
  by_cases hlt : b < w.heap.size
  ·
   exact (hW1old b hb hlt).1
  ·
   exact (hG.new b oM).1
 have hW1L : ∀ b, W1 b → ¬ L b := fun b hb hL => by
  have hlt := (hG.ll b hL).1
  exact (hW1old b hb hlt).2.1 hL
 -- the callee's own view
 have hinsF : ∀ id o, insF ins id = some o → ∃ i, i < n ∧ id = 500 + i ∧ ins[i]? = some o := by
  intro id o ho
  unfold insF at ho
  split at ho
  ·
   exact ⟨id - 500, by rw [hn]; exact (List.getElem?_eq_some_iff.1 ho).1, by omega, ho⟩
  ·
   cases ho
 have hG1 : G W1 (fun b => L b ∨ W1 b) (insF ins) w L ρ1 := by
  refine ⟨fun b hb => ⟨(hG.ll b hb).1, .inl hb⟩, fun b hb => ?_, fun id o ho => ?_, fun i j x y k hij hi hj hx hy hk => ?_, hG.gl⟩
  ·
   have : W1 b := (hW1 b).2 (.inr hb)
   exact ⟨this, .inr this⟩
  ·
   obtain ⟨i, hi, rfl, hio⟩ := hinsF id o ho
   obtain ⟨m, o2, o', x, q1, q2, q3, q4, q5, q6, q7, q8, q9⟩ := hobj i hi
   rw [hio] at q3; injection q3 with q3; subst q3
   have hre : Real W w L (fun i => ρ (G0 i)) (500 + i) o := Real.ren (by rw [q2]; exact q7.eq q5)
   have hbW : ∀ k, blk x = some k → W1 k ∧ ¬ L k := fun k hk => ⟨(hW1 k).2 (.inl ⟨i, x, hi, by rw [hρ1p i hi, q2]; exact q8, hk⟩), (q9 k hk).2.2⟩
   have hxe : (fun i => ρ (G0 i)) (500 + i) = some x := by show ρ (G0 (500 + i)) = some x; rw [q2]; exact q8
   cases o with
   | box t cs =>
    obtain ⟨b, ys', r1, r2, r3, r4, r5⟩ := hre
    have e0 := r1
    rw [hxe] at e0; injection e0 with e0
    have := hbW b (by rw [e0]; rfl)
    exact ⟨b, ys', hinto _ _ oM oM r1, this.1, r3, r4, r5.into q6 hinto⟩
   | row e sz nn row =>
    obtain ⟨y, ys', r1, r2, r3, r4, r5⟩ := hre
    have e0 := r1
    rw [hxe] at e0; injection e0 with e0; subst e0
    exact ⟨_, ys', hinto _ _ oM oM r1, r2, r3, r4.into (inN_slRows _ q6) hinto, fun k hk => hbW k hk⟩
   | mp str f =>
    obtain ⟨b, es, cl, r1, r2, r3, r4, r5⟩ := hre
    have e0 := r1
    rw [hxe] at e0; injection e0 with e0
    have := hbW b (by rw [e0]; rfl)
    exact ⟨b, es, cl, hinto _ _ oM oM r1, this.1, r3, r4, r5.imp fun i u x hu hr => hr.into (q6 i u hu) _ hinto⟩
  ·
   cases hoi : insF ins i with
   | none => exact absurd hoi hi
   | some oi =>
    cases hoj : insF ins j with
    | none => exact absurd hoj hj
    | some oj =>
     obtain ⟨a, ha, rfl, _⟩ := hinsF i oi hoi
     obtain ⟨b, hb, rfl, _⟩ := hinsF j oj hoj
     obtain ⟨m, o2, o', x', q1, q2, q3, q4, q5, q6, q7, q8, q9⟩ := hobj a ha
     obtain ⟨m', o2', o'', x'', p1, p2, p3, p4, p5, p6, p7, p8, p9⟩ := hobj b hb
     rw [hρ1p a ha, q2] at hx
     rw [hρ1p b hb, p2] at hy
     refine hG.sep m m' x y k (fun e => hij ?_) (by rw [q4]; simp) (by rw [p4]; simp) hx hy hk
     subst e
     have l1 := List.getElem?_eq_some_iff.1 q1
     have l2 := List.getElem?_eq_some_iff.1 p1
     obtain ⟨l1a, l1b⟩ := l1
     obtain ⟨l2a, l2b⟩ := l2
     have pw := List.pairwise_iff_getElem.1 hns
     have : a = b := by
      rcases Nat.lt_trichotomy a b with h | h | h
      ·
       exact absurd (l1b.trans l2b.symm) (pw a b l1a l2a h)
      ·
       exact h
      ·
       exact absurd (l2b.trans l1b.symm) (pw b a l2a l1a h)
     rw [this]
 have hrun := hrun0 hc.1
 refine OpDoes.enter hp hrun ((hc.2 W1 (fun b => L b ∨ W1 b) L w ρ1 _ (fun b h => .inr h) hW1L hG1 (fun id hid => by rw [hρ1, if_neg (by rw [← hn] at hid; omega)]) hrv).mono ?_)
 rintro e w' ⟨x, rfl, tt, L', ρ', hG', hE', hv, hnn⟩
 obtain ⟨D, hD, hd'⟩ : ∃ D : Nat, d.getD 0 = D ∧ D < 1000 := ⟨_, rfl, by cases d with | none => decide | some t => simpa using hd⟩
 have ginj : ∀ i j, callG nx d i = callG nx d j → i = j := fun i j h => by unfold callG at h; rw [hD] at h; omega
 have hpinE : ∀ i, i < n → ρ' (500 + i) = ρ (G0 (500 + i)) := by
  intro i hi
  obtain ⟨m, o, o', x', q1, q2, q3, q4, q5, q6, q7, q8, q9⟩ := hobj i hi
  rw [q2, q8]
  exact hE'.r _ _ (by rw [hρ1p i hi, q2]; exact q8)
 obtain ⟨ρ2, hρ2⟩ : ∃ ρ2 : Nat → Option Value, ρ2 = fun id => if id ∈ (List.range obs.length).map (callG nx d) then ρ' ((id - nx * 100000) / 1000) else ρ id := ⟨_, rfl⟩
 have hgi : ∀ j, j < obs.length → ρ2 (callG nx d j) = ρ' j := by
  intro j hj
  have : (callG nx d j - nx * 100000) / 1000 = j := by unfold callG; rw [hD]; omega
  rw [hρ2]
  simp only
  rw [if_pos (List.mem_map.2 ⟨j, by simpa using hj, rfl⟩), this]
 have hout : ∀ id, id ∉ (List.range obs.length).map (callG nx d) → ρ2 id = ρ id := by
  intro id hid; rw [hρ2]; simp only; rw [if_neg hid]
 have hkeep : ∀ id y, ρ id = some y → ρ2 id = some y := fun id y hy => by
  rw [hout id (fun hc => by rw [hnew id hc] at hy; cases hy)]; exact hy
 have hon : ∀ j y, ρ' j = some y → ρ2 (G0 j) = some y := by
  intro j y hy
  by_cases hj : j < obs.length
  ·
   rw [gnew j oM, hgi j hj]; exact hy
  ·
   by_cases h5 : 500 ≤ j ∧ j < 500 + n
   ·
    have e5 : j = 500 + (j - 500) := by omega
    rw [e5, hpinE (j - 500) oM] at hy
    rw [e5]
    exact hkeep _ _ hy
   ·
    rw [hnn j oM (by rw [← hn]; omega)] at hy; cases hy
 have ex : Ext w L ρ w' L' ρ2 := ⟨hE'.l, hkeep⟩
 have hLL : ∀ b, L' b → L b ∨ W1 b := fun b hb => (hG'.ll b hb).2
 have hofD : ∀ D', w.heap[D']? = some (.deferred (some [])) → ¬ W1 D' := fun D' hD' hc => by
  have hlt := (Array.getElem?_eq_some_iff.1 hD').1
  obtain ⟨_, _, i, m, y, _, _, hs, hy, hbk⟩ := hW1old D' hc hlt
  cases hso : σ m with
  | none => exact hs hso
  | some o => exact (hG.ob m o hso).no_deferred hy hbk hD'
 have names : ∀ (id : Nat) (o : Ob), upds σ (outD G0 ns outs ++ callD G0 0 obs) id = some o → (∃ j ob, outF outs obs j = some ob ∧ id = G0 j ∧ o = ob.ren G0) ∨ (σ id = some o ∧ id ∉ ns ∧ id ∉ (List.range obs.length).map (callG nx d)) := by
  intro id o ho
  rw [upds_append] at ho
  have key : ∀ (obs' : List Ob) (j0 : Nat) (σ : Nat → Option Ob), upds σ (callD G0 j0 obs') id = some o → (∃ j ob, obs'[j]? = some ob ∧ id = G0 (j0 + j) ∧ o = ob.ren G0) ∨ (σ id = some o ∧ ∀ j, j < obs'.length → id ≠ G0 (j0 + j)) := by
   intro obs'
   induction obs' with
   | nil => intro j0 σ ho; exact .inr ⟨ho, fun j hj => by simp at hj⟩
   | cons ob obs' ih =>
    intro j0 σ ho
    rw [callD, upds] at ho
    rcases ih (j0 + 1) _ ho with ⟨j, ob', h1, h2, h3⟩ | ⟨h1, h2⟩
    ·
     exact .inl ⟨j + 1, ob', by simpa using h1, by rw [h2]; congr 1; omega, h3⟩
    ·
     by_cases he : id = G0 j0
     ·
      subst he
      rw [upd_same] at h1; injection h1 with h1
      exact .inl ⟨0, ob, rfl, rfl, h1.symm⟩
     ·
      rw [upd_ne _ _ he] at h1
      refine .inr ⟨h1, fun j hj => ?_⟩
      cases j with
      | zero => exact he
      | succ j => have := h2 j (by simpa using hj); rwa [show j0 + (j + 1) = j0 + 1 + j by omega]
  rcases key obs 0 _ ho with ⟨j, ob, h1, h2, h3⟩ | ⟨h1, h2⟩
  ·
   have hj := (List.getElem?_eq_some_iff.1 h1).1
   refine .inl ⟨j, ob, ?_, by rw [h2, Nat.zero_add], h3⟩
   unfold outF; rw [if_neg oM]; exact h1
  ·
   rcases outD_in G0 ns outs σ id o hns oM h1 with ⟨i, ob, p1, p2, p3⟩ | ⟨p1, p2⟩
   ·
    have hi : i < n := by have := (List.getElem?_eq_some_iff.1 p1).1; omega
    obtain ⟨m, hm, hgm⟩ := gpin i hi
    rw [p1] at hm; injection hm with hm
    refine .inl ⟨500 + i, ob, ?_, by rw [hgm, hm], p3⟩
    unfold outF; rw [if_pos oM, Nat.add_sub_cancel_left, p2]; rfl
   ·
    refine .inr ⟨p1, p2, fun hc => ?_⟩
    obtain ⟨j, hj, rfl⟩ := List.mem_map.1 hc
    have hj' : j < obs.length := by simpa using hj
    exact h2 j hj' (by rw [Nat.zero_add, gnew j oM])
 -- what was not handed stands
 have oldb : ∀ i y k, σ i ≠ none → i ∉ ns → ρ i = some y → blk y = some k → k < w.heap.size ∧ ¬ W1 k := by
  intro i y k hs hni hy hk
  cases ho : σ i with
  | none => exact absurd ho hs
  | some o =>
   obtain ⟨y', hy', hlt⟩ := (hG.ob i o ho).lt
   rw [hy] at hy'; injection hy' with hy'; subst hy'
   refine ⟨(hlt k hk).1, fun hc => ?_⟩
   obtain ⟨_, _, a, m, z, _, hm, hsm, hz, hbz⟩ := hW1old k hc (hlt k hk).1
   exact hG.sep i m y z k (fun e => hni (by rw [e]; exact List.mem_of_getElem? hm)) hs hsm hy hz hk hbz
 refine ⟨x, rfl, L', ρ2, ⟨fun b hbl => ?_, fun b hbs => hG.new b (Nat.le_trans tt.size hbs), fun id o ho => ?_, ?_, hG.glE ex⟩, R_renOn _ hon hv, tt.mono fun k _ hk => hW1W k hk, ex, fun id hid => hout id hid, fun D' hD' => ⟨(tt.block D' (Array.getElem?_eq_some_iff.1 hD').1 (hofD D' hD')).trans hD', fun hl => (hLL D' hl).resolve_right (hofD D' hD')⟩⟩
 ·
  refine ⟨(hG'.ll b hbl).1, ?_⟩
  rcases hLL b hbl with h | h
  ·
   exact (hG.ll b h).2
  ·
   exact hwl b (hW1W b h)
 ·
  rcases names id o ho with ⟨j, ob, h1, h2, h3⟩ | ⟨h1, h2, h2'⟩
  ·
   subst h2 h3
   exact (hG'.ob j ob h1).renOn _ hon hW1W
  ·
   have hk := hG.ob id o h1
   refine hk.keep ex fun y k hy hk2 => ?_
   obtain ⟨y', hy', hlt⟩ := hk.lt
   rw [hy] at hy'; injection hy' with hy'; subst hy'
   obtain ⟨l1, l2, l3⟩ := hlt k hk2
   have hnw := (oldb id y k (by rw [h1]; simp) h2 hy hk2).2
   exact ⟨tt.block k l1 hnw, fun hc => (hLL k hc).elim l3 hnw⟩
 ·
  intro i j y z k hij hi hj hyi hzj hk hkz
  have cases' : ∀ i, upds σ (outD G0 ns outs ++ callD G0 0 obs) i ≠ none → (∃ q ob, outF outs obs q = some ob ∧ i = G0 q) ∨ (σ i ≠ none ∧ i ∉ ns ∧ i ∉ (List.range obs.length).map (callG nx d)) := by
   intro i hi
   cases ho : upds σ (outD G0 ns outs ++ callD G0 0 obs) i with
   | none => exact absurd ho hi
   | some o =>
    rcases names i o ho with ⟨q, ob, h1, h2, h3⟩ | ⟨h1, h2, h3⟩
    ·
     exact .inl ⟨q, ob, h1, h2⟩
    ·
     exact .inr ⟨by rw [h1]; simp, h2, h3⟩
  have newb : ∀ q ob y k, outF outs obs q = some ob → ρ2 (G0 q) = some y → blk y = some k → ρ' q = some y ∧ W1 k := by
   intro q ob y k ho hy hk
   obtain ⟨y', hy', hlt⟩ := (hG'.ob q ob ho).lt
   have := hon q y' hy'
   rw [hy] at this; injection this with this; subst this
   exact ⟨hy', (hlt k hk).2.1⟩
  rcases cases' i hi with ⟨q, ob, h1, rfl⟩ | ⟨h1, h2, h3⟩
  ·
   rcases cases' j hj with ⟨q', ob', h1', rfl⟩ | ⟨h1', h2', h3'⟩
   ·
    have a1 := newb q ob y k h1 hyi hk
    have a2 := newb q' ob' z k h1' hzj hkz
    exact hG'.sep q q' y z k (fun e => hij (by rw [e])) (by rw [h1]; simp) (by rw [h1']; simp) a1.1 a2.1 hk hkz
   ·
    have a1 := newb q ob y k h1 hyi hk
    rw [hout j h3'] at hzj
    exact (oldb j z k h1' h2' hzj hkz).2 a1.2
  ·
   rcases cases' j hj with ⟨q', ob', h1', rfl⟩ | ⟨h1', h2', h3'⟩
   ·
    have a1 := newb q' ob' z k h1' hzj hkz
    rw [hout i h3] at hyi
    exact (oldb i y k h1 h2 hyi hk).2 a1.2
   ·
    rw [hout i h3] at hyi
    rw [hout j h3'] at hzj
    exact hG.sep i j y z k hij h1 h1' hyi hzj hk hkz
end
end Go.Ab

namespace Go.Ab
open Go.RowKit Go.Dw
inductive InsOk (g : Nat → Nat) (n : Nat) : List Ob → List Ob → Prop
 | nil : InsOk g n [] []
 | box {t : TypeId} {cs cs' : List V} {l l' : List Ob} (h : cs' = V.renL g cs) (hi : V.inNL n cs = true) (k : InsOk g n l l') : InsOk g n (.box t cs :: l) (.box t cs' :: l')
 | row {e sz m m' : Nat} {f f' : Nat → List V} {l l' : List Ob} (hm : m' = m) (h : ∀ i, i < m' → f' i = V.renL g (f i)) (hi : ∀ i, i < m → V.inNL n (f i) = true) (k : InsOk g n l l') : InsOk g n (.row e sz m f :: l) (.row e sz m' f' :: l')
 | mp {s : Bool × Nat} {f f' : MF} {l l' : List Ob} (h : ∀ k, f'.look k = (f.map (V.ren g)).look k) (hi : ∀ k u, f.look k = some u → V.inN n u = true) (k : InsOk g n l l') : InsOk g n (.mp s f :: l) (.mp s f' :: l')
theorem InsOk.get {g : Nat → Nat} {n : Nat} {l l' : List Ob} (h : InsOk g n l l') : l'.length = l.length ∧ ∀ (i : Nat) (o o' : Ob), l[i]? = some o → l'[i]? = some o' → ObEq o' (o.ren g) ∧ o.inN n := by
 induction h with
 | nil => exact ⟨rfl, fun i o o' h => by simp at h⟩
 | box h hi k ih =>
  refine ⟨by simp [ih.1], fun i o o' h1 h2 => ?_⟩
  cases i with
  | zero => simp at h1 h2; subst h1 h2; exact ⟨⟨rfl, h⟩, hi⟩
  | succ i => exact ih.2 i o o' (by simpa using h1) (by simpa using h2)
 | row hm h hi k ih =>
  refine ⟨by simp [ih.1], fun i o o' h1 h2 => ?_⟩
  cases i with
  | zero => simp at h1 h2; subst h1 h2; exact ⟨⟨rfl, rfl, hm, h⟩, hi⟩
  | succ i => exact ih.2 i o o' (by simpa using h1) (by simpa using h2)
 | mp h hi k ih =>
  refine ⟨by simp [ih.1], fun i o o' h1 h2 => ?_⟩
  cases i with
  | zero => simp at h1 h2; subst h1 h2; exact ⟨⟨rfl, h⟩, hi⟩
  | succ i => exact ih.2 i o o' (by simpa using h1) (by simpa using h2)
section
variable {P : Program} {N : Nat} {C : Cx P N} {T : List TI} {ops : Array Oper} {nx : Nat} {o : Oper} {os : List Oper} {tm : Nat → V} {σ : Nat → Option Ob} {ks : List (List Nat × List Nat)} {K : (Nat → V) → (Nat → Option Ob) → List (List Nat × List Nat) → Prop} {ty : TypeId} {pos : String} {af : Array Edge}
end
section
variable {P : Program} {N : Nat} {C : Cx P N} {T : List TI} {M : List Nat} {ops : Array Oper} {nx : Nat} {o : Oper} {os : List Oper} {tm : Nat → V} {σ : Nat → Option Ob} {ks : List (List Nat × List Nat)} {K : (Nat → V) → (Nat → Option Ob) → List (List Nat × List Nat) → Prop}
end
def slO : Nat → List (Option Ob) → List (Nat × Ob)
 | _, [] => []
 | k, none :: os => slO (k + 1) os
 | k, some o :: os => (k, o) :: slO (k + 1) os
theorem mkS_slO : ∀ (os : List (Option Ob)) (k : Nat) (l : List (Nat × Ob)) (i : Nat), (i < k ∨ k + os.length ≤ i → mkS (slO k os ++ l) i = mkS l i) ∧ ∀ (j : Nat) (ob : Ob), os[j]? = some (some ob) → mkS (slO k os ++ l) (k + j) = some ob
 | [], k, l, i => ⟨fun _ => rfl, fun j ob h => by simp at h⟩
 | none :: os, k, l, i => by
  refine ⟨fun h => (mkS_slO os (k + 1) l i).1 (by simp at h; omega), fun j ob h => ?_⟩
  cases j with
  | zero => simp at h
  | succ j =>
   have := (mkS_slO os (k + 1) l i).2 j ob (by simpa using h)
   rwa [show k + (j + 1) = k + 1 + j by omega]
 | some o :: os, k, l, i => by
  have e : ∀ i, i ≠ k → mkS (slO k (some o :: os) ++ l) i = mkS (slO (k + 1) os ++ l) i := fun i hi => by
   show upd (mkS (slO (k + 1) os ++ l)) k (some o) i = _
   rw [upd_ne _ _ hi]
  refine ⟨fun h => ?_, fun j ob h => ?_⟩
  ·
   rw [e i (by simp at h; omega)]
   exact (mkS_slO os (k + 1) l i).1 (by simp at h; omega)
  ·
   cases j with
   | zero =>
    simp at h; subst h
    show upd (mkS (slO (k + 1) os ++ l)) k (some o) k = _
    exact upd_same _ _ _
   | succ j =>
    rw [e _ oM, show k + (j + 1) = k + 1 + j by omega]
    exact (mkS_slO os (k + 1) l i).2 j ob (by simpa using h)
def okR (g : Nat → Nat) : List (Option Ob) → List (Option Ob) := List.map fun o => o.map (Ob.ren g)
theorem retMx {T : List TI} {fn : Func} {n : Nat} {v v' : V} {outs : List (Option Ob)} {obs : List Ob} {e : Exit} {tm : Nat → V} {σ : Nat → Option Ob} {nx : Nat} (gl : List (Nat × Nat)) (tl : List (Nat × V)) (ex : List (Nat × Ob)) (he : e = .normal ∨ e = .ret)
  (htm : All (fun p => tm p.1 = p.2.ren (lookG gl nx)) tl) (hσ : All (fun p => ∃ ob, σ (lookG gl nx p.1) = some ob ∧ ObEq ob (p.2.ren (lookG gl nx))) (slO 0 (obs.map some) ++ (slO 500 outs ++ ex)))
  (hinj : decide (((slO 0 (obs.map some) ++ (slO 500 outs ++ ex)).map fun p => lookG gl nx p.1).Nodup) = true) (hid : gl.all (fun p => decide (p.1 < 500)) = true) (hob : decide (obs.length ≤ 90) = true)
  (hres : resV T ⟨mkT tl, mkS (slO 0 (obs.map some) ++ (slO 500 outs ++ ex)), 1⟩ fn.results.toList = some v') (hv : v' = v) (hcv : v'.ren (clampM obs.length n 1) = v') (hco : okR (clampM obs.length n 1) (obs.map some ++ outs) = obs.map some ++ outs) : RetPostM T fn n v outs obs e ⟨tm, σ, nx⟩ := by
 subst hv
 have hob := of_decide_eq_true hob
 have hren : ∀ o : Ob, some o ∈ obs.map some ++ outs → o.ren (clampM obs.length n 1) = o := by
  intro o ho
  obtain ⟨i, hi⟩ := List.getElem?_of_mem ho
  have h1 : (okR (clampM obs.length n 1) (obs.map some ++ outs))[i]? = some (some (o.ren (clampM obs.length n 1))) := by
   unfold okR; rw [List.getElem?_map, hi]; rfl
  rw [hco, hi] at h1
  injection h1 with h1; injection h1 with h1; exact h1.symm
 refine ⟨he, _, le_ren gl (tl := tl) (sl := slO 0 (obs.map some) ++ (slO 500 outs ++ ex)) htm hσ hinj hid, hres, fun i ob hi => ?_, fun i ob hi => ?_, hcv, fun ob hm => hren ob (by simp [hm]), fun ob hm => hren ob (by simp [hm])⟩
 ·
  have := (mkS_slO (obs.map some) 0 (slO 500 outs ++ ex) 0).2 i ob (by simp [hi])
  simpa using this
 ·
  have hi' := (List.getElem?_eq_some_iff.1 hi).1
  show mkS (slO 0 (obs.map some) ++ (slO 500 outs ++ ex)) (500 + i) = some ob
  rw [(mkS_slO (obs.map some) 0 (slO 500 outs ++ ex) (500 + i)).1 (by right; simp; omega)]
  exact (mkS_slO outs 500 ex 0).2 i ob hi
end Go.Ab

namespace Go.Ab
open Go.RowKit Go.Dw
theorem RImp.aggs {us' us : List V} (h : A2 us' us) : RImp (.agg us') (.agg us) := by
 intro w L x hx
 obtain ⟨xs, rfl, hl⟩ := hx.agg_inv
 have hv := h.rv hl.rv
 exact .agg' ⟨hv.1, fun i u x hu hx => ⟨hv.2 i u x hu hx, hl.one x (List.mem_of_getElem? hx)⟩⟩
section
variable {P : Program} {N : Nat} {C : Cx P N} {ops : Array Oper} {nx : Nat} {o : Oper} {os : List Oper} {tm : Nat → V} {σ : Nat → Option Ob} {ks : List (List Nat × List Nat)} {K : (Nat → V) → (Nat → Option Ob) → List (List Nat × List Nat) → Prop}
theorem aops_gfb {t : Nat} (hg : guardV (ops.toList.map (·.dst)) tm o = some (some false)) (ht : o.dst = some t) (hk : AOps C ops nx os (upd tm t (.gd false (.b false))) σ (ks ++ [([], [])]) K) : AOps C ops nx (o :: os) tm σ ks K := by
 have hw := guardV_spec hg
 have e : updO tm o.dst (.gd false (.b false)) = upd tm t (.gd false (.b false)) := by rw [ht]; rfl
 refine ⟨⟨false, .gd false (.b false), [], [], []⟩, ⟨hw, by simp, fun _ => ⟨fun _ _ _ => .gd _ _ _ _ (fun e => by cases e) fun _ => rfl, rfl, rfl⟩⟩, ?_⟩
 rw [e]; exact hk
end
end Go.Ab

namespace Go.Ab
open Go.RowKit Go.Dw
theorem Real.weak {W W' : Nat → Prop} {w : World} {L : Nat → Prop} {ρ ρ' : Nat → Option Value} {id : Nat} {o : Ob} (h : Real W w L ρ id o) (hW : ∀ b, W b → W' b) (hρ : ∀ j y, ρ j = some y → ρ' j = some y) : Real W' w L ρ' id o := by
 have e : Ext w L ρ w L ρ' := ⟨fun _ hb => ⟨hb, rfl⟩, hρ⟩
 cases o with
 | box t cs =>
  obtain ⟨b, xs, h1, h2, h3, h4, h5⟩ := h
  exact ⟨b, xs, hρ _ _ h1, hW _ h2, h3, h4, h5.ext e⟩
 | row t sz n row =>
  obtain ⟨v, xs, h1, h2, h3, h4, h5⟩ := h
  exact ⟨v, xs, hρ _ _ h1, h2, h3, h4.ext e, fun k hk => ⟨hW _ (h5 k hk).1, (h5 k hk).2⟩⟩
 | mp str f =>
  obtain ⟨b, es, cl, h1, h2, h3, h4, h5⟩ := h
  exact ⟨b, es, cl, hρ _ _ h1, hW _ h2, h3, h4, h5.imp fun _ _ _ _ h => h.ext e⟩
theorem AC.row {P : Program} {f : FuncId} {args args' : List V} {v : V} {obs : List Ob} (h : AC P f args' v obs) (e : TypeId) {sz n n' : Nat} {row row' : Nat → List V} (ha : V.fzL 500 (.sl sz n row) args = args') (hi : V.idfL args' = true) (ho : obs.length ≤ 90) (hn : n' = n) (hr : ∀ i, i < n' → row' i = row i) (hi2 : ∀ i, V.idfL (row i) = true) :
  AM P f args [.row e sz n' row'] v [none] obs := by
 subst hn
 refine ⟨h.1, fun W LB L w ρ vs hwl hWL hG hρ hvs => ?_⟩
 have hσ : insF [.row e sz n' row'] 500 = some (.row e sz n' row') := rfl
 have hre : Real W w L ρ 500 (.row e sz n' row) := (hG.ob 500 _ hσ).eq ⟨rfl, rfl, rfl, hr⟩
 obtain ⟨v0, hv0, hlt, hs⟩ := hre.slice fun i _ => hi2 i
 have ex : Ext w L ρ w (fun b => L b ∨ blk v0 = some b) ρ := ⟨fun b hb => ⟨.inl hb, rfl⟩, fun _ _ h => h⟩
 have hrv : RV w (fun b => L b ∨ blk v0 = some b) ρ0 args' vs.toList := by
  refine RV.free (ρ := ρ) ?_ hi
  rw [← ha]
  refine ⟨by rw [V.fzL_len]; exact hvs.1, fun i u x hu hx => ?_⟩
  rw [V.fzL_get] at hu
  cases hc : args[i]? with
  | none => rw [hc] at hu; cases hu
  | some a =>
   rw [hc] at hu
   simp only [Option.map_some, Option.some.injEq] at hu
   subst hu
   refine R_fz (fun y hy => ?_) _ _ ((hvs.2 i a x hc hx).ext ex)
   rw [hv0] at hy; injection hy with hy; subst hy; exact hs
 refine (h.2 (fun b => L b ∨ blk v0 = some b) w vs (fun b hb => ?_) (hG.glE ex) hrv).mono ?_
 ·
  rcases hb with hb | hb
  ·
   exact (hG.ll b hb).1
  ·
   exact (hlt b hb).1
 rintro ee w' ⟨x, rfl, hbel, L', ρ', hG', hL', hv, hnn⟩
 obtain ⟨ρ2, hρ2⟩ : ∃ ρ2 : Nat → Option Value, ∀ id, ρ2 id = if id < obs.length then ρ' id else ρ id := ⟨_, fun _ => rfl⟩
 have hon : ∀ j y, ρ' j = some y → ρ2 j = some y := fun j y hy => by
  rw [hρ2]
  by_cases hj : j < obs.length
  ·
   rw [if_pos hj]; exact hy
  ·
   rw [hnn j oM] at hy; cases hy
 have ex2 : Ext w' L' ρ' w' L' ρ2 := ⟨fun _ hb => ⟨hb, rfl⟩, hon⟩
 refine ⟨x, rfl, Tch.of_below hbel fun k _ hk => (hG.new k hk).1, L', ρ2, ⟨fun b hb => ?_, fun b hb => hG.new b (Nat.le_trans hbel.size hb), fun id o hio => ?_, fun i j y z k hij hi hj hy hz => ?_, hG.glL fun b hb => ⟨hL' b (.inl hb), hbel.block b (hG.ll b hb).1⟩⟩, ⟨fun b hb => ⟨hL' b (.inl hb), hbel.block b (hG.ll b hb).1⟩, fun id y hy => ?_⟩, hv.ext ex2, fun j hj hj5 => ?_⟩
 ·
  have := hG'.ll b hb
  refine ⟨this.1, ?_⟩
  rcases this.2 with (h1 | h1) | h1
  ·
   exact (hG.ll b h1).2
  ·
   exact hwl b (hlt b h1).2.1
  ·
   exact (hG.new b h1).2
 ·
  have hob : obsF obs id = some o := by
   unfold outF at hio
   split at hio
   ·
    cases hq : ([none] : List (Option Ob))[id - 500]? with
    | none => rw [hq] at hio; cases hio
    | some q =>
     rw [hq] at hio
     have : q = none := by
      have := List.mem_of_getElem? hq
      simpa using this
     rw [this] at hio; cases hio
   ·
    exact hio
  exact (hG'.ob id o hob).weak (fun b hb => (hG.new b hb).1) hon
 ·
  have key : ∀ i, outF [none] obs i ≠ none → obsF obs i ≠ none ∧ i < obs.length := fun i hi => by
   unfold outF at hi
   split at hi
   ·
    exfalso
    apply hi
    cases hq : ([none] : List (Option Ob))[i - 500]? with
    | none => rfl
    | some q =>
     have : q = none := by
      have := List.mem_of_getElem? hq
      simpa using this
     rw [this]; rfl
   ·
    refine ⟨hi, ?_⟩
    cases hq : obs[i]? with
    | none => exact absurd hq hi
    | some q => exact (List.getElem?_eq_some_iff.1 hq).1
  rw [hρ2, if_pos (key i hi).2] at hy
  rw [hρ2, if_pos (key j hj).2] at hz
  exact hG'.sep i j y z k hij (key i hi).1 (key j hj).1 hy hz
 ·
  rw [hρ2]
  by_cases hid : id < obs.length
  ·
   rw [hρ id (.inl oM)] at hy; cases hy
  ·
   rw [if_neg hid]; exact hy
 ·
  rw [hρ2, if_neg oM]
  exact hρ j hj5
end Go.Ab

namespace Go.Ab
open Go.RowKit Go.Dw
theorem appRow_ok {k : Nat} {F G H : Nat → List V} {r : Nat → Nat} (h1 : ∀ i, i < k → F i = V.renL r (H i)) (h2 : G 0 = V.renL r (H k)) : ∀ i, i < k + 1 → appRow k F G i = V.renL r (H i) := by
 intro i hi
 by_cases h : i < k
 ·
  rw [appRow, if_pos h]; exact h1 i h
 ·
  obtain rfl : i = k := by omega
  rw [appRow, if_neg h, Nat.sub_self]; exact h2
theorem appRow_i {k : Nat} {f : Nat → Int} {G : Nat → List V} {r : Nat → Nat} {n : Int} (h2 : G 0 = [V.i n]) (h : n = f k) : ∀ i, i < k + 1 → appRow k (fun k => [V.i (f k)]) G i = V.renL r ((fun k => [V.i (f k)]) i) :=
 appRow_ok (fun _ _ => rfl) (by rw [h2, h]; rfl)
end Go.Ab
