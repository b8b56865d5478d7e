/-
  Layers and pockets of small nets, counted over a grid, as plain facts. No condition.
-/
import Derived.Test.YtfckkkmacjjmhaaDoorSPl4
namespace Go.Ab

def sumI (g : Nat → Int) : Nat → Int
  | 0 => 0
  | n + 1 => sumI g n + g n
theorem sumI_congr {g h : Nat → Int} (e : ∀ k, g k = h k) : ∀ n, sumI g n = sumI h n
  | 0 => rfl
  | n + 1 => by rw [sumI, sumI, sumI_congr e n, e]
theorem sumI_add (g h : Nat → Int) : ∀ n, sumI (fun k => g k + h k) n = sumI g n + sumI h n
  | 0 => rfl
  | n + 1 => by rw [sumI, sumI, sumI, sumI_add g h n]; omega
theorem sumI_mul (c : Int) (g : Nat → Int) : ∀ n, sumI (fun k => c * g k) n = c * sumI g n
  | 0 => by simp [sumI]
  | n + 1 => by rw [sumI, sumI, sumI_mul c g n, Int.mul_add]
theorem sumI_mulr (c : Int) (g : Nat → Int) : ∀ n, sumI (fun k => g k * c) n = sumI g n * c
  | 0 => by simp [sumI]
  | n + 1 => by rw [sumI, sumI, sumI_mulr c g n, Int.add_mul]
theorem sumI_zero : ∀ n, sumI (fun _ => 0) n = 0
  | 0 => rfl
  | n + 1 => by rw [sumI, sumI_zero n]; rfl
theorem sumI_bd {g : Nat → Int} {B : Int} (h : ∀ k, 0 ≤ g k ∧ g k ≤ B) : ∀ n : Nat, 0 ≤ sumI g n ∧ sumI g n ≤ B * n
  | 0 => by simp [sumI]
  | n + 1 => by
    have := sumI_bd h n
    have := h n
    rw [sumI]
    have e : B * ((n + 1 : Nat) : Int) = B * n + B := by rw [show ((n + 1 : Nat) : Int) = (n : Int) + 1 by omega, Int.mul_add, Int.mul_one]
    omega
def in1 (a b : Int) (k : Nat) : Int := if a ≤ (k : Int) - 30 ∧ (k : Int) - 30 < b then 1 else 0
theorem sum_in1' {a b : Int} (ha : -30 ≤ a) : ∀ n : Nat, sumI (in1 a b) n = max 0 (min ((n : Int) - 30) b - a)
  | 0 => by rw [sumI]; omega
  | n + 1 => by
    rw [sumI, sum_in1' ha n, in1]
    split <;> omega
theorem sum_in1 {a b : Int} (ha : -30 ≤ a) (hb : b ≤ 30) : sumI (in1 a b) 60 = max 0 (b - a) := by
  rw [sum_in1' ha]; omega
theorem sum_in2 {a b c d : Int} (ha : -30 ≤ a) (hb : b ≤ 30) (hc : -30 ≤ c) (hd : d ≤ 30) : sumI (fun k => sumI (fun l => in1 a b k * in1 c d l) 60) 60 = max 0 (b - a) * max 0 (d - c) := by
  rw [sumI_congr (h := fun k => in1 a b k * max 0 (d - c)) (fun k => by rw [sumI_mul, sum_in1 hc hd]), sumI_mulr, sum_in1 ha hb]
theorem inB_in1 (r : Rc) (k l : Nat) : ((if inB r ((k : Int) - 30) ((l : Int) - 30) = true then 1 else 0 : Nat) : Int) = in1 r.x0 r.x1 k * in1 r.y0 r.y1 l := by
  unfold inB in1
  by_cases h1 : r.x0 ≤ (k : Int) - 30 ∧ (k : Int) - 30 < r.x1
  · by_cases h2 : r.y0 ≤ (l : Int) - 30 ∧ (l : Int) - 30 < r.y1
    · simp [h1, h2]
    · rw [if_pos h1, if_neg h2, if_neg]
      · rfl
      · simp; omega
  · rw [if_neg h1, if_neg]
    · simp
    · simp; omega
def Rc.near (r : Rc) : Prop := (-30 ≤ r.x0 ∧ r.x0 ≤ r.x1 ∧ r.x1 ≤ 30) ∧ (-30 ≤ r.y0 ∧ r.y0 ≤ r.y1 ∧ r.y1 ≤ 30)
def areaR (F : Nat → Rc) : Nat → Int
  | 0 => 0
  | n + 1 => areaR F n + (F n).w * (F n).h
def cntI (F : Nat → Rc) (n k l : Nat) : Int := (cntL F ((k : Int) - 30) ((l : Int) - 30) n : Nat)
theorem cnt_sum {F : Nat → Rc} : ∀ {n : Nat}, (∀ j, j < n → (F j).near) → sumI (fun k => sumI (cntI F n k) 60) 60 = areaR F n
  | 0, _ => by
    have e : ∀ k, sumI (cntI F 0 k) 60 = 0 := fun k => (sumI_congr (g := cntI F 0 k) (h := fun _ => 0) (fun l => rfl) 60).trans (sumI_zero 60)
    rw [areaR, sumI_congr (h := fun _ => 0) e]
    exact sumI_zero 60
  | n + 1, h => by
    have ih := cnt_sum (n := n) fun j hj => h j (by omega)
    obtain ⟨⟨a1, a2, a3⟩, b1, b2, b3⟩ := h n (by omega)
    have e : ∀ k, sumI (cntI F (n + 1) k) 60 = sumI (cntI F n k) 60 + sumI (fun l => in1 (F n).x0 (F n).x1 k * in1 (F n).y0 (F n).y1 l) 60 := fun k => by
      rw [← sumI_add]
      exact sumI_congr (fun l => by rw [← inB_in1, cntI, cntL, cntI]; omega) 60
    rw [sumI_congr e, sumI_add, ih, sum_in2 a1 a3 b1 b3, areaR, Rc.w, Rc.h]
    rw [show max 0 ((F n).x1 - (F n).x0) = (F n).x1 - (F n).x0 by omega, show max 0 ((F n).y1 - (F n).y0) = (F n).y1 - (F n).y0 by omega]
def bothN (F : Nat → Rc) (i k : Nat) (x y : Int) : Nat → Nat
  | 0 => 0
  | j + 1 => bothN F i k x y j + if inB (F j) x y = true ∧ (j = i ∨ j = k) then 1 else 0
theorem bothN_le (F : Nat → Rc) (i k : Nat) (x y : Int) : ∀ n, bothN F i k x y n ≤ cntL F x y n
  | 0 => Nat.le_refl _
  | n + 1 => by
    have := bothN_le F i k x y n
    rw [bothN, cntL]
    by_cases h : inB (F n) x y = true
    · rw [if_pos h]; split <;> omega
    · rw [if_neg h, if_neg (fun q => h q.1)]; omega
theorem bothN_eq {F : Nat → Rc} {i k : Nat} (hik : i ≠ k) (x y : Int) : ∀ n, bothN F i k x y n = (if i < n ∧ inB (F i) x y = true then 1 else 0) + if k < n ∧ inB (F k) x y = true then 1 else 0
  | 0 => by simp [bothN]
  | n + 1 => by
    have e : (inB (F n) x y = true ∧ (n = i ∨ n = k)) = ((n = i ∧ inB (F i) x y = true) ∨ (n = k ∧ inB (F k) x y = true)) := propext ⟨fun ⟨q, r⟩ => by
      rcases r with rfl | rfl
      · exact .inl ⟨rfl, q⟩
      · exact .inr ⟨rfl, q⟩, fun r => by
      rcases r with ⟨rfl, q⟩ | ⟨rfl, q⟩
      · exact ⟨q, .inl rfl⟩
      · exact ⟨q, .inr rfl⟩⟩
    rw [bothN, bothN_eq hik x y n]
    simp only [e]
    cases inB (F i) x y <;> cases inB (F k) x y <;> simp
    all_goals repeat' split
    all_goals omega
theorem bothN_2 {F : Nat → Rc} {i k n : Nat} (hik : i ≠ k) (hi : i < n) (hk : k < n) {x y : Int} : bothN F i k x y n = 2 ↔ inB (F i) x y = true ∧ inB (F k) x y = true := by
  rw [bothN_eq hik]
  cases inB (F i) x y <;> cases inB (F k) x y <;> simp [hi, hk]
def comI (F : Nat → Rc) (i j n k l : Nat) : Int := if bothN F i j ((k : Int) - 30) ((l : Int) - 30) n = 2 then 1 else 0
theorem com_sum {F : Nat → Rc} {i j n : Nat} (hij : i ≠ j) (hi : i < n) (hj : j < n) (h : ∀ k, k < n → (F k).near) :
    sumI (fun k => sumI (comI F i j n k) 60) 60 = max 0 (comW (F i) (F j)) * max 0 (comH (F i) (F j)) := by
  obtain ⟨⟨a1, a2, a3⟩, a4, a5, a6⟩ := h i hi
  obtain ⟨⟨b1, b2, b3⟩, b4, b5, b6⟩ := h j hj
  rw [sumI_congr (h := fun k => sumI (fun l => in1 (max (F i).x0 (F j).x0) (min (F i).x1 (F j).x1) k * in1 (max (F i).y0 (F j).y0) (min (F i).y1 (F j).y1) l) 60), sum_in2 (by omega) (by omega) (by omega) (by omega)]
  · rfl
  intro k
  refine sumI_congr (fun l => ?_) 60
  unfold comI in1
  simp only [bothN_2 hij hi hj]
  simp only [inB, Bool.and_eq_true, decide_eq_true_eq]
  generalize (k : Int) - 30 = x
  generalize (l : Int) - 30 = y
  by_cases h1 : max (F i).x0 (F j).x0 ≤ x ∧ x < min (F i).x1 (F j).x1
  · by_cases h2 : max (F i).y0 (F j).y0 ≤ y ∧ y < min (F i).y1 (F j).y1
    · rw [if_pos h1, if_pos h2, if_pos (by omega)]; rfl
    · rw [if_pos h1, if_neg h2, if_neg (by omega)]; rfl
  · rw [if_neg h1, if_neg (by omega)]; simp
/-- small folded panels lie near the base -/
theorem foldR_near' {l : List Pan} (h : NetOk l) (hs : ∀ i, i < l.length → (gpan l i).wide ≤ 4 ∧ (gpan l i).high ≤ 4) : ∀ i : Nat, i < l.length →
    (-4 * (i : Int) ≤ (foldR l i).x0 ∧ (foldR l i).x1 ≤ 4 * ((i : Int) + 1)) ∧ (-4 * (i : Int) ≤ (foldR l i).y0 ∧ (foldR l i).y1 ≤ 4 * ((i : Int) + 1)) := by
  intro i
  induction i using Nat.strongRecOn with
  | _ i ih =>
    intro hi
    have h4 := hs i hi
    have hw := foldR_wh h hi
    by_cases h0 : i = 0
    · subst h0
      rw [foldR_zero, rcF_zero]
      simp only
      omega
    · have hq := h.on i (by omega) hi
      have hb := ih _ hq (by omega)
      have h4' := hs (gpan l i).on.toNat (by omega)
      have hw' := foldR_wh h (i := (gpan l i).on.toNat) (by omega)
      obtain ⟨_, q1, q2⟩ := foldR_hinged h (by omega) hi
      obtain ⟨_, ⟨e0, e3⟩, _⟩ := h.okI i (by omega) hi
      have hz := (h.sz i hi)
      have hz' := (h.sz (gpan l i).on.toNat (by omega))
      unfold Pan.szOk at hz hz'
      have hc : ((gpan l i).edge = 0 ∨ (gpan l i).edge = 2) ∨ ((gpan l i).edge = 1 ∨ (gpan l i).edge = 3) := by omega
      rcases hc with hc | hc
      · have := q1 hc; omega
      · have := q2 hc; omega
theorem foldR_near {l : List Pan} (h : NetOk l) (hl : l.length ≤ 6) (hs : ∀ i, i < l.length → (gpan l i).wide ≤ 4 ∧ (gpan l i).high ≤ 4) (i : Nat) (hi : i < l.length) : (foldR l i).near := by
  have h1 := foldR_near' h hs i hi
  have hw := foldR_wh h hi
  have hz := h.sz i hi
  unfold Pan.szOk at hz
  unfold Rc.near
  omega
def areaN (l : List Pan) : Nat → Int
  | 0 => 0
  | n + 1 => areaN l n + (gpan l n).wide * (gpan l n).high
theorem areaN_eq {l : List Pan} (h : NetOk l) : ∀ n, n ≤ l.length → areaR (foldR l) n = areaN l n
  | 0, _ => rfl
  | n + 1, hn => by
    have := foldR_wh h (i := n) (by omega)
    rw [areaR, areaN, areaN_eq h n (by omega), Rc.w, Rc.h, this.1, this.2]
end Go.Ab
