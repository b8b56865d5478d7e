/-
  Several texts in one: Nets of panels, as plain functions. No condition. .. Runs of sheets, as plain functions. No condition.
-/
import Derived.Test.YtfckkkmacjjmhaaDoorMD
import Derived.Test.YtfckkkmacjjmhaaDoorX02
namespace Go.Ab
structure Pan where
 on : Int
 edge : Int
 off : Int
 wide : Int
 high : Int
structure Rc where
 x0 : Int
 y0 : Int
 x1 : Int
 y1 : Int
 down : Bool
def Pan.c (p : Pan) : List V := [.i p.on, .i p.edge, .i p.off, .i p.wide, .i p.high]
def Rc.c (r : Rc) : List V := [.i r.x0, .i r.y0, .i r.x1, .i r.y1, .b r.down]
def gpan (l : List Pan) (k : Nat) : Pan := l.getD k ⟨0, 0, 0, 0, 0⟩
def V.pans (l : List Pan) : V := .sl 5 l.length fun k => (gpan l k).c
def V.rcs (n : Nat) (f : Nat → Rc) : V := .sl 5 n fun k => (f k).c
def hangX (b : Rc) (p : Pan) : Int := if p.edge = 0 then b.x1 else if p.edge = 2 then b.x0 - p.wide else b.x0 + p.off
def hangY (b : Rc) (p : Pan) : Int := if p.edge = 1 then b.y1 else if p.edge = 3 then b.y0 - p.high else b.y0 + p.off
def hangR (b : Rc) (p : Pan) : Rc := ⟨hangX b p, hangY b p, hangX b p + p.wide, hangY b p + p.high, false⟩
def comW (a b : Rc) : Int := min a.x1 b.x1 - max a.x0 b.x0
def comH (a b : Rc) : Int := min a.y1 b.y1 - max a.y0 b.y0
theorem comW_comm (a b : Rc) : comW a b = comW b a := by unfold comW; omega
theorem comH_comm (a b : Rc) : comH a b = comH b a := by unfold comH; omega
def flipXR (a : Rc) (at_ : Int) : Rc := ⟨2 * at_ - a.x1, a.y0, 2 * at_ - a.x0, a.y1, a.down⟩
def flipYR (a : Rc) (at_ : Int) : Rc := ⟨a.x0, 2 * at_ - a.y1, a.x1, 2 * at_ - a.y0, a.down⟩
def mirR (a b : Rc) (e : Int) : Rc := if e = 1 then ⟨a.x0, 2 * b.y1 - a.y1, a.x1, 2 * b.y1 - a.y0, !a.down⟩ else if e = 2 then ⟨2 * b.x0 - a.x1, a.y0, 2 * b.x0 - a.x0, a.y1, !a.down⟩ else if e = 3 then ⟨a.x0, 2 * b.y0 - a.y1, a.x1, 2 * b.y0 - a.y0, !a.down⟩ else ⟨2 * b.x1 - a.x1, a.y0, 2 * b.x1 - a.x0, a.y1, !a.down⟩
def Rc.bd (B : Int) (r : Rc) : Prop := (-B ≤ r.x0 ∧ r.x0 ≤ B) ∧ (-B ≤ r.y0 ∧ r.y0 ≤ B) ∧ (-B ≤ r.x1 ∧ r.x1 ≤ B) ∧ (-B ≤ r.y1 ∧ r.y1 ≤ B)
def Pan.szOk (p : Pan) : Prop := (1 ≤ p.wide ∧ p.wide ≤ 65536) ∧ (1 ≤ p.high ∧ p.high ≤ 65536)
def Pan.ok0 (p : Pan) : Prop := p.on = -1 ∧ p.edge = 0 ∧ p.off = 0
def Pan.okI (p : Pan) (i : Nat) : Prop := (0 ≤ p.on ∧ p.on < i) ∧ (0 ≤ p.edge ∧ p.edge ≤ 3) ∧ (-65536 ≤ p.off ∧ p.off ≤ 65536)
instance (p : Pan) : Decidable p.szOk := by unfold Pan.szOk; infer_instance
instance (p : Pan) : Decidable p.ok0 := by unfold Pan.ok0; infer_instance
instance (p : Pan) (i : Nat) : Decidable (p.okI i) := by unfold Pan.okI; infer_instance
def outR (l : List Pan) : Nat → List Rc
 | 0 => []
 | n + 1 => outR l n ++ [if n = 0 then ⟨0, 0, (gpan l 0).wide, (gpan l 0).high, false⟩ else hangR ((outR l n).getD (gpan l n).on.toNat ⟨0, 0, 0, 0, false⟩) (gpan l n)]
def rcF (l : List Pan) (i : Nat) : Rc := (outR l (i + 1)).getD i ⟨0, 0, 0, 0, false⟩
theorem outR_len (l : List Pan) : ∀ n, (outR l n).length = n
 | 0 => rfl
 | n + 1 => by rw [outR, List.length_append, outR_len l n]; rfl
theorem outR_get (l : List Pan) : ∀ {n i : Nat}, i < n → (outR l n).getD i ⟨0, 0, 0, 0, false⟩ = rcF l i
 | n + 1, i, h => by
  by_cases hi : i = n
  ·
   subst hi; rfl
  ·
   rw [outR, List.getD_eq_getElem?_getD, List.getElem?_append_left (by rw [outR_len]; omega), ← List.getD_eq_getElem?_getD]
   exact outR_get l oM
theorem rcF_zero (l : List Pan) : rcF l 0 = ⟨0, 0, (gpan l 0).wide, (gpan l 0).high, false⟩ := by simp [rcF, outR]
theorem rcF_succ (l : List Pan) {i : Nat} (h0 : 0 < i) (h1 : (gpan l i).on.toNat < i) : rcF l i = hangR (rcF l (gpan l i).on.toNat) (gpan l i) := by
 have h : i ≠ 0 := by omega
 rw [rcF, outR, List.getD_eq_getElem?_getD, List.getElem?_append_right (by rw [outR_len]; exact Nat.le_refl _), outR_len, Nat.sub_self]
 simp only [List.getElem?_cons_zero, Option.getD_some, if_neg h]
 rw [outR_get l h1]
def panE (l : List Pan) (i : Nat) : Int := if ¬ (gpan l i).szOk then 2 else if i = 0 then (if (gpan l 0).ok0 then 0 else 2) else if ¬ (gpan l i).okI i then 2 else if comW (rcF l (gpan l i).on.toNat) (rcF l i) ≤ 0 ∧ comH (rcF l (gpan l i).on.toNat) (rcF l i) ≤ 0 then 5 else 0
def fstE (f : Nat → Int) : Nat → Int
 | 0 => 0
 | n + 1 => if fstE f n = 0 then f n else fstE f n
theorem fstE_ok {f : Nat → Int} : ∀ {n : Nat}, fstE f n = 0 ↔ ∀ i, i < n → f i = 0
 | 0 => by simp [fstE]
 | n + 1 => by
  rw [fstE]
  constructor
  ·
   intro h
   split at h
   ·
    rename_i h0
    intro i hi
    by_cases he : i = n
    ·
     subst he; exact h
    ·
     exact fstE_ok.1 h0 i oM
   ·
    contradiction
  ·
   intro h
   rw [if_pos (fstE_ok.2 fun i hi => h i oM)]
   exact h n oM
theorem fstE_at {f : Nat → Int} {i : Nat} (h0 : fstE f i = 0) (h1 : f i ≠ 0) : ∀ {n : Nat}, i < n → fstE f n = f i
 | n + 1, h => by
  rw [fstE]
  by_cases he : i = n
  ·
   subst he; rw [if_pos h0]
  ·
   have := fstE_at h0 h1 (n := n) oM
   rw [this, if_neg h1]
def lapB (l : List Pan) (i k : Nat) : Prop := 0 < comW (rcF l i) (rcF l k) ∧ 0 < comH (rcF l i) (rcF l k)
instance (l : List Pan) (i k : Nat) : Decidable (lapB l i k) := by unfold lapB; infer_instance
def lapE (l : List Pan) (n : Nat) : Int := if (List.range n).any (fun i => (List.range i).any fun k => decide (lapB l i k)) = true then 20 else 0
theorem lap_iff {l : List Pan} {n : Nat} : (List.range n).any (fun i => (List.range i).any fun k => decide (lapB l i k)) = true ↔ ∃ i k, k < i ∧ i < n ∧ lapB l i k := by
 simp only [List.any_eq_true, List.mem_range, decide_eq_true_eq]
 constructor
 ·
  rintro ⟨i, hi, k, hk, h⟩; exact ⟨i, k, hk, hi, h⟩
 ·
  rintro ⟨i, k, hk, hi, h⟩; exact ⟨i, hi, k, hk, h⟩
def netE (l : List Pan) : Int := if l.length = 0 ∨ 12 < l.length then 6 else if fstE (panE l) l.length = 0 then lapE l l.length else fstE (panE l) l.length
def netN (l : List Pan) : Nat := if netE l = 0 then l.length else 0
theorem netE_many {l : List Pan} (h : l.length = 0 ∨ 12 < l.length) : netE l = 6 := by rw [netE, if_pos h]
theorem netE_pan {l : List Pan} (h : ¬ (l.length = 0 ∨ 12 < l.length)) {i : Nat} (hi : i < l.length) (h0 : fstE (panE l) i = 0) (h1 : panE l i ≠ 0) : netE l = panE l i := by
 rw [netE, if_neg h, fstE_at h0 h1 hi, if_neg h1]
theorem netE_lap {l : List Pan} (h : ¬ (l.length = 0 ∨ 12 < l.length)) (h0 : fstE (panE l) l.length = 0) {i k : Nat} (hk : k < i) (hi : i < l.length) (hl : lapB l i k) : netE l = 20 := by
 rw [netE, if_neg h, if_pos h0, lapE, if_pos (lap_iff.2 ⟨i, k, hk, hi, hl⟩)]
theorem netE_ok {l : List Pan} (h : ¬ (l.length = 0 ∨ 12 < l.length)) (h0 : fstE (panE l) l.length = 0) (hl : ∀ i k, k < i → i < l.length → ¬ lapB l i k) : netE l = 0 := by
 rw [netE, if_neg h, if_pos h0, lapE, if_neg (fun h => by obtain ⟨i, k, a, b, c⟩ := lap_iff.1 h; exact hl i k a b c)]
theorem netE_inv {l : List Pan} (h : netE l = 0) : (0 < l.length ∧ l.length ≤ 12) ∧ (∀ i, i < l.length → panE l i = 0) ∧ ∀ i k, k < i → i < l.length → ¬ lapB l i k := by
 unfold netE at h
 split at h
 ·
  omega
 ·
  rename_i h1
  split at h
  ·
   rename_i h2
   unfold lapE at h
   split at h
   ·
    omega
   ·
    rename_i h3
    exact ⟨by omega, fstE_ok.1 h2, fun i k a b c => h3 (lap_iff.2 ⟨i, k, a, b, c⟩)⟩
  ·
   omega
theorem panE_inv {l : List Pan} {i : Nat} (h : panE l i = 0) : (gpan l i).szOk ∧ (i = 0 → (gpan l 0).ok0) ∧ (0 < i → (gpan l i).okI i ∧ (0 < comW (rcF l (gpan l i).on.toNat) (rcF l i) ∨ 0 < comH (rcF l (gpan l i).on.toNat) (rcF l i))) := by
 unfold panE at h
 split at h
 ·
  omega
 ·
  rename_i h1
  refine ⟨Classical.not_not.1 h1, ?_⟩
  split at h
  ·
   rename_i h2
   split at h
   ·
    rename_i h3
    exact ⟨fun _ => h3, fun h => by omega⟩
   ·
    omega
  ·
   rename_i h2
   split at h
   ·
    omega
   ·
    rename_i h3
    split at h
    ·
     omega
    ·
     rename_i h4
     exact ⟨fun h => absurd h h2, fun _ => ⟨Classical.not_not.1 h3, by omega⟩⟩
theorem panE_sz {l : List Pan} {i : Nat} (h : ¬ (gpan l i).szOk) : panE l i = 2 := by rw [panE, if_pos h]
theorem panE_0 {l : List Pan} (h : (gpan l 0).szOk) (h0 : ¬ (gpan l 0).ok0) : panE l 0 = 2 := by rw [panE, if_neg (fun k => k h), if_pos rfl, if_neg h0]
theorem panE_0ok {l : List Pan} (h : (gpan l 0).szOk) (h0 : (gpan l 0).ok0) : panE l 0 = 0 := by rw [panE, if_neg (fun k => k h), if_pos rfl, if_pos h0]
theorem panE_I {l : List Pan} {i : Nat} (hi : 0 < i) (h : (gpan l i).szOk) (h0 : ¬ (gpan l i).okI i) : panE l i = 2 := by rw [panE, if_neg (fun k => k h), if_neg oM, if_pos h0]
theorem panE_T {l : List Pan} {i : Nat} (hi : 0 < i) (h : (gpan l i).szOk) (h0 : (gpan l i).okI i) (ht : comW (rcF l (gpan l i).on.toNat) (rcF l i) ≤ 0 ∧ comH (rcF l (gpan l i).on.toNat) (rcF l i) ≤ 0) : panE l i = 5 := by rw [panE, if_neg (fun k => k h), if_neg oM, if_neg (fun k => k h0), if_pos ht]
theorem panE_ok {l : List Pan} {i : Nat} (hi : 0 < i) (h : (gpan l i).szOk) (h0 : (gpan l i).okI i) (ht : ¬ (comW (rcF l (gpan l i).on.toNat) (rcF l i) ≤ 0 ∧ comH (rcF l (gpan l i).on.toNat) (rcF l i) ≤ 0)) : panE l i = 0 := by rw [panE, if_neg (fun k => k h), if_neg oM, if_neg (fun k => k h0), if_neg ht]
theorem hangR_bd {b : Rc} {p : Pan} {B : Int} (hb : b.bd B) (hs : p.szOk) (ho : -65536 ≤ p.off ∧ p.off ≤ 65536) : (hangR b p).bd (B + 131072) := by
 obtain ⟨⟨a1, a2⟩, ⟨a3, a4⟩, ⟨a5, a6⟩, a7, a8⟩ := hb
 obtain ⟨⟨s1, s2⟩, s3, s4⟩ := hs
 have hx : -(B + 65536) ≤ hangX b p ∧ hangX b p ≤ B + 65536 := by unfold hangX; split <;> (try split) <;> omega
 have hy : -(B + 65536) ≤ hangY b p ∧ hangY b p ≤ B + 65536 := by unfold hangY; split <;> (try split) <;> omega
 simp only [Rc.bd, hangR]
 omega
theorem Rc.bd_mono {r : Rc} {B B' : Int} (h : r.bd B) (hb : B ≤ B') : r.bd B' := by
 unfold Rc.bd at *; omega
theorem rcF_bd {l : List Pan} : ∀ (i : Nat), (∀ j, j ≤ i → (gpan l j).szOk ∧ (0 < j → (gpan l j).okI j)) → (rcF l i).bd (131072 * (i + 1)) := by
 intro i
 induction i using Nat.strongRecOn with
 | _ i ih =>
  intro h
  by_cases h0 : i = 0
  ·
   subst h0
   rw [rcF_zero]
   obtain ⟨⟨s1, s2⟩, s3, s4⟩ := (h 0 (Nat.le_refl _)).1
   simp only [Rc.bd]; omega
  ·
   have hI := (h i (Nat.le_refl _)).2 oM
   obtain ⟨⟨o1, o2⟩, _, o3⟩ := hI
   rw [rcF_succ l oM oM]
   have := hangR_bd (ih (gpan l i).on.toNat oM fun j hj => h j oM) (h i (Nat.le_refl _)).1 o3
   exact Rc.bd_mono this oM
def foldC (l : List Pan) : Nat → Nat → Rc → Rc
 | 0, _, b => b
 | f + 1, k, b => if k = 0 then b else foldC l f (gpan l k).on.toNat (mirR b (rcF l (gpan l k).on.toNat) (gpan l k).edge)
def foldR (l : List Pan) (i : Nat) : Rc := foldC l i i (rcF l i)
theorem foldC_more {l : List Pan} (h : ∀ j, 0 < j → j < l.length → (gpan l j).on.toNat < j) : ∀ (f k : Nat) (b : Rc), k ≤ f → k < l.length → foldC l f k b = foldC l k k b := by
 intro f
 induction f using Nat.strongRecOn with
 | _ f ih =>
  intro k b hk hkl
  cases k with
  | zero => cases f <;> simp [foldC]
  | succ k =>
   cases f with
   | zero => omega
   | succ f =>
    have hj := h (k + 1) oM hkl
    rw [foldC, foldC, if_neg oM, if_neg oM, ih f oM _ _ oM oM, ih k oM _ _ oM oM]
theorem foldC_step {l : List Pan} (h : ∀ j, 0 < j → j < l.length → (gpan l j).on.toNat < j) {k : Nat} (b : Rc) (h0 : 0 < k) (hk : k < l.length) : foldC l k k b = foldC l (gpan l k).on.toNat (gpan l k).on.toNat (mirR b (rcF l (gpan l k).on.toNat) (gpan l k).edge) := by
 cases k with
 | zero => omega
 | succ k =>
  have hj := h (k + 1) oM hk
  rw [foldC, if_neg oM, foldC_more h k _ _ oM oM]
theorem mirR_bd {a b : Rc} {e A B : Int} (ha : a.bd A) (hb : b.bd B) (hB : 0 ≤ B) (hA : 0 ≤ A) : (mirR a b e).bd (A + 2 * B) := by
 unfold Rc.bd at *
 unfold mirR
 split
 ·
  simp only; omega
 split
 ·
  simp only; omega
 split
 ·
  simp only; omega
 ·
  simp only; omega
def pockOk (l : List Pan) (a b : Int) : Prop := (0 ≤ a ∧ a < l.length) ∧ (0 ≤ b ∧ b < l.length) ∧ a ≠ b
instance (l : List Pan) (a b : Int) : Decidable (pockOk l a b) := by unfold pockOk; infer_instance
structure NetOk (l : List Pan) : Prop where
 pos : 0 < l.length
 le : l.length ≤ 12
 sz : ∀ i, i < l.length → (gpan l i).szOk
 base : (gpan l 0).ok0
 okI : ∀ i, 0 < i → i < l.length → (gpan l i).okI i
 on : ∀ i, 0 < i → i < l.length → (gpan l i).on.toNat < i
 touch : ∀ i, 0 < i → i < l.length → 0 < comW (rcF l (gpan l i).on.toNat) (rcF l i) ∨ 0 < comH (rcF l (gpan l i).on.toNat) (rcF l i)
 lap : ∀ i k, k < i → i < l.length → ¬ lapB l i k
 bd : ∀ i, i < l.length → (rcF l i).bd 1703936
theorem netOk {l : List Pan} (h : netE l = 0) : NetOk l := by
 obtain ⟨⟨h1, h2⟩, h3, h4⟩ := netE_inv h
 have hI : ∀ i, 0 < i → i < l.length → (gpan l i).okI i := fun i h0 hi => ((panE_inv (h3 i hi)).2.2 h0).1
 refine ⟨h1, h2, fun i hi => (panE_inv (h3 i hi)).1, (panE_inv (h3 0 h1)).2.1 rfl, hI, fun i h0 hi => ?_, fun i h0 hi => ((panE_inv (h3 i hi)).2.2 h0).2, h4, fun i hi => Rc.bd_mono (rcF_bd i fun j hj => ⟨(panE_inv (h3 j oM)).1, fun h0 => hI j h0 oM⟩) oM⟩
 obtain ⟨⟨a, b⟩, _⟩ := hI i h0 hi
 omega
end Go.Ab

namespace Go.Ab
open Go.RowKit Go.Dw
def outB (n lo hi : Int) : Bool := decide (n < lo) || decide (hi < n)
def copB (n : Int) : Bool := outB n 1 1048576
def chkC (c : List Int) (slots plate : Int) : Int := if 8 < c.length then 6 else if c.any copB then 2 else if outB slots 1 64 || outB plate 0 1048576 then 3 else 0
theorem any_gi {c : List Int} {p : Int → Bool} : c.any p = true ↔ ∃ i, i < c.length ∧ p (gi c i) = true := by
 rw [List.any_eq_true]
 constructor
 ·
  rintro ⟨x, hx, h⟩
  obtain ⟨i, hi, rfl⟩ := List.mem_iff_getElem.1 hx
  exact ⟨i, hi, by simpa [gi, List.getD_eq_getElem?_getD, List.getElem?_eq_getElem hi] using h⟩
 ·
  rintro ⟨i, hi, h⟩
  exact ⟨c[i], List.getElem_mem hi, by simpa [gi, List.getD_eq_getElem?_getD, List.getElem?_eq_getElem hi] using h⟩
theorem chkC_1 {c : List Int} {s p : Int} (h : 8 < c.length) : chkC c s p = 6 := by rw [chkC, if_pos h]
theorem chkC_2 {c : List Int} {s p : Int} (h : ¬ 8 < c.length) {i : Nat} (hi : i < c.length) (hb : copB (gi c i) = true) : chkC c s p = 2 := by rw [chkC, if_neg h, if_pos (any_gi.2 ⟨i, hi, hb⟩)]
theorem chkC_any {c : List Int} (hb : ∀ i, i < c.length → copB (gi c i) = false) : ¬ c.any copB = true := fun h => by
 obtain ⟨i, hi, h⟩ := any_gi.1 h
 rw [hb i hi] at h; cases h
theorem chkC_3 {c : List Int} {s p : Int} (h : ¬ 8 < c.length) (hb : ∀ i, i < c.length → copB (gi c i) = false) (ho : (outB s 1 64 || outB p 0 1048576) = true) : chkC c s p = 3 := by rw [chkC, if_neg h, if_neg (chkC_any hb), if_pos ho]
theorem chkC_4 {c : List Int} {s p : Int} (h : ¬ 8 < c.length) (hb : ∀ i, i < c.length → copB (gi c i) = false) (ho : ¬ (outB s 1 64 || outB p 0 1048576) = true) : chkC c s p = 0 := by rw [chkC, if_neg h, if_neg (chkC_any hb), if_neg ho]
def CO (c : List Int) : Prop := ∀ x ∈ c, 1 ≤ x ∧ x ≤ 1048576
theorem CO.gi {c : List Int} (h : CO c) {i : Nat} (hi : i < c.length) : 1 ≤ gi c i ∧ gi c i ≤ 1048576 := by
 have := h _ (List.getElem_mem hi)
 simpa [Dw.gi, List.getD_eq_getElem?_getD, List.getElem?_eq_getElem hi] using this
theorem chkC_inv {c : List Int} {s p : Int} (h : chkC c s p = 0) : c.length ≤ 8 ∧ CO c ∧ (1 ≤ s ∧ s ≤ 64) ∧ 0 ≤ p ∧ p ≤ 1048576 := by
 unfold chkC at h
 split at h
 ·
  omega
 ·
  split at h
  ·
   omega
  ·
   rename_i h2
   split at h
   ·
    omega
   ·
    rename_i h3
    refine ⟨by omega, fun x hx => ?_, ?_⟩
    ·
     cases hb : copB x with
     | false => simp [copB, outB] at hb; omega
     | true => exact absurd (List.any_eq_true.2 ⟨x, hx, hb⟩) h2
    ·
     simp [outB] at h3; omega
def plc (n s : Int) : Int := (n + s - 1) / s
theorem plc_iff {n s q : Int} (hs : 1 ≤ s) : plc n s ≤ q ↔ n ≤ q * s := by
 unfold plc
 rw [Int.le_iff_lt_add_one, Int.ediv_lt_iff_lt_mul oM, Int.add_mul]
 omega
theorem plc_pos {n s : Int} (hn : 1 ≤ n) (hs : 1 ≤ s) : 1 ≤ plc n s := by
 have : ¬ plc n s ≤ 0 := by rw [plc_iff hs]; omega
 omega
theorem plc_mono {n s s' : Int} (hn : 1 ≤ n) (hs : 1 ≤ s) (h : s ≤ s') : plc n s' ≤ plc n s := by
 rw [plc_iff oM]
 have h1 := (plc_iff (n := n) (q := plc n s) hs).1 (Int.le_refl _)
 have h2 := plc_pos hn hs
 have : plc n s * s ≤ plc n s * s' := Int.mul_le_mul_of_nonneg_left h oM
 omega
theorem plc_one {n s : Int} (hs : 1 ≤ s) (h : n ≤ s) : plc n s ≤ 1 := by rw [plc_iff hs]; omega
theorem plc_le {n s : Int} (hn : 1 ≤ n) (hs : 1 ≤ s) : plc n s ≤ n := by
 rw [plc_iff hs]
 have : n * 1 ≤ n * s := Int.mul_le_mul_of_nonneg_left hs oM
 omega
theorem tdiv_plc {n s : Int} (hn : 1 ≤ n) (hs : 1 ≤ s) : (n + s - 1).tdiv s = plc n s := Int.tdiv_eq_ediv_of_nonneg oM
def plcS (c : List Int) (s : Int) : Nat → Int
 | 0 => 0
 | k + 1 => plcS c s k + plc (gi c k) s
theorem plcS_bd {c : List Int} (h : CO c) {s : Int} (hs : 1 ≤ s) : ∀ k, k ≤ c.length → (k : Int) ≤ plcS c s k ∧ plcS c s k ≤ 1048576 * k
 | 0, _ => by simp [plcS]
 | k + 1, hk => by
  have := plcS_bd h hs k oM
  have q := h.gi (i := k) oM
  have p1 := plc_pos q.1 hs
  have p2 := plc_le q.1 hs
  rw [plcS]; omega
theorem plcS_mono {c : List Int} (h : CO c) {s s' : Int} (hs : 1 ≤ s) (hss : s ≤ s') : ∀ k, k ≤ c.length → plcS c s' k ≤ plcS c s k
 | 0, _ => Int.le_refl _
 | k + 1, hk => by
  have := plcS_mono h hs hss k oM
  have q := plc_mono (h.gi (i := k) oM).1 hs hss
  rw [plcS, plcS]; omega
theorem plcS_top {c : List Int} {s : Int} (hs : 1 ≤ s) (h : ∀ i, i < c.length → gi c i ≤ s) : ∀ k, k ≤ c.length → plcS c s k ≤ k
 | 0, _ => by simp [plcS]
 | k + 1, hk => by
  have := plcS_top hs h k oM
  have q := plc_one hs (h k oM)
  rw [plcS]; omega
structure IsRun (c : List Int) (slots F : Int) : Prop where
 pos : 1 ≤ F
 ok : plcS c F c.length ≤ slots
 least : ∀ s, 1 ≤ s → s < F → slots < plcS c s c.length
theorem IsRun.uniq {c : List Int} {slots F G : Int} (h : IsRun c slots F) (k : IsRun c slots G) : F = G := by
 rcases Int.lt_trichotomy F G with hl | hl | hl
 ·
  have := k.least F h.pos hl; have := h.ok; omega
 ·
  exact hl
 ·
  have := h.least G k.pos hl; have := k.ok; omega
def fewN (c : List Int) (slots : Int) : Int := if c.length = 0 then 0 else idxF (fun s => decide (plcS c ((s : Int) + 1) c.length ≤ slots)) 1048576 + 1
theorem fewN_spec {c : List Int} (h : CO c) {slots : Int} (hl : (c.length : Int) ≤ slots) (h0 : c.length ≠ 0) : IsRun c slots (fewN c slots) ∧ fewN c slots ≤ 1048576 := by
 rw [fewN, if_neg h0]
 rcases idxF_inv (p := fun s : Nat => decide (plcS c ((s : Int) + 1) c.length ≤ slots)) (n := 1048576) with ⟨_, hn⟩ | ⟨i, hi, e, h1, h2⟩
 ·
  exfalso
  have := hn 1048575 oM
  have t := plcS_top (c := c) (s := ((1048575 : Nat) : Int) + 1) oM (fun i hi => by have := (h.gi hi).2; omega) c.length (Nat.le_refl _)
  simp only [decide_eq_false_iff_not] at this
  omega
 ·
  rw [e]
  refine ⟨⟨by omega, by simpa using h1, fun s hs1 hs2 => ?_⟩, by omega⟩
  have := h2 (s - 1).toNat oM
  simp only [decide_eq_false_iff_not] at this
  rw [show (((s - 1).toNat : Nat) : Int) + 1 = s by omega] at this
  omega
theorem fewN_nil {c : List Int} {slots : Int} (h : c.length = 0) : fewN c slots = 0 := by rw [fewN, if_pos h]
theorem fewN_eq {c : List Int} (h : CO c) {slots F : Int} (hl : (c.length : Int) ≤ slots) (h0 : c.length ≠ 0) (hF : IsRun c slots F) : fewN c slots = F := (fewN_spec h hl h0).1.uniq hF
def runE (c : List Int) (slots : Int) : Int := if chkC c slots 0 ≠ 0 then chkC c slots 0 else if slots < c.length then 14 else 0
def runS (c : List Int) (slots : Int) : Int := if runE c slots = 0 then fewN c slots else 0
def runL (c : List Int) (slots : Int) : List Int := if runE c slots = 0 then c.map fun n => plc n (fewN c slots) else []
theorem gi_map {c : List Int} {g : Int → Int} {i : Nat} (h : i < c.length) : gi (c.map g) i = g (gi c i) := by
 simp [gi, List.getD_eq_getElem?_getD, List.getElem?_eq_getElem h]
end Go.Ab
