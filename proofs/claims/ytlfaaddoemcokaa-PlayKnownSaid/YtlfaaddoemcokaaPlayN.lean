/-
  'sharper': the tip that it returns, what it is, and what it reads. No condition but the sizes of slices.
-/
import Derived.Test.YtlfaaddoemcokaaPlayM
namespace Go.Proofs.Ytlfaaddoemcokaa
open Go.RowKit Go.Dw

def shE (t bs : List Int) (k : Nat) (prev : Int) : Int :=
  if 0 < k then max (if k < bs.length then min 4194304 (gi t k + gi bs k) else gi t k) prev else gi t k
def shTo (t bs : List Int) : Nat → List Int
  | 0 => []
  | k + 1 => shTo t bs k ++ [shE t bs k (gi (shTo t bs k) (k - 1))]
def shN (t : List Int) (less : Int) : Nat := max 1 (t.length - less.toNat % 8)
def sharpL (t bs : List Int) (less : Int) : List Int := shTo t bs (shN t less)
theorem shTo_length (t bs : List Int) : ∀ k, (shTo t bs k).length = k
  | 0 => rfl
  | k + 1 => by simp [shTo, shTo_length t bs k]
/-- What a sharper tip is: shorter, each element as great at least. -/
def Sharper (s t : List Int) : Prop := s.length ≤ t.length ∧ ∀ k, k < s.length → gi t k ≤ gi s k
set_option maxRecDepth 100000 in
set_option maxHeartbeats 2000000 in
theorem sharper_calls (A B : Option Addr) (r c m d : Nat) (t bs : List Int) (less : Int) (w : World) (ht : IntsAt w A r t) (hb : SlAt (encK .u8) 1 w B m bs) (hm : m ≤ 4611686018427387904)
    (hck : checkTip t = 0) (hbb : ∀ x ∈ bs, 0 ≤ x ∧ x ≤ 255) (hle : 0 ≤ less ∧ less ≤ 255) :
    Calls Try.prog 26 #[.agg #[.slice A r c], .slice B m d, .int .u8 less] w fun e w' => ∃ v, e = .returned (.agg #[v]) ∧ w'.ownsRow w.heap.size 2 1 v (shN t less) ((sharpL t bs less).flatMap encI) ∧ Below w.heap.size w w' := by
  obtain ⟨i0, hel⟩ := el_i64
  obtain ⟨h1, h2, h3, h4, h5⟩ := checkTip_ok hck
  have hl1 := ht.1
  have hN : 1 ≤ shN t less ∧ shN t less ≤ r := by unfold shN; omega
  have hem : 0 ≤ less % 8 ∧ less % 8 < 8 := by omega
  have hNd : max 1 ((r : Int) - less % 8) = (shN t less : Int) := by
    have : less % 8 = ((less.toNat % 8 : Nat) : Int) := by omega
    rw [this]; unfold shN; omega
  have w1 : IntKind.i64.wrap less = less := IntWalk.i64_in _ (by omega)
  have w2 : IntKind.i64.wrap (less % 8) = less % 8 := IntWalk.i64_in _ (by omega)
  have w3 : IntKind.i64.wrap ((r : Int) - less % 8) = (r : Int) - less % 8 := IntWalk.i64_in _ (by omega)
  have Hl := Lib.hid hl1
  have Hb := Lib.hid hb.1
  have bx := Box.new w 24 #[.slice A r c]
  have by0 := Box.newA (w.alloc (.cells #[.slice A r c] 24)) 24 #[.slice none 0 0] (g := w.heap.size + 1) (by simp)
  have bx1 := bx.alloc (.cells #[.slice none 0 0] 24)
  have hb0 := (below_new w (.cells #[.slice A r c] 24)).alloc (by simp) (.cells #[.slice none 0 0] 24)
  have hrr : r ≤ 64 := by omega
  have hgt : ∀ k, k < r → 0 ≤ gi t k ∧ gi t k ≤ 4194304 := fun k hk => h5 _ (gi_mem (by rw [Hl.out]; exact hk))
  clear hl1 h1 h2 h3 h4 h5 hck
  go_enter Try.func26, Try.ntmps26
  go_wp2
  go_loopw [8, 9] (fun v i wr => ∃ k : Nat, k ≤ shN t less ∧ i = .int .i64 k ∧ wr.ownsRow w.heap.size 2 1 v k ((shTo t bs k).flatMap encI) ∧ Box wr w.heap.size 24 #[.slice A r c] ∧ Box wr (w.heap.size + 1) 24 #[.slice none 0 0] ∧ Below w.heap.size w wr) (fun _ i _ => shN t less - (intOf i).toNat)
  case atStart => exact ⟨0, Nat.zero_le _, rfl, World.ownsRow_nil _ _ _ _, bx1, by0, hb0⟩
  case round =>
    obtain ⟨k, hk, rfl, hown, bxr, byr, hbl⟩ := hrel
    have z0 : wr.cell? ⟨w.heap.size, 0, none⟩ = some (.slice A r c) := bxr.cell 0
    have z1 : wr.cell? ⟨w.heap.size + 1, 0, none⟩ = some (.slice none 0 0) := byr.cell 0
    have z2 : wr.frozen? ⟨w.heap.size + 1, 0, none⟩ = false := byr.frozen 0
    by_cases hlt : k < shN t less
    · obtain ⟨b, o, rfl, _, p0⟩ := Go.Dw.ints_at (ht.below' hbl) (show k < r by omega)
      have gk := hgt k (by omega)
      have n1 : (k : Int) < (shN t less : Int) := by omega
      have n2 : (k : Int) < (r : Int) := by omega
      have hsl := shTo_length t bs k
      have HS := Lib.hid hsl
      have fin : ∀ x, x = shE t bs k (gi (shTo t bs k) (k - 1)) → ∀ (v' : Value) (w2 : World), w2.ownsRow w.heap.size 2 1 v' (k + 1) ((shTo t bs k).flatMap encI ++ [.int .i64 x]) → w2.ownsRow w.heap.size 2 1 v' (k + 1) ((shTo t bs (k + 1)).flatMap encI) := fun x hx v' w2 ho => by
        subst hx; rw [show shTo t bs (k + 1) = shTo t bs k ++ [shE t bs k (gi (shTo t bs k) (k - 1))] from rfl, List.flatMap_append]; exact ho
      have FIN := Lib.hid fin
      clear fin hsl
      by_cases h0 : k = 0
      · subst h0
        have d1 : ((0 : Nat) : Int) = 0 := rfl
        have E := Lib.hid (show gi t 0 = shE t bs 0 (gi (shTo t bs 0) (0 - 1)) by simp [shE])
        have p0' : wr.cell? ⟨b, o, none⟩ = some (.int .i64 (gi t 0)) := by simpa using p0
        go_wp2_with (at_builtin; refine wpList_push hel rfl _ _ rfl rfl (hown.alloc _) rfl (Box.new wr 2 _) rfl (by intro u hu; simp at hu; subst hu; rfl) (by omega) (by decide) (by have := hbl.size; simp; omega) ?_; intro v' w2 hown2 hg2)
        go_roundw
        case rel =>
          refine ⟨0 + 1, by omega, by go_num, FIN.out _ E.out _ _ hown2, (bxr.alloc _).grown hg2 (fun e => own_ne hown bxr (by decide) _ e.symm rfl), (byr.alloc _).grown hg2 (fun e => own_ne hown byr (by decide) _ e.symm rfl), ?_⟩
          exact (hbl.alloc hbl.size _).grown hg2 (by have := hbl.size; simp; omega) (fun g e => by have := hown.lt g e; omega)
        case measure => simp [intOf]; omega
      · obtain ⟨j, rfl⟩ : ∃ j, k = j + 1 := ⟨k - 1, by omega⟩
        obtain ⟨A8, c8, rfl⟩ := own_form hown
        obtain ⟨b8, o8, rfl, _, p8⟩ := Go.Dw.ints_at (SlAt.of_own encI_len (by decide) hown) (show j < j + 1 by omega)
        have m1 : IntKind.i64.wrap ((j : Int) + 1 - 1) = (j : Int) := by rw [IntWalk.i64_in _ (by omega)]; omega
        have m2 : IntKind.i64.wrap (j : Int) = (j : Int) := IntWalk.i64_in _ (by omega)
        have m3 : (0 : Int) < (j : Int) + 1 := by omega
        have m4 : ((j : Int) + 1).toNat = j + 1 := by omega
        have m5 : (0 : Int) ≤ (j : Int) := by omega
        have m6 : (j : Int) < (j : Int) + 1 := by omega
        by_cases hbl2 : j + 1 < m
        · have E := Lib.hid (show max (min 4194304 (gi t (j + 1) + gi bs (j + 1))) (gi (shTo t bs (j + 1)) j) = shE t bs (j + 1) (gi (shTo t bs (j + 1)) (j + 1 - 1)) by rw [shE, if_pos (by omega), if_pos (by rw [Hb.out]; exact hbl2)]; rfl)
          have d1 : decide ((j : Int) + 1 < (m : Int)) = true := by simp; omega
          obtain ⟨b5, o5, rfl, _, p5⟩ := bytes_at (hb.below' hbl) hbl2
          have r5 := (forall_gi.1 hbb) (j + 1) (by rw [Hb.out]; exact hbl2)
          have m7 : IntKind.i64.wrap (gi bs (j + 1)) = gi bs (j + 1) := IntWalk.i64_in _ (by omega)
          have m8 : IntKind.i64.wrap (gi t (j + 1) + gi bs (j + 1)) = gi t (j + 1) + gi bs (j + 1) := IntWalk.i64_in _ (by omega)
          go_wp2_with (at_builtin; refine wpList_push hel rfl _ _ rfl rfl (hown.alloc _) rfl (Box.new wr 2 _) rfl (by intro u hu; simp at hu; subst hu; rfl) (by omega) (by decide) (by have := hbl.size; simp; omega) ?_; intro v' w2 hown2 hg2)
          go_roundw
          case rel =>
            refine ⟨j + 1 + 1, by omega, by go_num, FIN.out _ E.out _ _ hown2, (bxr.alloc _).grown hg2 (fun e => own_ne hown bxr (by decide) _ e.symm rfl), (byr.alloc _).grown hg2 (fun e => own_ne hown byr (by decide) _ e.symm rfl), ?_⟩
            exact (hbl.alloc hbl.size _).grown hg2 (by have := hbl.size; simp; omega) (fun g e => by have := hown.lt g e; omega)
          case measure => simp [intOf]; omega
        · have E := Lib.hid (show max (gi t (j + 1)) (gi (shTo t bs (j + 1)) j) = shE t bs (j + 1) (gi (shTo t bs (j + 1)) (j + 1 - 1)) by rw [shE, if_pos (by omega), if_neg (by rw [Hb.out]; exact hbl2)]; rfl)
          have d1 : decide ((j : Int) + 1 < (m : Int)) = false := by simp; omega
          go_wp2_with (at_builtin; refine wpList_push hel rfl _ _ rfl rfl (hown.alloc _) rfl (Box.new wr 2 _) rfl (by intro u hu; simp at hu; subst hu; rfl) (by omega) (by decide) (by have := hbl.size; simp; omega) ?_; intro v' w2 hown2 hg2)
          go_roundw
          case rel =>
            refine ⟨j + 1 + 1, by omega, by go_num, FIN.out _ E.out _ _ hown2, (bxr.alloc _).grown hg2 (fun e => own_ne hown bxr (by decide) _ e.symm rfl), (byr.alloc _).grown hg2 (fun e => own_ne hown byr (by decide) _ e.symm rfl), ?_⟩
            exact (hbl.alloc hbl.size _).grown hg2 (by have := hbl.size; simp; omega) (fun g e => by have := hown.lt g e; omega)
          case measure => simp [intOf]; omega
    · obtain rfl : k = shN t less := by omega
      obtain ⟨A8, c8, rfl⟩ := own_form hown
      go_wp2
      have byf := byr.set 0 (.slice A8 (shN t less) c8)
      have y9 := byf.cell 0
      have ho := own_setCell hown (p := ⟨w.heap.size + 1, 0, none⟩) (own_ne hown byr (by decide)) (.slice A8 (shN t less) c8)
      exact bodyPost_ret (v := .agg #[.slice A8 (shN t less) c8]) (by simp [results, Try.results26, go_sem, y9]) rfl ⟨_, rfl, ho, hbl.setCell (by simp) _⟩
end Go.Proofs.Ytlfaaddoemcokaa
