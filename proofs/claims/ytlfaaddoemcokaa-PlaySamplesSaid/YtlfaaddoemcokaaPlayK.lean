/-
  The helpers of the laws: 'valid', 'inside', 'narrowed'. No condition.
-/
import Derived.Test.YtlfaaddoemcokaaPlayJ
import Derived.Test.YtlfaaddoemcokaaMC
namespace Go.Proofs.Ytlfaaddoemcokaa
open Go.RowKit Go.Dw

def validB (t : List Int) (l : List Pt) (most : Int) : Bool := decide (checkTip t = 0) && decide ((l.length : Int) ≤ most) && decide (checkPts l = 0)
theorem validB_ok {t : List Int} {l : List Pt} {most : Nat} (h : validB t l most = true) : checkTip t = 0 ∧ l.length ≤ most ∧ checkPts l = 0 := by
  simp [validB] at h; omega

set_option maxRecDepth 100000 in
set_option maxHeartbeats 1000000 in
theorem valid_calls (A : Option Addr) (r c : Nat) (t : List Int) (B : Option Addr) (n d : Nat) (l : List Pt) (most : Int) (w : World) (ht : IntsAt w A r t) (hl : PtsAt w B n l) (hr : r ≤ 4611686018427387904) (hn : n ≤ 4611686018427387904) :
    Calls Try.prog 19 #[.agg #[.slice A r c], .slice B n d, .int .i64 most] w fun e w' => e = .returned (.bool (validB t l most)) ∧ Below w.heap.size w w' := by
  have hb0 := below_new w (.cells #[.slice A r c] 24)
  have hq := hl.1
  have e0 : validB t l most = (decide (checkTip t = 0) && decide ((n : Int) ≤ most) && decide (checkPts l = 0)) := by rw [validB, hq]
  have E0 := Lib.hid e0
  clear e0 hq
  go_enter Try.func19, Try.ntmps19
  go_wp2_with fail
  generalize w.alloc (.cells #[.slice A r c] 24) = w0 at *
  refine (refCheckTip_calls A r c t w0 (ht.below' hb0) hr).mono ?_
  rintro e w1 ⟨rfl, hw1⟩
  have hb1 := hb0.trans (hw1.mono hb0.size)
  by_cases h0 : checkTip t = 0
  · have d0 : (checkTip t == 0) = true := by simp [h0]
    have H0 := Lib.hid h0
    clear h0
    by_cases h1 : (n : Int) ≤ most
    · have H1 := Lib.hid h1
      go_wp2_with fail
      refine (refCheckPts_calls B n d l w1 (hl.below' hb1) hn).mono ?_
      rintro e w2 ⟨rfl, hw2⟩
      go_wp2
      go_ret
      exact ⟨ret_bool (by rw [E0.out]; simp [H0.out, H1.out]; rfl), hb1.trans (hw2.mono hb1.size)⟩
    · have h1' : decide ((n : Int) ≤ most) = false := by simpa using h1
      have H1 := Lib.hid h1'
      go_wp2
      go_ret
      exact ⟨ret_bool (by rw [E0.out, H1.out]; simp), hb1⟩
  · have d0 : (checkTip t == 0) = false := by simp [h0]
    have H0 := Lib.hid h0
    clear h0
    go_wp2
    go_ret
    exact ⟨ret_bool (by rw [E0.out]; simp [H0.out]), hb1⟩

/-! ### inside -/
def inK (a b : List Pt) (k : Nat) : Prop := (gp a k).2 ≤ (gp b k).2 ∧ (gp b k).1 ≤ (gp a k).1
def Inside (a b : List Pt) : Prop := a.length = b.length ∧ ∀ k, k < a.length → inK a b k
instance (a b : List Pt) : Decidable (Inside a b) := by unfold Inside inK; infer_instance

set_option maxRecDepth 100000 in
set_option maxHeartbeats 1000000 in
theorem inside_calls (A B : Option Addr) (n c m d : Nat) (a b : List Pt) (w : World) (ha : PtsAt w A n a) (hb : PtsAt w B m b) (hn : n ≤ 4611686018427387904) (hm : m ≤ 4611686018427387904) :
    Calls Try.prog 23 #[.slice A n c, .slice B m d] w fun e w' => e = .returned (.bool (decide (Inside a b))) ∧ Below w.heap.size w w' := by
  have Ha := Lib.hid ha.1
  have Hb := Lib.hid hb.1
  by_cases hnm : n = m
  · subst hnm
    have d0 : ((n : Int) != (n : Int)) = false := by simp
    go_enter Try.func23, Try.ntmps23
    go_wp2
    go_loopw [5] (fun i wr => ∃ k : Nat, k ≤ n ∧ i = .int .i64 k ∧ (∀ j, j < k → inK a b j) ∧ Below w.heap.size w wr) (fun i _ => n - (intOf i).toNat)
    case atStart => exact ⟨0, Nat.zero_le _, rfl, fun j hj => absurd hj (by omega), Below.refl _ _⟩
    case round =>
      obtain ⟨k, hk, rfl, htk, hbl⟩ := hrel
      have Htk := Lib.hid htk
      clear htk
      by_cases hlt : k < n
      · obtain ⟨b1, o1, rfl, _, p0, p1⟩ := pts_at (ha.below' hbl) hlt
        obtain ⟨b2, o2, rfl, _, q0, q1⟩ := pts_at (hb.below' hbl) hlt
        have n1 : (k : Int) < (n : Int) := by omega
        by_cases h1 : (gp b k).2 < (gp a k).2
        · have hno : ¬ Inside a b := fun h => by have := (h.2 k (by rw [Ha.out]; exact hlt)).1; omega
          have Hno := Lib.hid hno
          clear hno
          have h2 : decide ((gp b k).2 < (gp a k).2) = true := by simpa using h1
          go_wp2
          go_quiet (fail)
          go_wp2
          go_ret
          exact ⟨ret_bool (by simp [Hno.out]), below_drewN hbl _⟩
        · have h1' : decide ((gp b k).2 < (gp a k).2) = false := by simpa using h1
          by_cases h2 : (gp a k).1 < (gp b k).1
          · have hno : ¬ Inside a b := fun h => by have := (h.2 k (by rw [Ha.out]; exact hlt)).2; omega
            have Hno := Lib.hid hno
            clear hno
            go_wp2
            go_quiet (fail)
            go_wp2
            go_ret
            exact ⟨ret_bool (by simp [Hno.out]), below_drewN hbl _⟩
          · have h2' : decide ((gp a k).1 < (gp b k).1) = false := by simpa using h2
            have hin : inK a b k := ⟨by omega, by omega⟩
            have Hin := Lib.hid hin
            clear hin
            go_wp2
            go_quiet (fail)
            go_wp2
            go_roundw
            case rel => exact ⟨k + 1, by omega, by go_num, fun j hj => (Nat.lt_succ_iff_lt_or_eq.1 hj).elim (Htk.out j) (fun e => e ▸ Hin.out), below_drewN hbl _⟩
            case measure => simp [intOf]; omega
      · obtain rfl : k = n := by omega
        have h : Inside a b := ⟨Ha.out.trans Hb.out.symm, fun j hj => Htk.out j (by rw [Ha.out] at hj; exact hj)⟩
        have H := Lib.hid h
        clear h
        go_wp2
        go_ret
        exact ⟨ret_bool (by simp [H.out]), hbl⟩
  · have d0 : ((n : Int) != (m : Int)) = true := by simp; omega
    have hab : ¬ Inside a b := fun h => hnm (by rw [← Ha.out, ← Hb.out]; exact h.1)
    have Hab := Lib.hid hab
    clear hab
    go_enter Try.func23, Try.ntmps23
    go_wp2
    go_ret
    exact ⟨ret_bool (by simp [Hab.out]), Below.refl _ _⟩

/-! ### narrowed -/
def encB (x : Int) : List Value := [.int .u8 x]
theorem bytes_at {w : World} {A : Option Addr} {n : Nat} {l : List Int} (h : SlAt (encK .u8) 1 w A n l) {k : Nat} (hk : k < n) : ∃ b o, A = some ⟨b, o, none⟩ ∧ b < w.heap.size ∧ w.cell? ⟨b, o + k, none⟩ = some (.int .u8 (gi l k)) := by
  obtain ⟨b, o, hA, hb, hc⟩ := h.2.2 (by omega)
  have := hc k (by have := h.1; omega) 0 (by omega)
  simp [encK] at this
  exact ⟨b, o, hA, hb, by rw [this, gi_eq (by have := h.1; omega)]⟩

def narrowE (l : List Pt) (by' : List Int) (k : Nat) : Pt :=
  if 2 * k + 1 < by'.length then (min 4194304 ((gp l k).1 + gi by' (2 * k + 1)), max (-4194304) ((gp l k).2 - gi by' (2 * k))) else gp l k
def narrowN (l : List Pt) (by' : List Int) (n : Nat) : List Pt := (List.range n).map (narrowE l by')
def narrowL (l : List Pt) (by' : List Int) : List Pt := narrowN l by' l.length
theorem narrowN_succ (l : List Pt) (by' : List Int) (n : Nat) : narrowN l by' (n + 1) = narrowN l by' n ++ [narrowE l by' n] := by simp [narrowN, List.range_succ]

set_option maxRecDepth 100000 in
set_option maxHeartbeats 1000000 in
theorem narrowed_calls (A B : Option Addr) (n c m d : Nat) (l : List Pt) (bs : List Int) (w : World) (hl : PtsAt w A n l) (hb : SlAt (encK .u8) 1 w B m bs) (hn : n ≤ 4096) (_ : m ≤ 4611686018427387904)
    (hlb : ∀ p ∈ l, -4194304 ≤ p.1 ∧ p.1 ≤ 4194304 ∧ -4194304 ≤ p.2 ∧ p.2 ≤ 4194304) (hbb : ∀ x ∈ bs, 0 ≤ x ∧ x ≤ 255) :
    Calls Try.prog 25 #[.slice A n c, .slice B m d] w fun e w' => ∃ v, e = .returned v ∧ w'.ownsRow w.heap.size 29 2 v n ((narrowL l bs).flatMap encP) ∧ Below w.heap.size w w' := by
  obtain ⟨i0, hel⟩ := el_pt
  have Hl := Lib.hid hl.1
  have Hb := Lib.hid hb.1
  go_enter Try.func25, Try.ntmps25
  go_wp2
  go_loopw [5, 6] (fun v i wr => ∃ k : Nat, k ≤ n ∧ i = .int .i64 k ∧ wr.ownsRow w.heap.size 29 2 v k ((narrowN l bs k).flatMap encP) ∧ Below w.heap.size w wr) (fun _ i _ => n - (intOf i).toNat)
  case atStart => exact ⟨0, Nat.zero_le _, rfl, World.ownsRow_nil _ _ _ _, Below.refl _ _⟩
  case round =>
    obtain ⟨k, hk, rfl, hown, hbl⟩ := hrel
    by_cases hlt : k < n
    · obtain ⟨b, o, rfl, hbb0, p0, p1⟩ := pts_at (hl.below' hbl) hlt
      have q0 := (forall_gp.1 hlb) k (by rw [Hl.out]; exact hlt)
      have n1 : (k : Int) < (n : Int) := by omega
      have bx := Box.new wr 29 #[.int .i64 (gp l k).1, .int .i64 (gp l k).2]
      by_cases h1 : 2 * k + 1 < m
      · have d1 : decide (2 * (k : Int) + 1 < (m : Int)) = true := by simp; omega
        have e1 : (min 4194304 ((gp l k).1 + gi bs (2 * k + 1)), max (-4194304) ((gp l k).2 - gi bs (2 * k))) = narrowE l bs k := by rw [narrowE, if_pos (by rw [Hb.out]; exact h1)]
        have E1 := Lib.hid e1
        clear e1
        obtain ⟨b2, o2, rfl, hbb2, y0⟩ := bytes_at (hb.below' hbl) (show 2 * k < m by omega)
        obtain ⟨b2', o2', hA, _, y1⟩ := bytes_at (hb.below' hbl) h1
        injection hA with hA; injection hA with hA1 hA2; subst hA1 hA2
        have r0 := (forall_gi.1 hbb) (2 * k) (by rw [Hb.out]; omega)
        have r1 := (forall_gi.1 hbb) (2 * k + 1) (by rw [Hb.out]; omega)
        have m1 : IntKind.i64.wrap (2 * (k : Int)) = ((2 * k : Nat) : Int) := by rw [IntWalk.i64_in _ (by omega)]; omega
        have m2 : IntKind.i64.wrap (((2 * k : Nat) : Int) + 1) = ((2 * k + 1 : Nat) : Int) := by rw [IntWalk.i64_in _ (by omega)]; omega
        have m3 : IntKind.i64.wrap (gi bs (2 * k)) = gi bs (2 * k) := IntWalk.i64_in _ (by omega)
        have m4 : IntKind.i64.wrap (gi bs (2 * k + 1)) = gi bs (2 * k + 1) := IntWalk.i64_in _ (by omega)
        have m5 : IntKind.i64.wrap ((gp l k).2 - gi bs (2 * k)) = (gp l k).2 - gi bs (2 * k) := IntWalk.i64_in _ (by omega)
        have m6 : IntKind.i64.wrap ((gp l k).1 + gi bs (2 * k + 1)) = (gp l k).1 + gi bs (2 * k + 1) := IntWalk.i64_in _ (by omega)
        have m7 : ((2 * k : Nat) : Int) < (m : Int) := by omega
        have m8 : ((2 * k + 1 : Nat) : Int) < (m : Int) := by omega
        have m9 : (0 : Int) ≤ ((2 * k : Nat) : Int) := by omega
        have m10 : (0 : Int) ≤ ((2 * k + 1 : Nat) : Int) := by omega
        go_upto_region 7 with fail
        go_region
        all_goals
          go_upto_region 8 with fail
          go_region
        all_goals
          have hbl1 : Below w.heap.size w ((wr.alloc (.cells #[.int .i64 (min 4194304 ((gp l k).1 + gi bs (2 * k + 1))), .int .i64 (max (-4194304) ((gp l k).2 - gi bs (2 * k)))] 29)).drew.drew) := below_drewN (hbl.alloc hbl.size _) 2
          have hown1 := own_below' hown (below_drewN (below_new wr (.cells #[.int .i64 (min 4194304 ((gp l k).1 + gi bs (2 * k + 1))), .int .i64 (max (-4194304) ((gp l k).2 - gi bs (2 * k)))] 29)) 2)
          go_wp2_with (at_builtin; refine wpList_push hel rfl _ _ rfl rfl (hown1.alloc _) rfl (Box.newA (g := wr.heap.size + 1) _ 29 _ (by simp)) rfl (by intro u hu; simp at hu; rcases hu with rfl | rfl <;> rfl) (by omega) (by decide) (by have := hbl.size; simp; omega) ?_; intro v' w2 hown2 hg2)
          go_roundw
          case rel =>
            refine ⟨k + 1, by omega, by go_num, ?_, ?_⟩
            · rw [narrowN_succ, List.flatMap_append, ← E1.out]; exact hown2
            · exact (hbl1.alloc hbl1.size _).grown hg2 (by have := hbl.size; simp; omega) (fun g e => by have := hown1.lt g e; omega)
          case measure => simp [intOf]; omega
      · have d1 : decide (2 * (k : Int) + 1 < (m : Int)) = false := by simp; omega
        have e1 : gp l k = narrowE l bs k := by rw [narrowE, if_neg (by rw [Hb.out]; exact h1)]
        have E1 := Lib.hid e1
        clear e1
        go_wp2_with (at_builtin; refine wpList_push hel rfl _ _ rfl rfl ((hown.alloc _).alloc _) rfl (Box.newA (g := wr.heap.size + 1) _ 29 _ (by simp)) rfl (by intro u hu; simp at hu; rcases hu with rfl | rfl <;> rfl) (by omega) (by decide) (by have := hbl.size; simp; omega) ?_; intro v' w2 hown2 hg2)
        go_roundw
        case rel =>
          refine ⟨k + 1, by omega, by go_num, ?_, ?_⟩
          · rw [narrowN_succ, List.flatMap_append, ← E1.out]; exact hown2
          · exact ((hbl.alloc hbl.size _).alloc (by simp; have := hbl.size; omega) _).grown hg2 (by have := hbl.size; simp; omega) (fun g e => by have := hown.lt g e; simp; omega)
        case measure => simp [intOf]; omega
    · obtain rfl : k = n := by omega
      go_wp2
      go_ret
      exact ⟨_, rfl, by rw [narrowL, Hl.out]; exact hown, hbl⟩
end Go.Proofs.Ytlfaaddoemcokaa
