/-
  What a tip makes of one wall (walk): the numbers of the walls, one after another. Conditions: at most 65536 heights and elements, of amounts of at most 16777216, the elements not below 0.
-/
import Derived.Test.YtlfaaddoemcokaaPlayA
import Derived.Deep.RegionWith
namespace Go.Proofs.Ytlfaaddoemcokaa
open Go.RowKit Go.Dw Go.Shelf

theorem el_i64 : ∃ i, ElemT Try.prog 22 2 i (.int .i64 0) 1 8 := elemT Try.underlying22 (by kernel_rfl) rfl (by decide)

def walkAt (t h : List Int) (down : Bool) (i : Nat) : Int :=
  foldB down (gi h i) ((List.range (nearN i h.length t.length)).map fun k => gi h (nearLo i t.length + k) + (if down then - gi t (dist (nearLo i t.length + k) i) else gi t (dist (nearLo i t.length + k) i)))
def walkL (t h : List Int) (down : Bool) : List Int := (List.range h.length).map (walkAt t h down)
/-- What the slice holds when k heights are done. -/
def walkTo (t h : List Int) (down : Bool) (k : Nat) : List Int := (List.range h.length).map fun i => if i < k then walkAt t h down i else 0
theorem walkTo_zero (t h : List Int) (down : Bool) : walkTo t h down 0 = List.replicate h.length 0 := by
  apply List.ext_getElem <;> simp [walkTo]
theorem walkTo_all (t h : List Int) (down : Bool) : walkTo t h down h.length = walkL t h down := by
  apply List.ext_getElem
  · simp [walkTo, walkL]
  · intro i h1 h2
    simp [walkTo, walkL] at h1 ⊢
    omega
theorem walkTo_set (t h : List Int) (down : Bool) (k : Nat) : (walkTo t h down k).set k (walkAt t h down k) = walkTo t h down (k + 1) := by
  apply List.ext_getElem
  · simp [walkTo]
  · intro i h1 h2
    simp [walkTo] at h1 h2 ⊢
    rw [List.getElem_set]
    by_cases e : k = i
    · subst e; simp
    · simp [e]
      by_cases h3 : i < k
      · simp [h3]; intro h4; omega
      · simp [h3]; intro h4; omega
theorem walkTo_length (t h : List Int) (down : Bool) (k : Nat) : (walkTo t h down k).length = h.length := by simp [walkTo]
theorem numEs_eq (h t : List Int) (down : Bool) (i : Nat) :
    numEs h t down i = ((List.range (nearN i h.length t.length)).map fun k => gi h (nearLo i t.length + k) + (if down then - gi t (dist (nearLo i t.length + k) i) else gi t (dist (nearLo i t.length + k) i))).map fun v => #[.int .i64 v] := by
  simp [numEs, numE]

set_option maxRecDepth 100000 in
set_option maxHeartbeats 2000000 in
theorem walk_calls (At Ah : Option Addr) (r ct n ch : Nat) (t h : List Int) (down : Bool) (w : World) (hn : n ≤ 65536) (hr : r ≤ 65536) (ht : IntsAt w At r t) (hh : IntsAt w Ah n h)
    (hhb : ∀ x ∈ h, -16777216 ≤ x ∧ x ≤ 16777216) (htb : ∀ x ∈ t, 0 ≤ x ∧ x ≤ 16777216) :
    Calls Try.prog 66 #[.agg #[.slice At r ct], .slice Ah n ch, .bool down] w fun e w' => ∃ g, w.heap.size ≤ g ∧ e = .returned (.slice (some ⟨g, 0, none⟩) n n) ∧
      Box w' g 2 (intCells (walkL t h down)) ∧ Below w.heap.size w w' := by
  obtain ⟨i0, hel⟩ := el_i64
  have hmk := fun W => make_ints hel n (by omega) (by omega) W
  go_enter Try.func66, Try.ntmps66
  go_wp2
  have b1 := ((Box.new w 24 #[.slice At r ct]).alloc (.cells #[.slice Ah n ch] 22)).alloc (.cells #[.bool down] 4) |>.alloc (.cells (intCells (List.replicate n 0)) 2)
  have b2 := ((Box.new (w.alloc (.cells #[.slice At r ct] 24)) 22 #[.slice Ah n ch]).alloc (.cells #[.bool down] 4)).alloc (.cells (intCells (List.replicate n 0)) 2)
  have b3 := (Box.new ((w.alloc (.cells #[.slice At r ct] 24)).alloc (.cells #[.slice Ah n ch] 22)) 4 #[.bool down]).alloc (.cells (intCells (List.replicate n 0)) 2)
  have b4 := Box.new (((w.alloc (.cells #[.slice At r ct] 24)).alloc (.cells #[.slice Ah n ch] 22)).alloc (.cells #[.bool down] 4)) 2 (intCells (List.replicate n 0))
  have hb0 := (((below_new w (.cells #[.slice At r ct] 24)).alloc (by simp) (.cells #[.slice Ah n ch] 22)).alloc (by simp; omega) (.cells #[.bool down] 4)).alloc (by simp; omega) (.cells (intCells (List.replicate n 0)) 2)
  have hs0 : ((((w.alloc (.cells #[.slice At r ct] 24)).alloc (.cells #[.slice Ah n ch] 22)).alloc (.cells #[.bool down] 4)).alloc (.cells (intCells (List.replicate n 0)) 2)).heap.size = w.heap.size + 1 + 1 + 1 + 1 := by simp
  simp only [World.size_alloc] at b1 b2 b3 b4
  generalize (((w.alloc (.cells #[.slice At r ct] 24)).alloc (.cells #[.slice Ah n ch] 22)).alloc (.cells #[.bool down] 4)).alloc (.cells (intCells (List.replicate n 0)) 2) = w0 at *
  have hl1 : h.length = n := hh.1
  rw [← hl1, ← walkTo_zero t h down] at b4
  have Hl1 := Lib.hid hl1
  clear hl1 hmk
  have hh0 := hh.below' hb0
  have ht0 := ht.below' hb0
  have nA : ∀ b, Ah.map (·.block) = some b → 0 < n → b < w.heap.size := fun b hb hn0 => by
    obtain ⟨b', o, rfl, hb', _⟩ := hh.2.2 hn0; simp at hb; omega
  go_loopw [16] (fun kv wr => ∃ k : Nat, k ≤ n ∧ kv = .int .i64 k ∧ Box wr (w.heap.size + 1 + 1 + 1) 2 (intCells (walkTo t h down k)) ∧ Tch (· = w.heap.size + 1 + 1 + 1) w0 wr) (fun kv wr => n - (intOf kv).toNat)
  case atStart => exact ⟨0, Nat.zero_le _, rfl, b4, Tch.refl _ _⟩
  case round =>
    obtain ⟨k, hk, rfl, hbo, hT⟩ := hrel
    have c1 := hT.box b1 (by omega)
    have c2 := hT.box b2 (by omega)
    have c3 := hT.box b3 (by omega)
    have hbw : Below w.heap.size w wr := hb0.trans (hT.below (by omega) (fun q hq => by omega))
    by_cases hlt : k < n
    · have hhw := hh.below' hbw
      have htw := ht.below' hbw
      obtain ⟨bH, oH, rfl, hbH, hcH⟩ := ints_at hhw hlt
      have d3 : wr.cell? ⟨w.heap.size + 1 + 1, 0, none⟩ = some (.bool down) := c3.cell 0
      have d2 : wr.cell? ⟨w.heap.size + 1, 0, none⟩ = some (.slice (some ⟨bH, oH, none⟩) n ch) := c2.cell 0
      have l1 := c1.lt
      have l2 := c2.lt
      have l3 := c3.lt
      have l4 := hbo.lt
      have hx1 : Box (wr.alloc (.cells #[.int .i64 k] 3)) wr.heap.size 3 #[.int .i64 k] := Box.new _ _ _
      have hx2 := below_new wr (.cells #[.int .i64 k] 3)
      have hx3 := size_new wr (.cells #[.int .i64 k] 3)
      cases down
      · go_wp2
        generalize wr.alloc (.cells #[.int .i64 k] 3) = wx at *
        have e1 := c1.below hx2 l1
        have e2 := c2.below hx2 l2
        have e3 := c3.below hx2 l3
        have e4 := hbo.below hx2 l4
        have hi : wx.cell? ⟨wr.heap.size, 0, none⟩ = some (.int .i64 k) := hx1.cell 0
        have hbx : Below w.heap.size w wx := hbw.trans (hx2.mono (by omega))
        have hit : ∀ (R : Nat → Prop) (w' : World), Below wx.drew.heap.size wx.drew w' → (∀ k, R k → wx.drew.heap.size ≤ k ∧ k < w'.heap.size) →
            Iter Try.prog 93 #[.pointer (some ⟨wr.heap.size, 0, none⟩), .pointer (some ⟨w.heap.size + 1, 0, none⟩), .pointer (some ⟨w.heap.size, 0, none⟩), .pointer (some ⟨w.heap.size + 1 + 1, 0, none⟩)]
              (((List.range (nearN k h.length t.length)).map fun q => gi h (nearLo k t.length + q) + (if false then - gi t (dist (nearLo k t.length + q) k) else gi t (dist (nearLo k t.length + q) k))).map fun v => #[.int .i64 v]) R w' := fun R w' hb hR => by
          have hb' : Below wx.heap.size wx w' := below_undrew hb
          have hsx : ∀ q, q < wx.heap.size → ¬ R q := fun q hq e => by have := (hR q e).1; have : wx.heap.size ≤ q := this; omega
          have := hx1.lt
          rw [← numEs_eq]
          refine numbers_iter _ _ _ _ k (some ⟨bH, oH, none⟩) At n ch r ct h t false w' R hlt hn hr (hx1.below hb' (by omega)) (e2.below hb' (by omega)) (e1.below hb' (by omega)) (e3.below hb' (by omega))
            ((hh.below' hbx).below hb' (Nat.le_refl _)) ((ht.below' hbx).below hb' (Nat.le_refl _)) hhb htb (hsx _ (by omega)) (hsx _ (by omega)) (hsx _ (by omega)) (hsx _ (by omega)) ?_ ?_ (fun q e => (hR q e).2)
          · intro b hb2; simp at hb2; exact hsx _ (by omega)
          · intro hr0 b hb2
            obtain ⟨b', o, rfl, hb3, _⟩ := ht.2.2 hr0
            simp at hb2; exact hsx _ (by have := hbx.size; omega)
        have Hit := Lib.hid hit
        clear hit
        go_region_with (go_at_call 94; refine (fold_calls false 96 (.inr ⟨rfl, rfl⟩) _ _ 93 _ wx.drew (enters_of Try.func93 (by kernel_rfl) rfl) Hit.out).mono ?_; rintro e w' ⟨rfl, hbw'⟩; have q1 : w'.cell? ⟨wr.heap.size, 0, none⟩ = some (.int .i64 k) := (hx1.below (w := wx.drew) hbw' hx1.lt).cell 0; have q2 : w'.cell? ⟨w.heap.size + 1 + 1 + 1, k, none⟩ = some (.int .i64 (gi (walkTo t h false k) k)) := ((e4.below (w := wx.drew) hbw' e4.lt).cell k).trans (intCells_get _ _ (by rw [walkTo_length, Hl1.out]; exact hlt)); have q3 : w'.frozen? ⟨w.heap.size + 1 + 1 + 1, k, none⟩ = false := (e4.below (w := wx.drew) hbw' e4.lt).frozen k)
        all_goals
          have hbw2 : Below wx.heap.size wx w' := below_undrew hbw'
          go_wp2
          go_roundw
          case rel =>
            refine ⟨k + 1, by omega, by go_num, ?_, ?_⟩
            · have hs := (e4.below hbw2 e4.lt).set k (.int .i64 (walkAt t h false k))
              rw [intCells_set, walkTo_set] at hs
              simpa [walkAt] using hs
            · exact ((hT.trans (Tch.of_new hx2)).trans (Tch.of_new hbw2)).setCell (fun _ => rfl) _
          case measure => simp [intOf]; omega
      · go_wp2
        generalize wr.alloc (.cells #[.int .i64 k] 3) = wx at *
        have e1 := c1.below hx2 l1
        have e2 := c2.below hx2 l2
        have e3 := c3.below hx2 l3
        have e4 := hbo.below hx2 l4
        have hi : wx.cell? ⟨wr.heap.size, 0, none⟩ = some (.int .i64 k) := hx1.cell 0
        have hbx : Below w.heap.size w wx := hbw.trans (hx2.mono (by omega))
        have hit : ∀ (R : Nat → Prop) (w' : World), Below wx.drew.heap.size wx.drew w' → (∀ k, R k → wx.drew.heap.size ≤ k ∧ k < w'.heap.size) →
            Iter Try.prog 93 #[.pointer (some ⟨wr.heap.size, 0, none⟩), .pointer (some ⟨w.heap.size + 1, 0, none⟩), .pointer (some ⟨w.heap.size, 0, none⟩), .pointer (some ⟨w.heap.size + 1 + 1, 0, none⟩)]
              (((List.range (nearN k h.length t.length)).map fun q => gi h (nearLo k t.length + q) + (if true then - gi t (dist (nearLo k t.length + q) k) else gi t (dist (nearLo k t.length + q) k))).map fun v => #[.int .i64 v]) R w' := fun R w' hb hR => by
          have hb' : Below wx.heap.size wx w' := below_undrew hb
          have hsx : ∀ q, q < wx.heap.size → ¬ R q := fun q hq e => by have := (hR q e).1; have : wx.heap.size ≤ q := this; omega
          have := hx1.lt
          rw [← numEs_eq]
          refine numbers_iter _ _ _ _ k (some ⟨bH, oH, none⟩) At n ch r ct h t true w' R hlt hn hr (hx1.below hb' (by omega)) (e2.below hb' (by omega)) (e1.below hb' (by omega)) (e3.below hb' (by omega))
            ((hh.below' hbx).below hb' (Nat.le_refl _)) ((ht.below' hbx).below hb' (Nat.le_refl _)) hhb htb (hsx _ (by omega)) (hsx _ (by omega)) (hsx _ (by omega)) (hsx _ (by omega)) ?_ ?_ (fun q e => (hR q e).2)
          · intro b hb2; simp at hb2; exact hsx _ (by omega)
          · intro hr0 b hb2
            obtain ⟨b', o, rfl, hb3, _⟩ := ht.2.2 hr0
            simp at hb2; exact hsx _ (by have := hbx.size; omega)
        have Hit := Lib.hid hit
        clear hit
        go_region_with (go_at_call 94; refine (fold_calls true 95 (.inl ⟨rfl, rfl⟩) _ _ 93 _ wx.drew (enters_of Try.func93 (by kernel_rfl) rfl) Hit.out).mono ?_; rintro e w' ⟨rfl, hbw'⟩; have q1 : w'.cell? ⟨wr.heap.size, 0, none⟩ = some (.int .i64 k) := (hx1.below (w := wx.drew) hbw' hx1.lt).cell 0; have q2 : w'.cell? ⟨w.heap.size + 1 + 1 + 1, k, none⟩ = some (.int .i64 (gi (walkTo t h true k) k)) := ((e4.below (w := wx.drew) hbw' e4.lt).cell k).trans (intCells_get _ _ (by rw [walkTo_length, Hl1.out]; exact hlt)); have q3 : w'.frozen? ⟨w.heap.size + 1 + 1 + 1, k, none⟩ = false := (e4.below (w := wx.drew) hbw' e4.lt).frozen k)
        all_goals
          have hbw2 : Below wx.heap.size wx w' := below_undrew hbw'
          go_wp2
          go_roundw
          case rel =>
            refine ⟨k + 1, by omega, by go_num, ?_, ?_⟩
            · have hs := (e4.below hbw2 e4.lt).set k (.int .i64 (walkAt t h true k))
              rw [intCells_set, walkTo_set] at hs
              simpa [walkAt] using hs
            · exact ((hT.trans (Tch.of_new hx2)).trans (Tch.of_new hbw2)).setCell (fun _ => rfl) _
          case measure => simp [intOf]; omega
    · obtain rfl : k = n := by omega
      go_wp2
      go_ret
      refine ⟨_, ?_, rfl, ?_, hbw⟩
      · omega
      · rw [← Hl1.out, walkTo_all] at hbo; exact hbo
end Go.Proofs.Ytlfaaddoemcokaa
