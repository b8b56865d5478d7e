/-
  The document's 'read': what it computes. No condition but the sizes of slices, and their bounds.
-/
import Derived.Test.YtlfaaddoemcokaaPlayM
namespace Go.Proofs.Ytlfaaddoemcokaa
open Go.RowKit Go.Dw

def stepPt (t : List Int) (l : List Pt) (i : Nat) (p : Pt) (u : Nat) : Pt :=
  if dist u i < t.length then (max p.1 ((gp l u).1 - gi t (dist u i)), min p.2 ((gp l u).2 + gi t (dist u i))) else p
def readPt (t : List Int) (l : List Pt) (i k : Nat) : Pt := (List.range k).foldl (stepPt t l i) (gp l i)
def readPts (t : List Int) (l : List Pt) (k : Nat) : List Pt := (List.range k).map fun i => readPt t l i l.length
theorem readPt_succ (t : List Int) (l : List Pt) (i k : Nat) : readPt t l i (k + 1) = stepPt t l i (readPt t l i k) k := by simp [readPt, List.range_succ]
theorem readPts_succ (t : List Int) (l : List Pt) (k : Nat) : readPts t l (k + 1) = readPts t l k ++ [readPt t l k l.length] := by simp [readPts, List.range_succ]

set_option maxRecDepth 100000 in
set_option maxHeartbeats 2000000 in
theorem refread_calls (A : Option Addr) (r c : Nat) (t : List Int) (B : Option Addr) (n d : Nat) (l : List Pt) (w : World) (ht : IntsAt w A r t) (hl : PtsAt w B n l) (_ : r ≤ 64) (hn : n ≤ 4096)
    (htb : ∀ x ∈ t, 0 ≤ x ∧ x ≤ 4194304) (hlb : Bd l) :
    Calls Try.prog 69 #[.agg #[.slice A r c], .slice B n d] w fun e w' => ∃ v, e = .returned v ∧ w'.ownsRow w.heap.size 29 2 v n ((readPts t l n).flatMap encP) ∧ Below w.heap.size w w' := by
  obtain ⟨i0, hel⟩ := el_pt
  have Hl := Lib.hid hl.1
  have Ht := Lib.hid ht.1
  have hbx := Box.new w 24 #[.slice A r c]
  have hb0 := below_new w (.cells #[.slice A r c] 24)
  go_enter Try.func69, Try.ntmps69
  go_wp2
  go_loopw [5, 6] (fun v i wr => ∃ k : Nat, k ≤ n ∧ i = .int .i64 k ∧ wr.ownsRow w.heap.size 29 2 v k ((readPts t l k).flatMap encP) ∧ Box wr w.heap.size 24 #[.slice A r c] ∧ Below w.heap.size w wr) (fun _ i _ => n - (intOf i).toNat)
  case atStart => exact ⟨0, Nat.zero_le _, rfl, World.ownsRow_nil _ _ _ _, hbx, hb0⟩
  case round =>
    obtain ⟨k, hk, rfl, hown, bxr, hbl⟩ := hrel
    by_cases hlt : k < n
    · obtain ⟨b, o, rfl, hb, p0, p1⟩ := pts_at (hl.below' hbl) hlt
      have n1 : (k : Int) < (n : Int) := by omega
      go_wp2_with fail
      have hp := Box.new wr 29 #[.int .i64 (gp l k).1, .int .i64 (gp l k).2]
      have hb1 := below_new wr (.cells #[.int .i64 (gp l k).1, .int .i64 (gp l k).2] 29)
      generalize wr.alloc (.cells #[.int .i64 (gp l k).1, .int .i64 (gp l k).2] 29) = w1 at *
      obtain ⟨wo, rfl⟩ : ∃ wo : World, wo = wr := ⟨_, rfl⟩
      go_loopw [8] (fun u w2 => ∃ q : Nat, q ≤ n ∧ u = .int .i64 q ∧ Box w2 wo.heap.size 29 #[.int .i64 (readPt t l k q).1, .int .i64 (readPt t l k q).2] ∧ Below wo.heap.size wo w2) (fun u _ => n - (intOf u).toNat)
      case atStart => exact ⟨0, Nat.zero_le _, rfl, by simpa [readPt] using hp, hb1⟩
      case round =>
        obtain ⟨q, hq, rfl, hpx, hbq⟩ := hrel
        have hb2 := hbl.trans (hbq.mono hbl.size)
        by_cases hqm : q < n
        · have hbx2 := bxr.below' hbq
          obtain ⟨b', o', hA, hb', hd1, hd2⟩ := pts_at (hl.below' hb2) hqm
          injection hA with hA; injection hA with hA1 hA2; subst hA1 hA2
          have hsl : wr.cell? ⟨w.heap.size, 0, none⟩ = some (.slice A r c) := hbx2.cell 0
          have hp1 : wr.cell? ⟨wo.heap.size, 0, none⟩ = some (.int .i64 (readPt t l k q).1) := hpx.cell 0
          have hp2 : wr.cell? ⟨wo.heap.size, 1, none⟩ = some (.int .i64 (readPt t l k q).2) := hpx.cell 1
          have hp3 : wr.frozen? ⟨wo.heap.size, 0, none⟩ = false := hpx.frozen 0
          have hp4 : wr.frozen? ⟨wo.heap.size, 1, none⟩ = false := hpx.frozen 1
          have hlq := (forall_gp.1 hlb) q (by rw [Hl.out]; exact hqm)
          have n2 : (q : Int) < (n : Int) := by omega
          have w1' : IntKind.i64.wrap ((q : Int) - (k : Int)) = (q : Int) - (k : Int) := IntWalk.i64_in _ (by omega)
          have w2' : IntKind.i64.wrap ((k : Int) - (q : Int)) = (k : Int) - (q : Int) := IntWalk.i64_in _ (by omega)
          have hmx : max ((q : Int) - (k : Int)) ((k : Int) - (q : Int)) = ((dist q k : Nat) : Int) := by unfold dist; omega
          have hst := readPt_succ t l k q
          by_cases hdt : dist q k < r
          · rw [stepPt, if_pos (by rw [Ht.out]; exact hdt)] at hst
            have ST := Lib.hid hst
            clear hst
            generalize dist q k = D at *
            obtain ⟨b3, o3, rfl, hb3, hc3⟩ := Go.Dw.ints_at (ht.below' hb2) hdt
            have htj := (forall_gi.1 htb) D (by rw [Ht.out]; exact hdt)
            have n3 : (D : Int) < (r : Int) := by omega
            have n4 : (0 : Int) ≤ (D : Int) := by omega
            have w3' : IntKind.i64.wrap ((gp l q).2 + gi t D) = (gp l q).2 + gi t D := IntWalk.i64_in _ (by omega)
            have w4' : IntKind.i64.wrap ((gp l q).1 - gi t D) = (gp l q).1 - gi t D := IntWalk.i64_in _ (by omega)
            go_upto_region 11 with fail
            go_still_tail 15, (by kernel_rfl)
            go_upto_region 12 with fail
            have hpx2 : Box (wr.setCell ⟨wo.heap.size, 1, none⟩ (.int .i64 (min (readPt t l k q).2 ((gp l q).2 + gi t D)))).drew wo.heap.size 29 #[.int .i64 (readPt t l k q).1, .int .i64 (min (readPt t l k q).2 ((gp l q).2 + gi t D))] := (hpx.set 1 _).drew
            have hbq2 : Below wo.heap.size wo (wr.setCell ⟨wo.heap.size, 1, none⟩ (.int .i64 (min (readPt t l k q).2 ((gp l q).2 + gi t D)))).drew := (hbq.setCell (by simp) _).drew
            clear hsl hp1 hp2 hp3 hp4 hd1 hd2 hc3 hbx2
            generalize (wr.setCell ⟨wo.heap.size, 1, none⟩ (.int .i64 (min (readPt t l k q).2 ((gp l q).2 + gi t D)))).drew = wy at *
            have hb2' := hbl.trans (hbq2.mono hbl.size)
            have hbx2 := bxr.below' hbq2
            obtain ⟨b', o', hA, hb', hd1, hd2⟩ := pts_at (hl.below' hb2') hqm
            injection hA with hA; injection hA with hA1 hA2; subst hA1 hA2
            obtain ⟨b', o', hA, hb3', hc3⟩ := Go.Dw.ints_at (ht.below' hb2') hdt
            injection hA with hA; injection hA with hA1 hA2; subst hA1 hA2
            have hsl : wy.cell? ⟨w.heap.size, 0, none⟩ = some (.slice _ r c) := hbx2.cell 0
            have hp1 : wy.cell? ⟨wo.heap.size, 0, none⟩ = some (.int .i64 (readPt t l k q).1) := hpx2.cell 0
            have hp3 : wy.frozen? ⟨wo.heap.size, 0, none⟩ = false := hpx2.frozen 0
            go_still_tail 15, (by kernel_rfl)
            go_wp2
            go_roundw
            case rel => exact ⟨q + 1, by omega, by go_num, by rw [ST.out]; exact (hpx2.set 0 _).drew, (hbq2.setCell (by simp) _).drew⟩
            case measure => simp [intOf]; omega
          · rw [stepPt, if_neg (by rw [Ht.out]; exact hdt)] at hst
            have ST := Lib.hid hst
            clear hst
            generalize dist q k = D at *
            have n3 : decide ((D : Int) < (r : Int)) = false := by simp; omega
            go_wp2
            go_roundw
            case rel => exact ⟨q + 1, by omega, by go_num, by rw [ST.out]; exact hpx, hbq⟩
            case measure => simp [intOf]; omega
        · obtain rfl : q = n := by omega
          have hp1 : wr.cell? ⟨wo.heap.size, 0, none⟩ = some (.int .i64 (readPt t l k q).1) := hpx.cell 0
          have hp2 : wr.cell? ⟨wo.heap.size, 1, none⟩ = some (.int .i64 (readPt t l k q).2) := hpx.cell 1
          have hown1 := own_below' hown hbq
          have E := Lib.hid (readPts_succ t l k)
          go_wp2_with (at_builtin; refine wpList_push hel rfl _ _ rfl rfl (hown1.alloc _) rfl (Box.new wr 29 _) rfl (by intro u hu; simp at hu; rcases hu with rfl | rfl <;> rfl) (by omega) (by decide) (by have := hb2.size; simp; omega) ?_; intro v' w2 hown2 hg2)
          go_roundw
          case rel =>
            refine ⟨k + 1, by omega, by go_num, ?_, ((bxr.below' hbq).alloc _).grown hg2 (fun e => own_ne hown1 (bxr.below' hbq) (by decide) _ e.symm rfl), ?_⟩
            · rw [E.out, List.flatMap_append, Hl.out]; exact hown2
            · exact (hb2.alloc hb2.size _).grown hg2 (by have := hb2.size; simp; omega) (fun g e => by have := hown1.lt g e; omega)
          case measure => simp [intOf]; omega
    · obtain rfl : k = n := by omega
      go_wp2
      go_ret
      exact ⟨_, rfl, hown, hbl⟩
end Go.Proofs.Ytlfaaddoemcokaa
