/-
  Both walls of a groove go through a function (walls), and what a tip reads and sweeps (read, Read, Sweep). Conditions: at most 4096 points with edges of at most 4194304, a valid tip.
-/
import Derived.Test.YtlfaaddoemcokaaPlayB
import Derived.Deep.DeepMust
namespace Go.Proofs.Ytlfaaddoemcokaa
open Go.RowKit Go.Dw Go.Shelf

def ofE (inn : Bool) (p : Pt) : Int := if inn then - p.1 else p.2
def backE (inn : Bool) (n : Int) : Int := if inn then - n else n
theorem outer_of (a b : Int) (w : World) : Calls Try.prog 126 #[.agg #[], .agg #[.int .i64 a, .int .i64 b]] w fun e w' => e = .returned (.int .i64 (ofE false (a, b))) ∧ Below w.heap.size w w' := by
  go_enter Try.func126, Try.ntmps126
  go_wp2
  go_ret
  exact ⟨rfl, (below_new _ _).alloc (by simp) _⟩
theorem outer_back (n : Int) (w : World) : Calls Try.prog 125 #[.agg #[], .int .i64 n] w fun e w' => e = .returned (.int .i64 (backE false n)) ∧ Below w.heap.size w w' := by
  go_enter Try.func125, Try.ntmps125
  go_wp2
  go_ret
  exact ⟨rfl, below_new _ _⟩
theorem inner_of (a b : Int) (w : World) (h : -1099511627776 ≤ a ∧ a ≤ 1099511627776) : Calls Try.prog 128 #[.agg #[], .agg #[.int .i64 a, .int .i64 b]] w fun e w' => e = .returned (.int .i64 (ofE true (a, b))) ∧ Below w.heap.size w w' := by
  go_enter Try.func128, Try.ntmps128
  go_wp2
  go_ret
  exact ⟨rfl, (below_new _ _).alloc (by simp) _⟩
theorem inner_back (n : Int) (w : World) (h : -1099511627776 ≤ n ∧ n ≤ 1099511627776) : Calls Try.prog 127 #[.agg #[], .int .i64 n] w fun e w' => e = .returned (.int .i64 (backE true n)) ∧ Below w.heap.size w w' := by
  go_enter Try.func127, Try.ntmps127
  go_wp2
  go_ret
  exact ⟨rfl, below_new _ _⟩

theorem meth_of_outer (w : World) : (method 261 128 (.agg #[]) "deadwax/play.of").run Try.prog w = .ok (126, .agg #[]) w := by kernel_rfl
theorem meth_back_outer (w : World) : (method 261 128 (.agg #[]) "deadwax/play.back").run Try.prog w = .ok (125, .agg #[]) w := by kernel_rfl
theorem meth_of_inner (w : World) : (method 261 129 (.agg #[]) "deadwax/play.of").run Try.prog w = .ok (128, .agg #[]) w := by kernel_rfl
theorem meth_back_inner (w : World) : (method 261 129 (.agg #[]) "deadwax/play.back").run Try.prog w = .ok (127, .agg #[]) w := by kernel_rfl

/-- What the function that the heights go through is asked for. -/
def Thr (tf : Nat) (lb : Array Value) (thr : List Int → List Int) (n : Nat) (h : List Int) (w : World) : Prop :=
  ∀ (A : Option Addr) (c : Nat) (W : World), Below w.heap.size w W → IntsAt W A n h →
    Calls Try.prog tf (#[.slice A n c] ++ lb) W fun e W' => ∃ g, W.heap.size ≤ g ∧ e = .returned (.slice (some ⟨g, 0, none⟩) n n) ∧ Box W' g 2 (intCells (thr h)) ∧ Below W.heap.size W W'

def backTo (inn : Bool) (l : List Int) (k : Nat) : List Int := (List.range l.length).map fun i => if i < k then backE inn (gi l i) else gi l i
theorem backTo_zero (inn : Bool) (l : List Int) : backTo inn l 0 = l := by
  apply List.ext_getElem
  · simp [backTo]
  · intro i h1 h2; simp [backTo, gi_eq h2]
theorem backTo_all (inn : Bool) (l : List Int) : backTo inn l l.length = l.map (backE inn) := by
  apply List.ext_getElem
  · simp [backTo]
  · intro i h1 h2
    simp at h2
    simp [backTo, gi_eq h2, h2]
theorem backTo_length (inn : Bool) (l : List Int) (k : Nat) : (backTo inn l k).length = l.length := by simp [backTo]
theorem backTo_at (inn : Bool) (l : List Int) (k : Nat) (h : k < l.length) : gi (backTo inn l k) k = gi l k := by
  rw [gi_eq (by rw [backTo_length]; exact h)]; simp [backTo]
theorem backTo_set (inn : Bool) (l : List Int) (k : Nat) : (backTo inn l k).set k (backE inn (gi l k)) = backTo inn l (k + 1) := by
  apply List.ext_getElem
  · simp [backTo]
  · intro i h1 h2
    simp [backTo] at h1 h2 ⊢
    rw [List.getElem_set]
    by_cases e : k = i
    · subst e; simp
    · simp [e]
      by_cases h3 : i < k
      · simp [h3]; intro h4; omega
      · simp [h3]; intro h4; omega

set_option maxRecDepth 100000 in
set_option maxHeartbeats 2000000 in
theorem both_calls (inn : Bool) (it : Nat) (hit : it = 129 ∧ inn = true ∨ it = 128 ∧ inn = false) (a b : Nat) (A : Option Addr) (n c : Nat) (l : List Pt) (tf : Nat) (lb : Array Value) (thr : List Int → List Int) (w : World)
    (hl : PtsAt w A n l) (hn : n ≤ 4096) (hlb : ∀ p ∈ l, -4194304 ≤ p.1 ∧ p.1 ≤ 4194304 ∧ -4194304 ≤ p.2 ∧ p.2 ≤ 4194304) (ba : Box w a 25 #[.slice A n c]) (bb : Box w b 103 #[.func (.func tf) #[] lb])
    (eg : ∀ args w, (callFunc tf args).run Try.prog w = .ok (.enter tf args) w) (ht : Thr tf lb thr n (l.map (ofE inn)) w)
    (hth : (thr (l.map (ofE inn))).length = n) (htb : ∀ x ∈ thr (l.map (ofE inn)), -1099511627776 ≤ x ∧ x ≤ 1099511627776) :
    Calls Try.prog 92 #[.iface it (.agg #[]), .pointer (some ⟨a, 0, none⟩), .pointer (some ⟨b, 0, none⟩)] w fun e w' => ∃ g, w.heap.size ≤ g ∧ e = .returned (.slice (some ⟨g, 0, none⟩) n n) ∧
      Box w' g 2 (intCells ((thr (l.map (ofE inn))).map (backE inn))) ∧ Below w.heap.size w w' := by
  obtain ⟨i0, hel⟩ := el_i64
  have la := ba.lt
  have lb' := bb.lt
  have c1 : w.cell? ⟨a, 0, none⟩ = some (.slice A n c) := ba.cell 0
  have hl1 := hl.1
  have Hl1 := Lib.hid hl1
  clear hl1
  go_enter Try.func92, Try.ntmps92
  go_wp2
  have Hit := Lib.hid hit
  clear hit
  rcases Hit.out with ⟨rfl, rfl⟩ | ⟨rfl, rfl⟩
  · go_region
    go_wp2
    have hd0 : Below w.heap.size w w.drew := (Below.refl _ _).drew
    generalize w.drew = w0 at *
    go_loopw [7, 19] (fun v kv wr => ∃ k : Nat, k ≤ n ∧ kv = .int .i64 k ∧ wr.ownsRow w.heap.size 2 1 v k (((l.map (ofE true)).take k).flatMap encI) ∧ Below w.heap.size w wr) (fun v kv wr => n - (intOf kv).toNat)
    case atStart => exact ⟨0, Nat.zero_le _, rfl, World.ownsRow_nil _ _ _ _, hd0⟩
    case round =>
      obtain ⟨k, hk, rfl, hown, hbl⟩ := hrel
      by_cases hlt : k < n
      · obtain ⟨bP, oP, rfl, hbP, hc1, hc2⟩ := pts_at (hl.below' hbl) hlt
        have hpb := (forall_gp.1 hlb) k (by rw [Hl1.out]; exact hlt)
        have hx1 : Box (wr.alloc (.cells #[.int .i64 (gp l k).1, .int .i64 (gp l k).2] 29)) wr.heap.size 29 #[.int .i64 (gp l k).1, .int .i64 (gp l k).2] := Box.new _ _ _
        have hx2 := below_new wr (.cells #[.int .i64 (gp l k).1, .int .i64 (gp l k).2] 29)
        have m1 := fun w => meth_of_inner w
        go_wp2_with (first
          | (go_at_call 128; refine (inner_of _ _ _ (by omega)).mono ?_; rintro e w1 ⟨rfl, hw1⟩; have hown1 := own_below' (own_below' hown hx2) hw1; have hbl1 := (hbl.trans (hx2.mono hbl.size)).trans (hw1.mono (by have := hbl.size; simp; omega)))
          | (at_builtin; go_loud (refine wpList_push hel rfl _ _ rfl rfl (hown1.alloc _) rfl (Box.new w1 2 _) rfl (by intro u hu; simp at hu; subst hu; rfl) (by omega) (by decide) (by have := hbl1.size; simp; omega) ?_); intro v' w2 hown2 hg2))
        go_roundw
        case rel =>
          refine ⟨k + 1, by omega, by go_num, ?_, ?_⟩
          · have e : (l.map (ofE true)).take (k + 1) = (l.map (ofE true)).take k ++ [ofE true (gp l k)] := by
              rw [List.take_succ_eq_append_getElem (by simp [Hl1.out, hlt])]; simp [gp_eq (l := l) (k := k) (by rw [Hl1.out]; exact hlt)]
            rw [e, List.flatMap_append]
            simpa [encI] using hown2
          · exact (hbl1.alloc hbl1.size _).grown hg2 (by have := hbl1.size; simp; omega) (fun g e => by have := hown1.lt g e; omega)
        case measure => simp [intOf]; omega
      · obtain rfl : k = n := by omega
        obtain ⟨A', c', rfl⟩ := own_form hown
        rw [List.take_of_length_le (by simp [Hl1.out])] at hown
        have hin : IntsAt wr A' k (l.map (ofE true)) := SlAt.of_own encI_len Nat.one_pos hown
        have d2 : wr.cell? ⟨b, 0, none⟩ = some (.func (.func tf) #[] lb) := (bb.below' hbl).cell 0
        go_wp2_with fail
        refine (ht A' c' wr hbl hin).mono ?_
        rintro e w1 ⟨g, hg, rfl, hbg, hb1⟩
        have hb2 : Below w.heap.size w w1 := hbl.trans (hb1.mono hbl.size)
        generalize hL : thr (l.map (ofE true)) = L at *
        have HL := Lib.hid hL
        have Hth := Lib.hid hth
        clear hL hth ht
        go_wp2
        go_loopw [35] (fun kv wr2 => ∃ q : Nat, q ≤ k ∧ kv = .int .i64 q ∧ Box wr2 g 2 (intCells (backTo true L q)) ∧ Below w.heap.size w wr2) (fun kv wr2 => k - (intOf kv).toNat)
        case atStart => exact ⟨0, Nat.zero_le _, rfl, by rw [backTo_zero]; exact hbg, hb2⟩
        case round =>
          obtain ⟨q, hq, rfl, hbq, hbw⟩ := hrel
          by_cases hqk : q < k
          · have f1 : wr.cell? ⟨g, q, none⟩ = some (.int .i64 (gi L q)) := by
              rw [hbq.cell, intCells_get _ _ (by rw [backTo_length, Hth.out]; exact hqk), backTo_at _ _ _ (by rw [Hth.out]; exact hqk)]
            have hqb := (forall_gi.1 htb) q (by rw [Hth.out]; exact hqk)
            have m2 := fun w => meth_back_inner w
            have hbq2 : ∀ w', Below wr.heap.size wr w' → w'.cell? ⟨g, q, none⟩ = some (.int .i64 (gi L q)) ∧ w'.frozen? ⟨g, q, none⟩ = false := fun w' hb => ⟨(hb.cell (p := ⟨g, q, none⟩) hbq.lt).trans f1, (hbq.below' hb).frozen q⟩
            go_wp2_with (go_at_call 127; refine (inner_back _ _ (by omega)).mono ?_; rintro e w2 ⟨rfl, hw2⟩; obtain ⟨f2, f3⟩ := hbq2 w2 hw2)
            go_roundw
            case rel =>
              refine ⟨q + 1, by omega, by go_num, ?_, ?_⟩
              · have hs := (hbq.below' hw2).set q (.int .i64 (backE true (gi L q)))
                rw [intCells_set, backTo_set] at hs
                exact hs
              · exact (hbw.trans (hw2.mono hbw.size)).setCell (p := ⟨g, q, none⟩) (by have := hbl.size; simp; omega) _
            case measure => simp [intOf]; omega
          · obtain rfl : q = k := by omega
            go_wp2
            go_ret
            refine ⟨g, by have := hbl.size; omega, rfl, ?_, hbw⟩
            have := Hth.out
            rw [← this, backTo_all] at hbq
            rw [HL.out]
            exact hbq
  · go_region
    go_wp2
    have hd0 : Below w.heap.size w w.drew := (Below.refl _ _).drew
    generalize w.drew = w0 at *
    go_loopw [7, 19] (fun v kv wr => ∃ k : Nat, k ≤ n ∧ kv = .int .i64 k ∧ wr.ownsRow w.heap.size 2 1 v k (((l.map (ofE false)).take k).flatMap encI) ∧ Below w.heap.size w wr) (fun v kv wr => n - (intOf kv).toNat)
    case atStart => exact ⟨0, Nat.zero_le _, rfl, World.ownsRow_nil _ _ _ _, hd0⟩
    case round =>
      obtain ⟨k, hk, rfl, hown, hbl⟩ := hrel
      by_cases hlt : k < n
      · obtain ⟨bP, oP, rfl, hbP, hc1, hc2⟩ := pts_at (hl.below' hbl) hlt
        have hpb := (forall_gp.1 hlb) k (by rw [Hl1.out]; exact hlt)
        have hx1 : Box (wr.alloc (.cells #[.int .i64 (gp l k).1, .int .i64 (gp l k).2] 29)) wr.heap.size 29 #[.int .i64 (gp l k).1, .int .i64 (gp l k).2] := Box.new _ _ _
        have hx2 := below_new wr (.cells #[.int .i64 (gp l k).1, .int .i64 (gp l k).2] 29)
        have m1 := fun w => meth_of_outer w
        go_wp2_with (first
          | (go_at_call 126; refine (outer_of _ _ _).mono ?_; rintro e w1 ⟨rfl, hw1⟩; have hown1 := own_below' (own_below' hown hx2) hw1; have hbl1 := (hbl.trans (hx2.mono hbl.size)).trans (hw1.mono (by have := hbl.size; simp; omega)))
          | (at_builtin; go_loud (refine wpList_push hel rfl _ _ rfl rfl (hown1.alloc _) rfl (Box.new w1 2 _) rfl (by intro u hu; simp at hu; subst hu; rfl) (by omega) (by decide) (by have := hbl1.size; simp; omega) ?_); intro v' w2 hown2 hg2))
        go_roundw
        case rel =>
          refine ⟨k + 1, by omega, by go_num, ?_, ?_⟩
          · have e : (l.map (ofE false)).take (k + 1) = (l.map (ofE false)).take k ++ [ofE false (gp l k)] := by
              rw [List.take_succ_eq_append_getElem (by simp [Hl1.out, hlt])]; simp [gp_eq (l := l) (k := k) (by rw [Hl1.out]; exact hlt)]
            rw [e, List.flatMap_append]
            simpa [encI] using hown2
          · exact (hbl1.alloc hbl1.size _).grown hg2 (by have := hbl1.size; simp; omega) (fun g e => by have := hown1.lt g e; omega)
        case measure => simp [intOf]; omega
      · obtain rfl : k = n := by omega
        obtain ⟨A', c', rfl⟩ := own_form hown
        rw [List.take_of_length_le (by simp [Hl1.out])] at hown
        have hin : IntsAt wr A' k (l.map (ofE false)) := SlAt.of_own encI_len Nat.one_pos hown
        have d2 : wr.cell? ⟨b, 0, none⟩ = some (.func (.func tf) #[] lb) := (bb.below' hbl).cell 0
        go_wp2_with fail
        refine (ht A' c' wr hbl hin).mono ?_
        rintro e w1 ⟨g, hg, rfl, hbg, hb1⟩
        have hb2 : Below w.heap.size w w1 := hbl.trans (hb1.mono hbl.size)
        generalize hL : thr (l.map (ofE false)) = L at *
        have HL := Lib.hid hL
        have Hth := Lib.hid hth
        clear hL hth ht
        go_wp2
        go_loopw [35] (fun kv wr2 => ∃ q : Nat, q ≤ k ∧ kv = .int .i64 q ∧ Box wr2 g 2 (intCells (backTo false L q)) ∧ Below w.heap.size w wr2) (fun kv wr2 => k - (intOf kv).toNat)
        case atStart => exact ⟨0, Nat.zero_le _, rfl, by rw [backTo_zero]; exact hbg, hb2⟩
        case round =>
          obtain ⟨q, hq, rfl, hbq, hbw⟩ := hrel
          by_cases hqk : q < k
          · have f1 : wr.cell? ⟨g, q, none⟩ = some (.int .i64 (gi L q)) := by
              rw [hbq.cell, intCells_get _ _ (by rw [backTo_length, Hth.out]; exact hqk), backTo_at _ _ _ (by rw [Hth.out]; exact hqk)]
            have hqb := (forall_gi.1 htb) q (by rw [Hth.out]; exact hqk)
            have m2 := fun w => meth_back_outer w
            have hbq2 : ∀ w', Below wr.heap.size wr w' → w'.cell? ⟨g, q, none⟩ = some (.int .i64 (gi L q)) ∧ w'.frozen? ⟨g, q, none⟩ = false := fun w' hb => ⟨(hb.cell (p := ⟨g, q, none⟩) hbq.lt).trans f1, (hbq.below' hb).frozen q⟩
            go_wp2_with (go_at_call 125; refine (outer_back _ _).mono ?_; rintro e w2 ⟨rfl, hw2⟩; obtain ⟨f2, f3⟩ := hbq2 w2 hw2)
            go_roundw
            case rel =>
              refine ⟨q + 1, by omega, by go_num, ?_, ?_⟩
              · have hs := (hbq.below' hw2).set q (.int .i64 (backE false (gi L q)))
                rw [intCells_set, backTo_set] at hs
                exact hs
              · exact (hbw.trans (hw2.mono hbw.size)).setCell (p := ⟨g, q, none⟩) (by have := hbl.size; simp; omega) _
            case measure => simp [intOf]; omega
          · obtain rfl : q = k := by omega
            go_wp2
            go_ret
            refine ⟨g, by have := hbl.size; omega, rfl, ?_, hbw⟩
            have := Hth.out
            rw [← this, backTo_all] at hbq
            rw [HL.out]
            exact hbq
end Go.Proofs.Ytlfaaddoemcokaa
