/-
  What a tip reads and sweeps (walls, read, Read, Sweep), and which tips and grooves are valid. Conditions: none of Read and Sweep but the sizes of their arguments.
-/
import Derived.Test.YtlfaaddoemcokaaPlayC
import Derived.Deep.RegionLaw
namespace Go.Proofs.Ytlfaaddoemcokaa
open Go.RowKit Go.Dw Go.Shelf

theorem el_pt : ∃ i, ElemT Try.prog 25 29 i (.agg #[.int .i64 0, .int .i64 0]) 2 16 := elemT Try.underlying25 (by kernel_rfl) rfl (by decide)

theorem Thr.later {tf : Nat} {lb : Array Value} {thr : List Int → List Int} {n : Nat} {h : List Int} {w w' : World} (ht : Thr tf lb thr n h w) (hb : Below w.heap.size w w') : Thr tf lb thr n h w' :=
  fun A c W hW hi => ht A c W (hb.trans (hW.mono hb.size)) hi

/-- The points with these inner and outer edges. -/
def wallsP (n : Nat) (li lo : List Int) : List Pt := (List.range n).map fun i => (gi li i, gi lo i)
theorem wallsP_succ (n : Nat) (li lo : List Int) : wallsP (n + 1) li lo = wallsP n li lo ++ [(gi li n, gi lo n)] := by simp [wallsP, List.range_succ]
def wallsT (thr : List Int → List Int) (l : List Pt) : List Pt :=
  wallsP l.length ((thr (l.map (ofE true))).map (backE true)) ((thr (l.map (ofE false))).map (backE false))

set_option maxRecDepth 100000 in
set_option maxHeartbeats 2000000 in
theorem walls_calls (A : Option Addr) (n c : Nat) (l : List Pt) (tf : Nat) (lb : Array Value) (thr : List Int → List Int) (w : World)
    (hl : PtsAt w A n l) (hn : n ≤ 4096) (hlb : ∀ p ∈ l, -4194304 ≤ p.1 ∧ p.1 ≤ 4194304 ∧ -4194304 ≤ p.2 ∧ p.2 ≤ 4194304)
    (eg : ∀ args w, (callFunc tf args).run Try.prog w = .ok (.enter tf args) w) (ht : ∀ inn, Thr tf lb thr n (l.map (ofE inn)) w)
    (hth : ∀ inn, (thr (l.map (ofE inn))).length = n) (htb : ∀ inn, ∀ x ∈ thr (l.map (ofE inn)), -1099511627776 ≤ x ∧ x ≤ 1099511627776) :
    Calls Try.prog 64 #[.slice A n c, .func (.func tf) #[] lb] w fun e w' => ∃ v, e = .returned v ∧ w'.ownsRow w.heap.size 29 2 v n ((wallsT thr l).flatMap encP) ∧ Below w.heap.size w w' := by
  obtain ⟨i0, hel⟩ := el_pt
  have b1 := (Box.new w 25 #[.slice A n c]).alloc (.cells #[.func (.func tf) #[] lb] 103)
  have b2 := Box.new (w.alloc (.cells #[.slice A n c] 25)) 103 #[.func (.func tf) #[] lb]
  have hb := (below_new w (.cells #[.slice A n c] 25)).alloc (by simp) (.cells #[.func (.func tf) #[] lb] 103)
  have hs : ((w.alloc (.cells #[.slice A n c] 25)).alloc (.cells #[.func (.func tf) #[] lb] 103)).heap.size = w.heap.size + 1 + 1 := by simp
  simp only [World.size_alloc] at b2
  have Heg := Lib.hid eg
  clear eg
  go_enter Try.func64, Try.ntmps64
  go_wp2_with fail
  generalize (w.alloc (.cells #[.slice A n c] 25)).alloc (.cells #[.func (.func tf) #[] lb] 103) = w0 at *
  refine (both_calls false _ (.inr ⟨rfl, rfl⟩) _ _ A n c l tf lb thr w0 (hl.below' hb) hn hlb b1 b2 Heg.out ((ht false).later hb) (hth false) (htb false)).mono ?_
  rintro e w1 ⟨go, hgo, rfl, hbo, hb1⟩
  have b1' := b1.below' hb1
  have b2' := b2.below' hb1
  have hb' : Below w.heap.size w w1 := hb.trans (hb1.mono (by omega))
  go_wp2_with fail
  refine (both_calls true _ (.inl ⟨rfl, rfl⟩) _ _ A n c l tf lb thr w1 (hl.below' hb') hn hlb b1' b2' Heg.out ((ht true).later hb') (hth true) (htb true)).mono ?_
  rintro e w2 ⟨gn, hgn, rfl, hbn, hb2⟩
  have hbo2 := hbo.below' hb2
  have hb'' : Below w.heap.size w w2 := hb'.trans (hb2.mono hb'.size)
  generalize hLo : (thr (l.map (ofE false))).map (backE false) = Lo at *
  generalize hLi : (thr (l.map (ofE true))).map (backE true) = Li at *
  have HLo := Lib.hid hLo
  have HLi := Lib.hid hLi
  have hlo : Lo.length = n := by rw [← hLo]; simp [hth]
  have hli : Li.length = n := by rw [← hLi]; simp [hth]
  have Hlo := Lib.hid hlo
  have Hli := Lib.hid hli
  have Hht := Lib.hid ht
  have Hhth := Lib.hid hth
  have b1'' : w2.cell? ⟨w.heap.size, 0, none⟩ = some (.slice A n c) := (b1'.below' hb2).cell 0
  clear hLo hLi hlo hli ht hth
  go_wp2
  have hg1 : w.heap.size ≤ go := by omega
  have hg2 : w.heap.size ≤ gn := by have := hb1.size; omega
  go_loopw [8, 21] (fun v kv wr => ∃ k : Nat, k ≤ n ∧ kv = .int .i64 k ∧ wr.ownsRow w.heap.size 29 2 v k ((wallsP k Li Lo).flatMap encP) ∧ Box wr go 2 (intCells Lo) ∧ Box wr gn 2 (intCells Li) ∧ Below w.heap.size w wr) (fun v kv wr => n - (intOf kv).toNat)
  case atStart => exact ⟨0, Nat.zero_le _, rfl, World.ownsRow_nil _ _ _ _, hbo2, hbn, hb''⟩
  case round =>
    obtain ⟨k, hk, rfl, hown, hbo, hbn, hbl⟩ := hrel
    by_cases hlt : k < n
    · have f1 : wr.cell? ⟨go, k, none⟩ = some (.int .i64 (gi Lo k)) := (hbo.cell k).trans (intCells_get _ _ (by rw [Hlo.out]; exact hlt))
      have f2 : wr.cell? ⟨gn, k, none⟩ = some (.int .i64 (gi Li k)) := (hbn.cell k).trans (intCells_get _ _ (by rw [Hli.out]; exact hlt))
      go_wp2
      have hown1 : wr.drew.ownsRow w.heap.size 29 2 u8 k ((wallsP k Li Lo).flatMap encP) := hown
      have hbo1 : Box wr.drew go 2 (intCells Lo) := hbo
      have hbn1 : Box wr.drew gn 2 (intCells Li) := hbn
      have hbl1 : Below w.heap.size w wr.drew := hbl.drew
      go_region_law (refine step_push hel rfl _ _ rfl rfl (hown1.alloc _) rfl (Box.new wr.drew 29 _) rfl (by intro u hu; simp at hu; rcases hu with rfl | rfl <;> rfl) (by omega) (by decide) (Nat.le_trans hbl1.size (by simp)) ?_; intro v' w2 hown2 hg2)
      all_goals
       go_wp2
       go_roundw
       case rel =>
         refine ⟨k + 1, by omega, by go_num, ?_, ?_, ?_, ?_⟩
         · rw [wallsP_succ, List.flatMap_append]; exact hown2
         · exact (hbo1.alloc _).grown hg2 (fun e => own_ne hown1 hbo1 (by decide) _ e.symm rfl)
         · exact (hbn1.alloc _).grown hg2 (fun e => own_ne hown1 hbn1 (by decide) _ e.symm rfl)
         · exact (hbl1.alloc hbl1.size _).grown hg2 (Nat.le_trans hbl1.size (by simp)) (fun g e => by have := hown1.lt g e; omega)
       case measure => simp [intOf]; omega
    · obtain rfl : k = n := by omega
      go_wp2
      go_ret
      refine ⟨_, rfl, ?_, hbl⟩
      have e : wallsT thr l = wallsP k Li Lo := by rw [wallsT, HLo.out, HLi.out, hl.1]
      rw [e]; exact hown
end Go.Proofs.Ytlfaaddoemcokaa
