/-
  Several texts in one: The small examples of sleeve, run by the machine. No condition. .. Folded nets: the walks of the program's copy. No condition but the length of a list that is in memory.
-/
import Derived.WalkLawsBesides
import Derived.Test.YtfckkkmacjjmhaaDoorX02
import Derived.Test.YtfckkkmacjjmhaaDoorMC
import Derived.Test.YtfckkkmacjjmhaaDoorX03
namespace Go.Proofs.YtfckkkmacjjmhaaDoor
open Go.Ab Go.RowKit Go.Dw Go.Shelf
def esMu : List Nat := [70, 68, 86, 71]
def esM : ML := [(70, [75, 78])]
def esLit (sz n : Nat) (cs : List V) : V := .sl sz n fun i => (cs.drop (i * sz)).take sz
def esR1 (l : List Int) : V := esLit 1 l.length (l.map V.i)
def esQ1 (l : List Int) : V := .sl 1 l.length (rowOf (l.map fun x => [.i x]))
theorem esIdf (l : List (List V)) (h : l.all V.idfL = true) (i : Nat) : V.idfL (rowOf l i) = true := rowOf_idf h i
set_option maxRecDepth 100000 in
theorem es_c1 : AC Tryd.prog 39 [esR1 [1000, 300], .i 8, .i 50, esR1 [0, 0]] (.tup [.i 217, .i 0]) [] := AM.ac (cAM' hTT hMX esM esMu kR kR) (by decide)
set_option maxRecDepth 100000 in
theorem es_c2 : AC Tryd.prog 39 [esR1 [1000, 300], .i 8, .i 50, esR1 [0, 1]] (.tup [.i 263, .i 0]) [] := AM.ac (cAM' hTT hMX esM esMu kR kR) (by decide)
set_option maxRecDepth 100000 in
theorem es_g0 : AM Tryd.prog 41 [esR1 [1000, 300], .i 8, .i 50] [] (.tup [.own 0, .i 217, .i 0]) [] [.row 3 1 2 (rowOf [[.i 0], [.i 0]])] := cAM' hTT hMX esM esMu kR kR
theorem es_g : AC Tryd.prog 41 [esR1 [1000, 300], .i 8, .i 50] (.tup [esQ1 [0, 0], .i 217, .i 0]) [] := AC.shut1 (es_g0.ac (by decide)) rfl (fun _ _ => rfl) (esIdf _ rfl) rfl rfl
set_option maxRecDepth 100000 in
theorem es_r0 : AM Tryd.prog 21 [esR1 [1000, 300], .i 8] [] (.tup [.i 167, .own 0, .i 0]) [] [.row 2 1 2 (rowOf [[.i 6], [.i 2]])] := cAM' hTT hMX esM esMu kR kR
theorem es_r : AC Tryd.prog 21 [esR1 [1000, 300], .i 8] (.tup [.i 167, esQ1 [6, 2], .i 0]) [] := AC.shut1 (es_r0.ac (by decide)) rfl (fun _ _ => rfl) (esIdf _ rfl) rfl rfl
set_option maxRecDepth 100000 in
theorem es_lg : AC Tryd.prog 23 [esQ1 [6, 2], esR1 [6, 2]] (.b true) [] := AM.ac (cAM' hTT hMX esM esMu kR kR) (by decide)
set_option maxRecDepth 100000 in
theorem es_in : AC Tryd.prog 43 [esQ1 [0, 0], esR1 [0, 0]] (.b true) [] := AM.ac (cAM' hTT hMX esM esMu kR kR) (by decide)
end Go.Proofs.YtfckkkmacjjmhaaDoor

namespace Go.Proofs.YtfckkkmacjjmhaaDoor
open Go.Ab Go.RowKit Go.Dw Go.Shelf
theorem must_yes (k : Int) (w : World) : Calls Tryd.prog 83 #[.bool true, .int .i64 k] w fun e w' => e = .returned (.tuple #[]) ∧ w' = w := by
  go_enter Tryd.func83, Tryd.ntmps83
  go_wp2
  go_end0
  exact ⟨rfl, rfl⟩
theorem must_no (k : Int) (w : World) : Calls Tryd.prog 83 #[.bool false, .int .i64 k] w fun e w' => e = .panicked [{ v := .iface 123 (.int .i64 k), recovered := false }] ∧ w' = w := by
  go_enter Tryd.func83, Tryd.ntmps83
  go_wp2
  exact ⟨rfl, rfl, rfl⟩
theorem mustOk : MustOk Tryd.prog 83 123 := ⟨(⟨Tryd.func83, rfl, Tryd.ntmps83, kR⟩ : FnOk Tryd.prog 83 Tryd.f83 _ _).call, must_yes, must_no⟩
set_option maxRecDepth 100000 in
theorem flatD_idle (b c : Nat) (w : World) : CallsDIn Fence.wide 0 Tryd.prog 82 #[.pointer (some ⟨b, 0, none⟩), .pointer (some ⟨c, 0, none⟩)] .returning w fun e u' w' => (∃ v, e = .returned v) ∧ u' = .returning ∧ w' = w := by
  refine callsDIn_of_wpSIn Tryd.func82 rfl trivial fun c₀ cs hu => ?_
  apply wpSIn_seq
  apply wpSIn_region
  simp [wpOpsSIn, go_sem, recoverD, hu, Tryd.ntmps82, Exit.thenS, Fence.wide]
  apply wpSIn_seq
  apply wpSIn_region
  simp [wpOpsSIn, go_sem, recoverD, hu, Tryd.ntmps82, Exit.thenS, Fence.wide]
  refine wpSIn_cond (t := false) (by simp [Act.eval, Array.replicate]) ?_
  simp only [Bool.false_eq_true, if_false]
  refine wpSIn_of_wpIn rfl (wpIn_skip ?_)
  cases c₀
  simp_all [bodyPostS, results, Tryd.results82]
set_option maxRecDepth 100000 in
theorem flatD_catch (b c : Nat) (n : Int) (x y : Value) (w : World) (h1 : w.cell? ⟨b, 0, none⟩ = some x) (h2 : w.frozen? ⟨b, 0, none⟩ = false) (h3 : w.cell? ⟨c, 0, none⟩ = some y) (h4 : w.frozen? ⟨c, 0, none⟩ = false) (hbc : b ≠ c) :
    CallsDIn Fence.wide 0 Tryd.prog 82 #[.pointer (some ⟨b, 0, none⟩), .pointer (some ⟨c, 0, none⟩)] (.panicking [{ v := .iface 123 (.int .i64 n), recovered := false }]) w fun e u' w' =>
      (∃ v, e = .returned v) ∧ u' = .panicking [{ v := .iface 123 (.int .i64 n), recovered := true }] ∧ w' = (w.setCell ⟨b, 0, none⟩ (.slice none 0 0)).setCell ⟨c, 0, none⟩ (.int .i64 n) := by
  refine callsDIn_of_wpSIn Tryd.func82 rfl trivial fun c₀ cs hu => ?_
  apply wpSIn_seq
  apply wpSIn_region
  simp [wpOpsSIn, go_sem, recoverD, hu, Tryd.ntmps82, Exit.thenS, Fence.wide]
  apply wpSIn_seq
  apply wpSIn_region
  simp [wpOpsSIn, go_sem, recoverD, hu, Tryd.ntmps82, Exit.thenS, Fence.wide]
  refine wpSIn_cond (t := true) (by simp [Act.eval, Array.replicate]) ?_
  simp only [if_true]
  apply wpSIn_seq
  apply wpSIn_region
  simp [wpOpsSIn, go_sem, recoverD, hu, Tryd.ntmps82, Exit.thenS, Fence.wide]
  apply wpSIn_seq
  apply wpSIn_seq
  apply wpSIn_region
  simp [wpOpsSIn, go_sem, recoverD, hu, Tryd.ntmps82, Exit.thenS, Fence.wide]
  refine wpSIn_cond (t := false) (by simp [Act.eval, Array.replicate]) ?_
  simp only [Bool.false_eq_true, if_false]
  refine wpSIn_of_wpIn rfl (wpIn_skip ?_)
  simp only [Exit.thenS]
  apply wpSIn_region
  simp [wpOpsSIn, go_sem, h1, h2, h3, h4, bodyPostS, results, Tryd.results82, hbc]
end Go.Proofs.YtfckkkmacjjmhaaDoor

namespace Go.Proofs.YtfckkkmacjjmhaaDoor
open Go.Ab Go.RowKit Go.Dw Go.Shelf
set_option maxRecDepth 100000 in
theorem soutside_ac (n lo hi : Int) : AC Tryd.prog 59 [.i n, .i lo, .i hi] (.b (decide (n < lo) || decide (hi < n))) [] := by
  refine ac_intro hTT hMX (fn := Tryd.f59) (N := _) ⟨Tryd.func59, rfl, Tryd.ntmps59, kR⟩ (by simp) fun C hC hF => ?_
  refine aw_seq_k fun K hK => ?_
  refine w_region (n' := 2) kR kR ?_
  refine aops_n hTT (M := []) (n := 1) [pv (6 : Nat) (V.b false)] kR kR tI ?_
  refine aops_nil ?_
  refine xt_n ?_
  refine hK _ ?_
  clear hK K
  refine aw_seq_k fun K hK => ?_
  refine w_region (n' := 3) kR kR ?_
  refine aops_n hTT (M := []) (n := 9) [pv (7 : Nat) (V.i n), pv (8 : Nat) (V.i lo), pv (9 : Nat) (V.b (decide (n < lo))), pv (10 : Nat) (V.b (decide (n < lo))), pc (11 : Nat) ((True ∧ True) ∧ ((decide (n < lo) == false) = true → True)) (V.gd (decide (n < lo) == false) (V.i n)), pc (12 : Nat) ((True ∧ True) ∧ ((decide (n < lo) == false) = true → True)) (V.gd (decide (n < lo) == false) (V.i hi)), pc (13 : Nat) ((((decide (n < lo) == false) = true → (decide (n < lo) == false) = true) ∧ ((decide (n < lo) == false) = true → (decide (n < lo) == false) = true) ∧ True) ∧ ((decide (n < lo) == false) = true → True)) (V.gd (decide (n < lo) == false) (V.b (decide (hi < n)))), pc (14 : Nat) (True ∧ (decide (n < lo) = false → (decide (n < lo) == false) = true)) (V.b (decide (n < lo) || decide (hi < n))), pv (6 : Nat) (V.b (decide (n < lo) || decide (hi < n)))] kR kR ⟨⟨⟨tI, tI⟩, (fun _ => tI)⟩, ⟨⟨tI, tI⟩, (fun _ => tI)⟩, ⟨⟨(by (exact fun h => h)), ⟨(by (exact fun h => h)), tI⟩⟩, (fun _ => tI)⟩, ⟨tI, (by (intro h; rw [h]; rfl))⟩, tI⟩ ?_
  refine aops_nil ?_
  refine xt_n ?_
  refine hK _ ?_
  clear hK K
  refine aw_ret ?_
  refine ret_pure (v' := V.b (decide (n < lo) || decide (hi < n))) (.inr rfl) kR kR kR
set_option maxRecDepth 100000 in
theorem common_ac (a b : Rc) (ha : a.bd 1099511627776) (hb : b.bd 1099511627776) : AC Tryd.prog 65 [.agg a.c, .agg b.c] (.tup [.i (comW a b), .i (comH a b)]) [] := by
  obtain ⟨⟨a1, a2⟩, ⟨a3, a4⟩, ⟨a5, a6⟩, a7, a8⟩ := ha
  obtain ⟨⟨b1, b2⟩, ⟨b3, b4⟩, ⟨b5, b6⟩, b7, b8⟩ := hb
  refine ac_intro hTT hMX (fn := Tryd.f65) (N := _) ⟨Tryd.func65, rfl, Tryd.ntmps65, kR⟩ (by simp) fun C hC hF => ?_
  refine aw_seq_k fun K hK => ?_
  refine w_region (n' := 2) kR kR ?_
  refine aops_n hTT (M := []) (n := 4) [pv (2 : Nat) (V.ptr [V.i (Rc.x0 a), V.i (Rc.y0 a), V.i (Rc.x1 a), V.i (Rc.y1 a), V.b (Rc.down a)]), pv (3 : Nat) (V.ptr [V.i (Rc.x0 b), V.i (Rc.y0 b), V.i (Rc.x1 b), V.i (Rc.y1 b), V.b (Rc.down b)]), pv (4 : Nat) (V.i (0 : Int)), pv (5 : Nat) (V.i (0 : Int))] kR kR tI ?_
  refine aops_nil ?_
  refine xt_n ?_
  refine hK _ ?_
  clear hK K
  refine aw_seq_k fun K hK => ?_
  refine w_regionD (n' := 3) kR kR ?_
  refine aops_n hTT (M := []) (n := 32) [pv (6 : Nat) (V.ptr [V.i (Rc.x0 a), V.i (Rc.y0 a), V.i (Rc.x1 a), V.i (Rc.y1 a), V.b (Rc.down a)]), pv (7 : Nat) (V.ptr [V.i (Rc.x1 a), V.i (Rc.y1 a), V.b (Rc.down a)]), pv (8 : Nat) (V.i (Rc.x1 a)), pv (9 : Nat) (V.ptr [V.i (Rc.x0 b), V.i (Rc.y0 b), V.i (Rc.x1 b), V.i (Rc.y1 b), V.b (Rc.down b)]), pv (10 : Nat) (V.ptr [V.i (Rc.x1 b), V.i (Rc.y1 b), V.b (Rc.down b)]), pv (11 : Nat) (V.i (Rc.x1 b)), pv (12 : Nat) (V.i (min (Rc.x1 a) (Rc.x1 b))), pv (13 : Nat) (V.ptr [V.i (Rc.x0 a), V.i (Rc.y0 a), V.i (Rc.x1 a), V.i (Rc.y1 a), V.b (Rc.down a)]), pv (14 : Nat) (V.ptr [V.i (Rc.x0 a), V.i (Rc.y0 a), V.i (Rc.x1 a), V.i (Rc.y1 a), V.b (Rc.down a)]), pv (15 : Nat) (V.i (Rc.x0 a)), pv (16 : Nat) (V.ptr [V.i (Rc.x0 b), V.i (Rc.y0 b), V.i (Rc.x1 b), V.i (Rc.y1 b), V.b (Rc.down b)]), pv (17 : Nat) (V.ptr [V.i (Rc.x0 b), V.i (Rc.y0 b), V.i (Rc.x1 b), V.i (Rc.y1 b), V.b (Rc.down b)]), pv (18 : Nat) (V.i (Rc.x0 b)), pv (19 : Nat) (V.i (max (Rc.x0 a) (Rc.x0 b))), pc (20 : Nat) ((-9223372036854775808 : Int) ≤ min (Rc.x1 a) (Rc.x1 b) - max (Rc.x0 a) (Rc.x0 b) ∧ min (Rc.x1 a) (Rc.x1 b) - max (Rc.x0 a) (Rc.x0 b) ≤ 9223372036854775807) (V.i (min (Rc.x1 a) (Rc.x1 b) - max (Rc.x0 a) (Rc.x0 b))), pv (21 : Nat) (V.ptr [V.i (Rc.x0 a), V.i (Rc.y0 a), V.i (Rc.x1 a), V.i (Rc.y1 a), V.b (Rc.down a)]), pv (22 : Nat) (V.ptr [V.i (Rc.y1 a), V.b (Rc.down a)]), pv (23 : Nat) (V.i (Rc.y1 a)), pv (24 : Nat) (V.ptr [V.i (Rc.x0 b), V.i (Rc.y0 b), V.i (Rc.x1 b), V.i (Rc.y1 b), V.b (Rc.down b)]), pv (25 : Nat) (V.ptr [V.i (Rc.y1 b), V.b (Rc.down b)]), pv (26 : Nat) (V.i (Rc.y1 b)), pv (27 : Nat) (V.i (min (Rc.y1 a) (Rc.y1 b))), pv (28 : Nat) (V.ptr [V.i (Rc.x0 a), V.i (Rc.y0 a), V.i (Rc.x1 a), V.i (Rc.y1 a), V.b (Rc.down a)]), pv (29 : Nat) (V.ptr [V.i (Rc.y0 a), V.i (Rc.x1 a), V.i (Rc.y1 a), V.b (Rc.down a)]), pv (30 : Nat) (V.i (Rc.y0 a)), pv (31 : Nat) (V.ptr [V.i (Rc.x0 b), V.i (Rc.y0 b), V.i (Rc.x1 b), V.i (Rc.y1 b), V.b (Rc.down b)]), pv (32 : Nat) (V.ptr [V.i (Rc.y0 b), V.i (Rc.x1 b), V.i (Rc.y1 b), V.b (Rc.down b)]), pv (33 : Nat) (V.i (Rc.y0 b)), pv (34 : Nat) (V.i (max (Rc.y0 a) (Rc.y0 b))), pc (35 : Nat) ((-9223372036854775808 : Int) ≤ min (Rc.y1 a) (Rc.y1 b) - max (Rc.y0 a) (Rc.y0 b) ∧ min (Rc.y1 a) (Rc.y1 b) - max (Rc.y0 a) (Rc.y0 b) ≤ 9223372036854775807) (V.i (min (Rc.y1 a) (Rc.y1 b) - max (Rc.y0 a) (Rc.y0 b))), pv (4 : Nat) (V.i (min (Rc.x1 a) (Rc.x1 b) - max (Rc.x0 a) (Rc.x0 b))), pv (5 : Nat) (V.i (min (Rc.y1 a) (Rc.y1 b) - max (Rc.y0 a) (Rc.y0 b)))] kR kR ⟨oM, oM, tI⟩ ?_
  refine aops_nil ⟨kR, ?_⟩
  refine xt_n ?_
  refine hK _ ?_
  clear hK K
  refine aw_ret ?_
  refine ret_pure (v' := V.tup [V.i (min (Rc.x1 a) (Rc.x1 b) - max (Rc.x0 a) (Rc.x0 b)), V.i (min (Rc.y1 a) (Rc.y1 b) - max (Rc.y0 a) (Rc.y0 b))]) (.inr rfl) kR kR kR
end Go.Proofs.YtfckkkmacjjmhaaDoor

namespace Go.Proofs.YtfckkkmacjjmhaaDoor
open Go.Ab Go.RowKit Go.Dw Go.Shelf
theorem hang_eq {b : Rc} {p : Pan} {x y : Int} (hx : x = hangX b p) (hy : y = hangY b p) : [V.i x, V.i y, V.i (x + p.wide), V.i (y + p.high), V.b false] = (hangR b p).c := by
  rw [hx, hy]; rfl
set_option maxRecDepth 100000 in
theorem hang_ac (b : Rc) (p : Pan) (hb : b.bd 1073741824) (hp : p.szOk) (ho : -65536 ≤ p.off ∧ p.off ≤ 65536) : AC Tryd.prog 84 [.agg b.c, .agg p.c] (.agg (hangR b p).c) [] := by
  obtain ⟨⟨a1, a2⟩, ⟨a3, a4⟩, ⟨a5, a6⟩, a7, a8⟩ := hb
  obtain ⟨⟨s1, s2⟩, s3, s4⟩ := hp
  obtain ⟨o1, o2⟩ := ho
  refine ac_intro hTT hMX (fn := Tryd.f84) (N := _) ⟨Tryd.func84, rfl, Tryd.ntmps84, kR⟩ (by simp) fun C hC hF => ?_
  refine aw_seq_k fun K hK => ?_
  refine w_region (n' := 2) kR kR ?_
  refine aops_n hTT (M := []) (n := 3) [pv (2 : Nat) (V.ptr [V.i (Rc.x0 b), V.i (Rc.y0 b), V.i (Rc.x1 b), V.i (Rc.y1 b), V.b (Rc.down b)]), pv (3 : Nat) (V.ptr [V.i (Pan.on p), V.i (Pan.edge p), V.i (Pan.off p), V.i (Pan.wide p), V.i (Pan.high p)]), pn (4 : Nat) (V.ref (100004 : Nat) (0 : Nat)) (100004 : Nat) (Ob.box (95 : Nat) [V.i (0 : Int), V.i (0 : Int), V.i (0 : Int), V.i (0 : Int), V.b false])] kR kR tI ?_
  refine aops_nil ?_
  refine xt_n ?_
  refine hK _ ?_
  clear hK K
  refine aw_seq_k fun K hK => ?_
  refine w_regionD (n' := 3) kR kR ?_
  refine aops_n hTT (M := []) (n := 14) [pv (7 : Nat) (V.ptr [V.i (Rc.x0 b), V.i (Rc.y0 b), V.i (Rc.x1 b), V.i (Rc.y1 b), V.b (Rc.down b)]), pv (8 : Nat) (V.ptr [V.i (Rc.x0 b), V.i (Rc.y0 b), V.i (Rc.x1 b), V.i (Rc.y1 b), V.b (Rc.down b)]), pv (9 : Nat) (V.i (Rc.x0 b)), pv (10 : Nat) (V.ptr [V.i (Pan.off p), V.i (Pan.wide p), V.i (Pan.high p)]), pv (11 : Nat) (V.i (Pan.off p)), pc (12 : Nat) ((-9223372036854775808 : Int) ≤ Rc.x0 b + Pan.off p ∧ Rc.x0 b + Pan.off p ≤ 9223372036854775807) (V.i (Rc.x0 b + Pan.off p)), pv (13 : Nat) (V.ptr [V.i (Rc.x0 b), V.i (Rc.y0 b), V.i (Rc.x1 b), V.i (Rc.y1 b), V.b (Rc.down b)]), pv (14 : Nat) (V.ptr [V.i (Rc.y0 b), V.i (Rc.x1 b), V.i (Rc.y1 b), V.b (Rc.down b)]), pv (15 : Nat) (V.i (Rc.y0 b)), pv (16 : Nat) (V.ptr [V.i (Pan.off p), V.i (Pan.wide p), V.i (Pan.high p)]), pv (17 : Nat) (V.i (Pan.off p)), pc (18 : Nat) ((-9223372036854775808 : Int) ≤ Rc.y0 b + Pan.off p ∧ Rc.y0 b + Pan.off p ≤ 9223372036854775807) (V.i (Rc.y0 b + Pan.off p)), pv (5 : Nat) (V.i (Rc.x0 b + Pan.off p)), pv (6 : Nat) (V.i (Rc.y0 b + Pan.off p))] kR kR ⟨oM, oM, tI⟩ ?_
  refine aops_nil ⟨kR, ?_⟩
  refine xt_n ?_
  refine hK _ ?_
  clear hK K
  refine aw_seq_k fun K hK => ?_
  refine aw_seq_k fun K hK => ?_
  refine w_region (n' := 4) kR kR ?_
  refine aops_n hTT (M := []) (n := 2) [pv (19 : Nat) (V.ptr [V.i (Pan.edge p), V.i (Pan.off p), V.i (Pan.wide p), V.i (Pan.high p)]), pv (20 : Nat) (V.i (Pan.edge p))] kR kR tI ?_
  refine aops_nil ?_
  refine xt_n ?_
  refine hK _ ?_
  clear hK K
  refine aw_block ?_
  refine aw_seq_k fun K hK => ?_
  refine w_region (n' := 5) kR kR ?_
  refine aops_n hTT (M := []) (n := 2) [pv (22 : Nat) (V.b (decide (Pan.edge p = 0))), pv (21 : Nat) (V.b (decide (Pan.edge p = 0)))] kR kR tI ?_
  refine aops_nil ?_
  refine xt_n ?_
  refine hK _ ?_
  clear hK K
  refine w_cond (t := decide (Pan.edge p = 0)) kR (fun c0 => ?_) (fun c0 => ?_)
  · simp at c0
    refine w_region (n' := 6) kR kR ?_
    refine aops_n hTT (M := []) (n := 4) [pv (23 : Nat) (V.ptr [V.i (Rc.x0 b), V.i (Rc.y0 b), V.i (Rc.x1 b), V.i (Rc.y1 b), V.b (Rc.down b)]), pv (24 : Nat) (V.ptr [V.i (Rc.x1 b), V.i (Rc.y1 b), V.b (Rc.down b)]), pv (25 : Nat) (V.i (Rc.x1 b)), pv (5 : Nat) (V.i (Rc.x1 b))] kR kR tI ?_
    refine aops_nil ?_
    refine xb_n ?_
    refine xt_n ?_
    refine hK _ ?_
    clear hK K
    refine aw_seq_k fun K hK => ?_
    refine w_region (n' := 7) kR kR ?_
    refine aops_n hTT (M := []) (n := 13) [pv (47 : Nat) (V.i (Rc.x1 b)), pv (48 : Nat) (V.i (Rc.y0 b + Pan.off p)), pv (49 : Nat) (V.i (Rc.x1 b)), pv (50 : Nat) (V.ptr [V.i (Pan.wide p), V.i (Pan.high p)]), pv (51 : Nat) (V.i (Pan.wide p)), pc (52 : Nat) ((-9223372036854775808 : Int) ≤ Rc.x1 b + Pan.wide p ∧ Rc.x1 b + Pan.wide p ≤ 9223372036854775807) (V.i (Rc.x1 b + Pan.wide p)), pv (53 : Nat) (V.i (Rc.y0 b + Pan.off p)), pv (54 : Nat) (V.ptr [V.i (Pan.high p)]), pv (55 : Nat) (V.i (Pan.high p)), pc (56 : Nat) ((-9223372036854775808 : Int) ≤ Rc.y0 b + Pan.off p + Pan.high p ∧ Rc.y0 b + Pan.off p + Pan.high p ≤ 9223372036854775807) (V.i (Rc.y0 b + Pan.off p + Pan.high p)), pv (57 : Nat) (V.agg [V.i (Rc.x1 b), V.i (Rc.y0 b + Pan.off p), V.i (Rc.x1 b + Pan.wide p), V.i (Rc.y0 b + Pan.off p + Pan.high p), V.b false]), pv (58 : Nat) (V.agg [V.i (Rc.x1 b), V.i (Rc.y0 b + Pan.off p), V.i (Rc.x1 b + Pan.wide p), V.i (Rc.y0 b + Pan.off p + Pan.high p), V.b false]), pw ((0 : Nat) + (5 : Nat) ≤ (5 : Nat)) (100004 : Nat) (Ob.box (95 : Nat) [V.i (Rc.x1 b), V.i (Rc.y0 b + Pan.off p), V.i (Rc.x1 b + Pan.wide p), V.i (Rc.y0 b + Pan.off p + Pan.high p), V.b false])] kR kR ⟨oM, oM, oM, tI⟩ ?_
    refine aops_nil ?_
    refine xt_n ?_
    refine hK _ ?_
    clear hK K
    refine aw_ret ?_
    refine ret_of_le (le_freezeBox (t := (95 : Nat)) (cs := [V.i (Rc.x1 b), V.i (Rc.y0 b + Pan.off p), V.i (Rc.x1 b + Pan.wide p), V.i (Rc.y0 b + Pan.off p + Pan.high p), V.b false]) 100004 kR kR) ?_
    rw [← hang_eq (b := b) (p := p) rfl rfl, show hangX b p = b.x1 by simp [hangX, c0], show hangY b p = b.y0 + p.off by simp [hangY, c0]]
    refine ret_pure (v' := V.agg [V.i (Rc.x1 b), V.i (Rc.y0 b + Pan.off p), V.i (Rc.x1 b + Pan.wide p), V.i (Rc.y0 b + Pan.off p + Pan.high p), V.b false]) (.inr rfl) kR kR kR
  simp at c0
  refine aw_seq_k fun K hK => ?_
  refine w_region (n' := 6) kR kR ?_
  refine aops_n hTT (M := []) (n := 2) [pv (27 : Nat) (V.b (decide (Pan.edge p = 1))), pv (26 : Nat) (V.b (decide (Pan.edge p = 1)))] kR kR tI ?_
  refine aops_nil ?_
  refine xt_n ?_
  refine hK _ ?_
  clear hK K
  refine w_cond (t := decide (Pan.edge p = 1)) kR (fun c1 => ?_) (fun c1 => ?_)
  · simp at c1
    refine w_region (n' := 7) kR kR ?_
    refine aops_n hTT (M := []) (n := 4) [pv (28 : Nat) (V.ptr [V.i (Rc.x0 b), V.i (Rc.y0 b), V.i (Rc.x1 b), V.i (Rc.y1 b), V.b (Rc.down b)]), pv (29 : Nat) (V.ptr [V.i (Rc.y1 b), V.b (Rc.down b)]), pv (30 : Nat) (V.i (Rc.y1 b)), pv (6 : Nat) (V.i (Rc.y1 b))] kR kR tI ?_
    refine aops_nil ?_
    refine xb_n ?_
    refine xt_n ?_
    refine hK _ ?_
    clear hK K
    refine aw_seq_k fun K hK => ?_
    refine w_region (n' := 8) kR kR ?_
    refine aops_n hTT (M := []) (n := 13) [pv (47 : Nat) (V.i (Rc.x0 b + Pan.off p)), pv (48 : Nat) (V.i (Rc.y1 b)), pv (49 : Nat) (V.i (Rc.x0 b + Pan.off p)), pv (50 : Nat) (V.ptr [V.i (Pan.wide p), V.i (Pan.high p)]), pv (51 : Nat) (V.i (Pan.wide p)), pc (52 : Nat) ((-9223372036854775808 : Int) ≤ Rc.x0 b + Pan.off p + Pan.wide p ∧ Rc.x0 b + Pan.off p + Pan.wide p ≤ 9223372036854775807) (V.i (Rc.x0 b + Pan.off p + Pan.wide p)), pv (53 : Nat) (V.i (Rc.y1 b)), pv (54 : Nat) (V.ptr [V.i (Pan.high p)]), pv (55 : Nat) (V.i (Pan.high p)), pc (56 : Nat) ((-9223372036854775808 : Int) ≤ Rc.y1 b + Pan.high p ∧ Rc.y1 b + Pan.high p ≤ 9223372036854775807) (V.i (Rc.y1 b + Pan.high p)), pv (57 : Nat) (V.agg [V.i (Rc.x0 b + Pan.off p), V.i (Rc.y1 b), V.i (Rc.x0 b + Pan.off p + Pan.wide p), V.i (Rc.y1 b + Pan.high p), V.b false]), pv (58 : Nat) (V.agg [V.i (Rc.x0 b + Pan.off p), V.i (Rc.y1 b), V.i (Rc.x0 b + Pan.off p + Pan.wide p), V.i (Rc.y1 b + Pan.high p), V.b false]), pw ((0 : Nat) + (5 : Nat) ≤ (5 : Nat)) (100004 : Nat) (Ob.box (95 : Nat) [V.i (Rc.x0 b + Pan.off p), V.i (Rc.y1 b), V.i (Rc.x0 b + Pan.off p + Pan.wide p), V.i (Rc.y1 b + Pan.high p), V.b false])] kR kR ⟨oM, oM, oM, tI⟩ ?_
    refine aops_nil ?_
    refine xt_n ?_
    refine hK _ ?_
    clear hK K
    refine aw_ret ?_
    refine ret_of_le (le_freezeBox (t := (95 : Nat)) (cs := [V.i (Rc.x0 b + Pan.off p), V.i (Rc.y1 b), V.i (Rc.x0 b + Pan.off p + Pan.wide p), V.i (Rc.y1 b + Pan.high p), V.b false]) 100004 kR kR) ?_
    rw [← hang_eq (b := b) (p := p) rfl rfl, show hangX b p = b.x0 + p.off by simp [hangX, c1], show hangY b p = b.y1 by simp [hangY, c1]]
    refine ret_pure (v' := V.agg [V.i (Rc.x0 b + Pan.off p), V.i (Rc.y1 b), V.i (Rc.x0 b + Pan.off p + Pan.wide p), V.i (Rc.y1 b + Pan.high p), V.b false]) (.inr rfl) kR kR kR
  simp at c1
  refine aw_seq_k fun K hK => ?_
  refine w_region (n' := 7) kR kR ?_
  refine aops_n hTT (M := []) (n := 2) [pv (32 : Nat) (V.b (decide (Pan.edge p = 2))), pv (31 : Nat) (V.b (decide (Pan.edge p = 2)))] kR kR tI ?_
  refine aops_nil ?_
  refine xt_n ?_
  refine hK _ ?_
  clear hK K
  refine w_cond (t := decide (Pan.edge p = 2)) kR (fun c2 => ?_) (fun c2 => ?_)
  · simp at c2
    refine w_region (n' := 8) kR kR ?_
    refine aops_n hTT (M := []) (n := 7) [pv (33 : Nat) (V.ptr [V.i (Rc.x0 b), V.i (Rc.y0 b), V.i (Rc.x1 b), V.i (Rc.y1 b), V.b (Rc.down b)]), pv (34 : Nat) (V.ptr [V.i (Rc.x0 b), V.i (Rc.y0 b), V.i (Rc.x1 b), V.i (Rc.y1 b), V.b (Rc.down b)]), pv (35 : Nat) (V.i (Rc.x0 b)), pv (36 : Nat) (V.ptr [V.i (Pan.wide p), V.i (Pan.high p)]), pv (37 : Nat) (V.i (Pan.wide p)), pc (38 : Nat) ((-9223372036854775808 : Int) ≤ Rc.x0 b - Pan.wide p ∧ Rc.x0 b - Pan.wide p ≤ 9223372036854775807) (V.i (Rc.x0 b - Pan.wide p)), pv (5 : Nat) (V.i (Rc.x0 b - Pan.wide p))] kR kR ⟨oM, tI⟩ ?_
    refine aops_nil ?_
    refine xb_n ?_
    refine xt_n ?_
    refine hK _ ?_
    clear hK K
    refine aw_seq_k fun K hK => ?_
    refine w_region (n' := 9) kR kR ?_
    refine aops_n hTT (M := []) (n := 13) [pv (47 : Nat) (V.i (Rc.x0 b - Pan.wide p)), pv (48 : Nat) (V.i (Rc.y0 b + Pan.off p)), pv (49 : Nat) (V.i (Rc.x0 b - Pan.wide p)), pv (50 : Nat) (V.ptr [V.i (Pan.wide p), V.i (Pan.high p)]), pv (51 : Nat) (V.i (Pan.wide p)), pc (52 : Nat) ((-9223372036854775808 : Int) ≤ Rc.x0 b - Pan.wide p + Pan.wide p ∧ Rc.x0 b - Pan.wide p + Pan.wide p ≤ 9223372036854775807) (V.i (Rc.x0 b - Pan.wide p + Pan.wide p)), pv (53 : Nat) (V.i (Rc.y0 b + Pan.off p)), pv (54 : Nat) (V.ptr [V.i (Pan.high p)]), pv (55 : Nat) (V.i (Pan.high p)), pc (56 : Nat) ((-9223372036854775808 : Int) ≤ Rc.y0 b + Pan.off p + Pan.high p ∧ Rc.y0 b + Pan.off p + Pan.high p ≤ 9223372036854775807) (V.i (Rc.y0 b + Pan.off p + Pan.high p)), pv (57 : Nat) (V.agg [V.i (Rc.x0 b - Pan.wide p), V.i (Rc.y0 b + Pan.off p), V.i (Rc.x0 b - Pan.wide p + Pan.wide p), V.i (Rc.y0 b + Pan.off p + Pan.high p), V.b false]), pv (58 : Nat) (V.agg [V.i (Rc.x0 b - Pan.wide p), V.i (Rc.y0 b + Pan.off p), V.i (Rc.x0 b - Pan.wide p + Pan.wide p), V.i (Rc.y0 b + Pan.off p + Pan.high p), V.b false]), pw ((0 : Nat) + (5 : Nat) ≤ (5 : Nat)) (100004 : Nat) (Ob.box (95 : Nat) [V.i (Rc.x0 b - Pan.wide p), V.i (Rc.y0 b + Pan.off p), V.i (Rc.x0 b - Pan.wide p + Pan.wide p), V.i (Rc.y0 b + Pan.off p + Pan.high p), V.b false])] kR kR ⟨oM, oM, oM, tI⟩ ?_
    refine aops_nil ?_
    refine xt_n ?_
    refine hK _ ?_
    clear hK K
    refine aw_ret ?_
    refine ret_of_le (le_freezeBox (t := (95 : Nat)) (cs := [V.i (Rc.x0 b - Pan.wide p), V.i (Rc.y0 b + Pan.off p), V.i (Rc.x0 b - Pan.wide p + Pan.wide p), V.i (Rc.y0 b + Pan.off p + Pan.high p), V.b false]) 100004 kR kR) ?_
    rw [← hang_eq (b := b) (p := p) rfl rfl, show hangX b p = b.x0 - p.wide by simp [hangX, c2], show hangY b p = b.y0 + p.off by simp [hangY, c2]]
    refine ret_pure (v' := V.agg [V.i (Rc.x0 b - Pan.wide p), V.i (Rc.y0 b + Pan.off p), V.i (Rc.x0 b - Pan.wide p + Pan.wide p), V.i (Rc.y0 b + Pan.off p + Pan.high p), V.b false]) (.inr rfl) kR kR kR
  simp at c2
  refine aw_seq_k fun K hK => ?_
  refine w_region (n' := 8) kR kR ?_
  refine aops_n hTT (M := []) (n := 2) [pv (40 : Nat) (V.b (decide (Pan.edge p = 3))), pv (39 : Nat) (V.b (decide (Pan.edge p = 3)))] kR kR tI ?_
  refine aops_nil ?_
  refine xt_n ?_
  refine hK _ ?_
  clear hK K
  refine w_cond (t := decide (Pan.edge p = 3)) kR (fun c3 => ?_) (fun c3 => ?_)
  · simp at c3
    refine w_region (n' := 9) kR kR ?_
    refine aops_n hTT (M := []) (n := 7) [pv (41 : Nat) (V.ptr [V.i (Rc.x0 b), V.i (Rc.y0 b), V.i (Rc.x1 b), V.i (Rc.y1 b), V.b (Rc.down b)]), pv (42 : Nat) (V.ptr [V.i (Rc.y0 b), V.i (Rc.x1 b), V.i (Rc.y1 b), V.b (Rc.down b)]), pv (43 : Nat) (V.i (Rc.y0 b)), pv (44 : Nat) (V.ptr [V.i (Pan.high p)]), pv (45 : Nat) (V.i (Pan.high p)), pc (46 : Nat) ((-9223372036854775808 : Int) ≤ Rc.y0 b - Pan.high p ∧ Rc.y0 b - Pan.high p ≤ 9223372036854775807) (V.i (Rc.y0 b - Pan.high p)), pv (6 : Nat) (V.i (Rc.y0 b - Pan.high p))] kR kR ⟨oM, tI⟩ ?_
    refine aops_nil ?_
    refine xb_n ?_
    refine xt_n ?_
    refine hK _ ?_
    clear hK K
    refine aw_seq_k fun K hK => ?_
    refine w_region (n' := 10) kR kR ?_
    refine aops_n hTT (M := []) (n := 13) [pv (47 : Nat) (V.i (Rc.x0 b + Pan.off p)), pv (48 : Nat) (V.i (Rc.y0 b - Pan.high p)), pv (49 : Nat) (V.i (Rc.x0 b + Pan.off p)), pv (50 : Nat) (V.ptr [V.i (Pan.wide p), V.i (Pan.high p)]), pv (51 : Nat) (V.i (Pan.wide p)), pc (52 : Nat) ((-9223372036854775808 : Int) ≤ Rc.x0 b + Pan.off p + Pan.wide p ∧ Rc.x0 b + Pan.off p + Pan.wide p ≤ 9223372036854775807) (V.i (Rc.x0 b + Pan.off p + Pan.wide p)), pv (53 : Nat) (V.i (Rc.y0 b - Pan.high p)), pv (54 : Nat) (V.ptr [V.i (Pan.high p)]), pv (55 : Nat) (V.i (Pan.high p)), pc (56 : Nat) ((-9223372036854775808 : Int) ≤ Rc.y0 b - Pan.high p + Pan.high p ∧ Rc.y0 b - Pan.high p + Pan.high p ≤ 9223372036854775807) (V.i (Rc.y0 b - Pan.high p + Pan.high p)), pv (57 : Nat) (V.agg [V.i (Rc.x0 b + Pan.off p), V.i (Rc.y0 b - Pan.high p), V.i (Rc.x0 b + Pan.off p + Pan.wide p), V.i (Rc.y0 b - Pan.high p + Pan.high p), V.b false]), pv (58 : Nat) (V.agg [V.i (Rc.x0 b + Pan.off p), V.i (Rc.y0 b - Pan.high p), V.i (Rc.x0 b + Pan.off p + Pan.wide p), V.i (Rc.y0 b - Pan.high p + Pan.high p), V.b false]), pw ((0 : Nat) + (5 : Nat) ≤ (5 : Nat)) (100004 : Nat) (Ob.box (95 : Nat) [V.i (Rc.x0 b + Pan.off p), V.i (Rc.y0 b - Pan.high p), V.i (Rc.x0 b + Pan.off p + Pan.wide p), V.i (Rc.y0 b - Pan.high p + Pan.high p), V.b false])] kR kR ⟨oM, oM, oM, tI⟩ ?_
    refine aops_nil ?_
    refine xt_n ?_
    refine hK _ ?_
    clear hK K
    refine aw_ret ?_
    refine ret_of_le (le_freezeBox (t := (95 : Nat)) (cs := [V.i (Rc.x0 b + Pan.off p), V.i (Rc.y0 b - Pan.high p), V.i (Rc.x0 b + Pan.off p + Pan.wide p), V.i (Rc.y0 b - Pan.high p + Pan.high p), V.b false]) 100004 kR kR) ?_
    rw [← hang_eq (b := b) (p := p) rfl rfl, show hangX b p = b.x0 + p.off by simp [hangX, c3], show hangY b p = b.y0 - p.high by simp [hangY, c3]]
    refine ret_pure (v' := V.agg [V.i (Rc.x0 b + Pan.off p), V.i (Rc.y0 b - Pan.high p), V.i (Rc.x0 b + Pan.off p + Pan.wide p), V.i (Rc.y0 b - Pan.high p + Pan.high p), V.b false]) (.inr rfl) kR kR kR
  simp at c3
  refine aw_skip ?_
  refine xb_n ?_
  refine xt_n ?_
  refine hK _ ?_
  clear hK K
  refine aw_seq_k fun K hK => ?_
  refine w_region (n' := 9) kR kR ?_
  refine aops_n hTT (M := []) (n := 13) [pv (47 : Nat) (V.i (Rc.x0 b + Pan.off p)), pv (48 : Nat) (V.i (Rc.y0 b + Pan.off p)), pv (49 : Nat) (V.i (Rc.x0 b + Pan.off p)), pv (50 : Nat) (V.ptr [V.i (Pan.wide p), V.i (Pan.high p)]), pv (51 : Nat) (V.i (Pan.wide p)), pc (52 : Nat) ((-9223372036854775808 : Int) ≤ Rc.x0 b + Pan.off p + Pan.wide p ∧ Rc.x0 b + Pan.off p + Pan.wide p ≤ 9223372036854775807) (V.i (Rc.x0 b + Pan.off p + Pan.wide p)), pv (53 : Nat) (V.i (Rc.y0 b + Pan.off p)), pv (54 : Nat) (V.ptr [V.i (Pan.high p)]), pv (55 : Nat) (V.i (Pan.high p)), pc (56 : Nat) ((-9223372036854775808 : Int) ≤ Rc.y0 b + Pan.off p + Pan.high p ∧ Rc.y0 b + Pan.off p + Pan.high p ≤ 9223372036854775807) (V.i (Rc.y0 b + Pan.off p + Pan.high p)), pv (57 : Nat) (V.agg [V.i (Rc.x0 b + Pan.off p), V.i (Rc.y0 b + Pan.off p), V.i (Rc.x0 b + Pan.off p + Pan.wide p), V.i (Rc.y0 b + Pan.off p + Pan.high p), V.b false]), pv (58 : Nat) (V.agg [V.i (Rc.x0 b + Pan.off p), V.i (Rc.y0 b + Pan.off p), V.i (Rc.x0 b + Pan.off p + Pan.wide p), V.i (Rc.y0 b + Pan.off p + Pan.high p), V.b false]), pw ((0 : Nat) + (5 : Nat) ≤ (5 : Nat)) (100004 : Nat) (Ob.box (95 : Nat) [V.i (Rc.x0 b + Pan.off p), V.i (Rc.y0 b + Pan.off p), V.i (Rc.x0 b + Pan.off p + Pan.wide p), V.i (Rc.y0 b + Pan.off p + Pan.high p), V.b false])] kR kR ⟨oM, oM, oM, tI⟩ ?_
  refine aops_nil ?_
  refine xt_n ?_
  refine hK _ ?_
  clear hK K
  refine aw_ret ?_
  refine ret_of_le (le_freezeBox (t := (95 : Nat)) (cs := [V.i (Rc.x0 b + Pan.off p), V.i (Rc.y0 b + Pan.off p), V.i (Rc.x0 b + Pan.off p + Pan.wide p), V.i (Rc.y0 b + Pan.off p + Pan.high p), V.b false]) 100004 kR kR) ?_
  rw [← hang_eq (b := b) (p := p) rfl rfl, show hangX b p = b.x0 + p.off by simp [hangX, c0, c2], show hangY b p = b.y0 + p.off by simp [hangY, c1, c3]]
  refine ret_pure (v' := V.agg [V.i (Rc.x0 b + Pan.off p), V.i (Rc.y0 b + Pan.off p), V.i (Rc.x0 b + Pan.off p + Pan.wide p), V.i (Rc.y0 b + Pan.off p + Pan.high p), V.b false]) (.inr rfl) kR kR kR
set_option maxRecDepth 100000 in
theorem flipX_ac (a : Rc) (x : Int) (ha : a.bd 1099511627776) (hx : -1099511627776 ≤ x ∧ x ≤ 1099511627776) : AC Tryd.prog 88 [.agg a.c, .i x] (.agg (flipXR a x).c) [] := by
  obtain ⟨⟨a1, a2⟩, ⟨a3, a4⟩, ⟨a5, a6⟩, a7, a8⟩ := ha
  obtain ⟨x1, x2⟩ := hx
  refine ac_intro hTT hMX (fn := Tryd.f88) (N := _) ⟨Tryd.func88, rfl, Tryd.ntmps88, kR⟩ (by simp) fun C hC hF => ?_
  refine aw_seq_k fun K hK => ?_
  refine w_region (n' := 2) kR kR ?_
  refine aops_n hTT (M := [2]) (n := 2) [pn (2 : Nat) (V.ref (100002 : Nat) (0 : Nat)) (100002 : Nat) (Ob.box (95 : Nat) [V.i (Rc.x0 a), V.i (Rc.y0 a), V.i (Rc.x1 a), V.i (Rc.y1 a), V.b (Rc.down a)]), pn (4 : Nat) (V.ref (100004 : Nat) (0 : Nat)) (100004 : Nat) (Ob.box (95 : Nat) [V.i (0 : Int), V.i (0 : Int), V.i (0 : Int), V.i (0 : Int), V.b false])] kR kR tI ?_
  refine aops_nil ?_
  refine xt_n ?_
  refine hK _ ?_
  clear hK K
  refine aw_seq_k fun K hK => ?_
  refine w_region (n' := 3) kR kR ?_
  refine aops_n hTT (M := [2]) (n := 18) [pv (5 : Nat) (V.i x), pc (6 : Nat) ((-9223372036854775808 : Int) ≤ (2 : Int) * x ∧ (2 : Int) * x ≤ 9223372036854775807) (V.i ((2 : Int) * x)), pv (7 : Nat) (V.ref (100002 : Nat) (0 : Nat)), pv (8 : Nat) (V.ref (100002 : Nat) (2 : Nat)), pc (9 : Nat) ((2 : Nat) ≤ (5 : Nat)) (V.i (Rc.x1 a)), pc (10 : Nat) ((-9223372036854775808 : Int) ≤ (2 : Int) * x - Rc.x1 a ∧ (2 : Int) * x - Rc.x1 a ≤ 9223372036854775807) (V.i ((2 : Int) * x - Rc.x1 a)), pv (11 : Nat) (V.i x), pc (12 : Nat) ((-9223372036854775808 : Int) ≤ (2 : Int) * x ∧ (2 : Int) * x ≤ 9223372036854775807) (V.i ((2 : Int) * x)), pv (13 : Nat) (V.ref (100002 : Nat) (0 : Nat)), pv (14 : Nat) (V.ref (100002 : Nat) (0 : Nat)), pc (15 : Nat) ((0 : Nat) ≤ (5 : Nat)) (V.i (Rc.x0 a)), pc (16 : Nat) ((-9223372036854775808 : Int) ≤ (2 : Int) * x - Rc.x0 a ∧ (2 : Int) * x - Rc.x0 a ≤ 9223372036854775807) (V.i ((2 : Int) * x - Rc.x0 a)), pv (17 : Nat) (V.ref (100002 : Nat) (0 : Nat)), pv (18 : Nat) (V.ref (100002 : Nat) (0 : Nat)), pw ((0 : Nat) + (1 : Nat) ≤ (5 : Nat)) (100002 : Nat) (Ob.box (95 : Nat) [V.i ((2 : Int) * x - Rc.x1 a), V.i (Rc.y0 a), V.i (Rc.x1 a), V.i (Rc.y1 a), V.b (Rc.down a)]), pv (19 : Nat) (V.ref (100002 : Nat) (0 : Nat)), pv (20 : Nat) (V.ref (100002 : Nat) (2 : Nat)), pw ((2 : Nat) + (1 : Nat) ≤ (5 : Nat)) (100002 : Nat) (Ob.box (95 : Nat) [V.i ((2 : Int) * x - Rc.x1 a), V.i (Rc.y0 a), V.i ((2 : Int) * x - Rc.x0 a), V.i (Rc.y1 a), V.b (Rc.down a)])] kR kR ⟨oM, oM, oM, oM, oM, oM, oM, oM, tI⟩ ?_
  refine aops_nil ?_
  refine xt_n ?_
  refine hK _ ?_
  clear hK K
  refine aw_seq_k fun K hK => ?_
  refine w_region (n' := 4) kR kR ?_
  refine aops_n hTT (M := [2]) (n := 2) [pc (21 : Nat) ((0 : Nat) ≤ (5 : Nat)) (V.agg [V.i ((2 : Int) * x - Rc.x1 a), V.i (Rc.y0 a), V.i ((2 : Int) * x - Rc.x0 a), V.i (Rc.y1 a), V.b (Rc.down a)]), pw ((0 : Nat) + (5 : Nat) ≤ (5 : Nat)) (100004 : Nat) (Ob.box (95 : Nat) [V.i ((2 : Int) * x - Rc.x1 a), V.i (Rc.y0 a), V.i ((2 : Int) * x - Rc.x0 a), V.i (Rc.y1 a), V.b (Rc.down a)])] kR kR ⟨oM, oM, tI⟩ ?_
  refine aops_nil ?_
  refine xt_n ?_
  refine hK _ ?_
  clear hK K
  refine aw_ret ?_
  refine ret_of_le (le_freezeBox (t := (95 : Nat)) (cs := [V.i ((2 : Int) * x - Rc.x1 a), V.i (Rc.y0 a), V.i ((2 : Int) * x - Rc.x0 a), V.i (Rc.y1 a), V.b (Rc.down a)]) 100004 kR kR) ?_
  refine ret_pure (v' := V.agg [V.i ((2 : Int) * x - Rc.x1 a), V.i (Rc.y0 a), V.i ((2 : Int) * x - Rc.x0 a), V.i (Rc.y1 a), V.b (Rc.down a)]) (.inr rfl) kR kR kR
set_option maxRecDepth 100000 in
theorem flipY_ac (a : Rc) (x : Int) (ha : a.bd 1099511627776) (hx : -1099511627776 ≤ x ∧ x ≤ 1099511627776) : AC Tryd.prog 89 [.agg a.c, .i x] (.agg (flipYR a x).c) [] := by
  obtain ⟨⟨a1, a2⟩, ⟨a3, a4⟩, ⟨a5, a6⟩, a7, a8⟩ := ha
  obtain ⟨x1, x2⟩ := hx
  refine ac_intro hTT hMX (fn := Tryd.f89) (N := _) ⟨Tryd.func89, rfl, Tryd.ntmps89, kR⟩ (by simp) fun C hC hF => ?_
  refine aw_seq_k fun K hK => ?_
  refine w_region (n' := 2) kR kR ?_
  refine aops_n hTT (M := [2]) (n := 2) [pn (2 : Nat) (V.ref (100002 : Nat) (0 : Nat)) (100002 : Nat) (Ob.box (95 : Nat) [V.i (Rc.x0 a), V.i (Rc.y0 a), V.i (Rc.x1 a), V.i (Rc.y1 a), V.b (Rc.down a)]), pn (4 : Nat) (V.ref (100004 : Nat) (0 : Nat)) (100004 : Nat) (Ob.box (95 : Nat) [V.i (0 : Int), V.i (0 : Int), V.i (0 : Int), V.i (0 : Int), V.b false])] kR kR tI ?_
  refine aops_nil ?_
  refine xt_n ?_
  refine hK _ ?_
  clear hK K
  refine aw_seq_k fun K hK => ?_
  refine w_region (n' := 3) kR kR ?_
  refine aops_n hTT (M := [2]) (n := 18) [pv (5 : Nat) (V.i x), pc (6 : Nat) ((-9223372036854775808 : Int) ≤ (2 : Int) * x ∧ (2 : Int) * x ≤ 9223372036854775807) (V.i ((2 : Int) * x)), pv (7 : Nat) (V.ref (100002 : Nat) (0 : Nat)), pv (8 : Nat) (V.ref (100002 : Nat) (3 : Nat)), pc (9 : Nat) ((3 : Nat) ≤ (5 : Nat)) (V.i (Rc.y1 a)), pc (10 : Nat) ((-9223372036854775808 : Int) ≤ (2 : Int) * x - Rc.y1 a ∧ (2 : Int) * x - Rc.y1 a ≤ 9223372036854775807) (V.i ((2 : Int) * x - Rc.y1 a)), pv (11 : Nat) (V.i x), pc (12 : Nat) ((-9223372036854775808 : Int) ≤ (2 : Int) * x ∧ (2 : Int) * x ≤ 9223372036854775807) (V.i ((2 : Int) * x)), pv (13 : Nat) (V.ref (100002 : Nat) (0 : Nat)), pv (14 : Nat) (V.ref (100002 : Nat) (1 : Nat)), pc (15 : Nat) ((1 : Nat) ≤ (5 : Nat)) (V.i (Rc.y0 a)), pc (16 : Nat) ((-9223372036854775808 : Int) ≤ (2 : Int) * x - Rc.y0 a ∧ (2 : Int) * x - Rc.y0 a ≤ 9223372036854775807) (V.i ((2 : Int) * x - Rc.y0 a)), pv (17 : Nat) (V.ref (100002 : Nat) (0 : Nat)), pv (18 : Nat) (V.ref (100002 : Nat) (1 : Nat)), pw ((1 : Nat) + (1 : Nat) ≤ (5 : Nat)) (100002 : Nat) (Ob.box (95 : Nat) [V.i (Rc.x0 a), V.i ((2 : Int) * x - Rc.y1 a), V.i (Rc.x1 a), V.i (Rc.y1 a), V.b (Rc.down a)]), pv (19 : Nat) (V.ref (100002 : Nat) (0 : Nat)), pv (20 : Nat) (V.ref (100002 : Nat) (3 : Nat)), pw ((3 : Nat) + (1 : Nat) ≤ (5 : Nat)) (100002 : Nat) (Ob.box (95 : Nat) [V.i (Rc.x0 a), V.i ((2 : Int) * x - Rc.y1 a), V.i (Rc.x1 a), V.i ((2 : Int) * x - Rc.y0 a), V.b (Rc.down a)])] kR kR ⟨oM, oM, oM, oM, oM, oM, oM, oM, tI⟩ ?_
  refine aops_nil ?_
  refine xt_n ?_
  refine hK _ ?_
  clear hK K
  refine aw_seq_k fun K hK => ?_
  refine w_region (n' := 4) kR kR ?_
  refine aops_n hTT (M := [2]) (n := 2) [pc (21 : Nat) ((0 : Nat) ≤ (5 : Nat)) (V.agg [V.i (Rc.x0 a), V.i ((2 : Int) * x - Rc.y1 a), V.i (Rc.x1 a), V.i ((2 : Int) * x - Rc.y0 a), V.b (Rc.down a)]), pw ((0 : Nat) + (5 : Nat) ≤ (5 : Nat)) (100004 : Nat) (Ob.box (95 : Nat) [V.i (Rc.x0 a), V.i ((2 : Int) * x - Rc.y1 a), V.i (Rc.x1 a), V.i ((2 : Int) * x - Rc.y0 a), V.b (Rc.down a)])] kR kR ⟨oM, oM, tI⟩ ?_
  refine aops_nil ?_
  refine xt_n ?_
  refine hK _ ?_
  clear hK K
  refine aw_ret ?_
  refine ret_of_le (le_freezeBox (t := (95 : Nat)) (cs := [V.i (Rc.x0 a), V.i ((2 : Int) * x - Rc.y1 a), V.i (Rc.x1 a), V.i ((2 : Int) * x - Rc.y0 a), V.b (Rc.down a)]) 100004 kR kR) ?_
  refine ret_pure (v' := V.agg [V.i (Rc.x0 a), V.i ((2 : Int) * x - Rc.y1 a), V.i (Rc.x1 a), V.i ((2 : Int) * x - Rc.y0 a), V.b (Rc.down a)]) (.inr rfl) kR kR kR
set_option maxRecDepth 100000 in
theorem over_ac (a b : Rc) (e : Int) (ha : a.bd 1099511627776) (hb : b.bd 1099511627776) : AC Tryd.prog 81 [.agg a.c, .agg b.c, .i e] (.agg (mirR a b e).c) [] := by
  have hb' := hb
  obtain ⟨⟨b1, b2⟩, ⟨b3, b4⟩, ⟨b5, b6⟩, b7, b8⟩ := hb'
  refine ac_intro hTT hMX (fn := Tryd.f81) (N := _) ⟨Tryd.func81, rfl, Tryd.ntmps81, kR⟩ (by simp) fun C hC hF => ?_
  refine aw_seq_k fun K hK => ?_
  refine w_region (n' := 2) kR kR ?_
  refine aops_n hTT (M := []) (n := 3) [pv (3 : Nat) (V.ptr [V.i (Rc.x0 a), V.i (Rc.y0 a), V.i (Rc.x1 a), V.i (Rc.y1 a), V.b (Rc.down a)]), pv (4 : Nat) (V.ptr [V.i (Rc.x0 b), V.i (Rc.y0 b), V.i (Rc.x1 b), V.i (Rc.y1 b), V.b (Rc.down b)]), pn (6 : Nat) (V.ref (100006 : Nat) (0 : Nat)) (100006 : Nat) (Ob.box (95 : Nat) [V.i (0 : Int), V.i (0 : Int), V.i (0 : Int), V.i (0 : Int), V.b false])] kR kR tI ?_
  refine aops_nil ?_
  refine xt_n ?_
  refine hK _ ?_
  clear hK K
  refine aw_seq_k fun K hK => ?_
  refine w_regionD (n' := 3) kR kR ?_
  refine aops_n hTT (M := []) (n := 7) [pv (10 : Nat) (V.agg [V.i (Rc.x0 a), V.i (Rc.y0 a), V.i (Rc.x1 a), V.i (Rc.y1 a), V.b (Rc.down a)]), pv (11 : Nat) (V.fn (Fn.func (88 : Nat)) [V.agg [V.i (Rc.x0 a), V.i (Rc.y0 a), V.i (Rc.x1 a), V.i (Rc.y1 a), V.b (Rc.down a)]] []), pv (12 : Nat) (V.ptr [V.i (Rc.x0 b), V.i (Rc.y0 b), V.i (Rc.x1 b), V.i (Rc.y1 b), V.b (Rc.down b)]), pv (13 : Nat) (V.ptr [V.i (Rc.x1 b), V.i (Rc.y1 b), V.b (Rc.down b)]), pv (14 : Nat) (V.i (Rc.x1 b)), pv (7 : Nat) (V.fn (Fn.func (88 : Nat)) [V.agg [V.i (Rc.x0 a), V.i (Rc.y0 a), V.i (Rc.x1 a), V.i (Rc.y1 a), V.b (Rc.down a)]] []), pv (8 : Nat) (V.i (Rc.x1 b))] kR kR tI ?_
  refine aops_nil ⟨kR, ?_⟩
  refine xt_n ?_
  refine hK _ ?_
  clear hK K
  refine aw_seq_k fun K hK => ?_
  refine aw_seq_k fun K hK => ?_
  refine w_region (n' := 4) kR kR ?_
  refine aops_n hTT (M := []) (n := 1) [pv (15 : Nat) (V.i e)] kR kR tI ?_
  refine aops_nil ?_
  refine xt_n ?_
  refine hK _ ?_
  clear hK K
  refine aw_block ?_
  refine aw_seq_k fun K hK => ?_
  refine w_region (n' := 5) kR kR ?_
  refine aops_n hTT (M := []) (n := 2) [pv (17 : Nat) (V.b (decide (e = 1))), pv (16 : Nat) (V.b (decide (e = 1)))] kR kR tI ?_
  refine aops_nil ?_
  refine xt_n ?_
  refine hK _ ?_
  clear hK K
  refine w_cond (t := decide (e = 1)) kR (fun c1 => ?_) (fun c1 => ?_)
  · simp at c1
    refine w_regionD (n' := 6) kR kR ?_
    refine aops_n hTT (M := []) (n := 7) [pv (18 : Nat) (V.agg [V.i (Rc.x0 a), V.i (Rc.y0 a), V.i (Rc.x1 a), V.i (Rc.y1 a), V.b (Rc.down a)]), pv (19 : Nat) (V.fn (Fn.func (89 : Nat)) [V.agg [V.i (Rc.x0 a), V.i (Rc.y0 a), V.i (Rc.x1 a), V.i (Rc.y1 a), V.b (Rc.down a)]] []), pv (20 : Nat) (V.ptr [V.i (Rc.x0 b), V.i (Rc.y0 b), V.i (Rc.x1 b), V.i (Rc.y1 b), V.b (Rc.down b)]), pv (21 : Nat) (V.ptr [V.i (Rc.y1 b), V.b (Rc.down b)]), pv (22 : Nat) (V.i (Rc.y1 b)), pv (7 : Nat) (V.fn (Fn.func (89 : Nat)) [V.agg [V.i (Rc.x0 a), V.i (Rc.y0 a), V.i (Rc.x1 a), V.i (Rc.y1 a), V.b (Rc.down a)]] []), pv (8 : Nat) (V.i (Rc.y1 b))] kR kR tI ?_
    refine aops_nil ⟨kR, ?_⟩
    refine xb_n ?_
    refine xt_n ?_
    refine hK _ ?_
    clear hK K
    refine aw_seq_k fun K hK => ?_
    refine w_region (n' := 7) kR kR ?_
    refine aops_n hTT (M := []) (n := 2) [pv (35 : Nat) (V.fn (Fn.func (89 : Nat)) [V.agg [V.i (Rc.x0 a), V.i (Rc.y0 a), V.i (Rc.x1 a), V.i (Rc.y1 a), V.b (Rc.down a)]] []), pv (36 : Nat) (V.i (Rc.y1 b))] kR kR tI ?_
    refine e_call (first := [V.agg [V.i (Rc.x0 a), V.i (Rc.y0 a), V.i (Rc.x1 a), V.i (Rc.y1 a), V.b (Rc.down a)]]) (caps := []) (flipY_ac a b.y1 ha ⟨b7, b8⟩) kR kR kR kR kR ?_
    refine aops_n hTT (M := []) (n := 2) [pn (9 : Nat) (V.ref (600009 : Nat) (0 : Nat)) (600009 : Nat) (Ob.box (95 : Nat) [V.i (0 : Int), V.i (0 : Int), V.i (0 : Int), V.i (0 : Int), V.b false]), pw ((0 : Nat) + (5 : Nat) ≤ (5 : Nat)) (600009 : Nat) (Ob.box (95 : Nat) [V.i (Rc.x0 (flipYR a (Rc.y1 b))), V.i (Rc.y0 (flipYR a (Rc.y1 b))), V.i (Rc.x1 (flipYR a (Rc.y1 b))), V.i (Rc.y1 (flipYR a (Rc.y1 b))), V.b (Rc.down (flipYR a (Rc.y1 b)))])] kR kR ⟨oM, tI⟩ ?_
    refine aops_nil ?_
    refine xt_n ?_
    refine hK _ ?_
    clear hK K
    refine aw_seq_k fun K hK => ?_
    refine w_region (n' := 8) kR kR ?_
    refine aops_n hTT (M := []) (n := 7) [pv (38 : Nat) (V.ptr [V.i (Rc.x0 a), V.i (Rc.y0 a), V.i (Rc.x1 a), V.i (Rc.y1 a), V.b (Rc.down a)]), pv (39 : Nat) (V.ptr [V.b (Rc.down a)]), pv (40 : Nat) (V.b (Rc.down a)), pv (41 : Nat) (V.b !Rc.down a), pv (42 : Nat) (V.ref (600009 : Nat) (0 : Nat)), pv (43 : Nat) (V.ref (600009 : Nat) (4 : Nat)), pw ((4 : Nat) + (1 : Nat) ≤ (5 : Nat)) (600009 : Nat) (Ob.box (95 : Nat) [V.i (Rc.x0 (flipYR a (Rc.y1 b))), V.i (Rc.y0 (flipYR a (Rc.y1 b))), V.i (Rc.x1 (flipYR a (Rc.y1 b))), V.i (Rc.y1 (flipYR a (Rc.y1 b))), V.b !Rc.down a])] kR kR ⟨oM, tI⟩ ?_
    refine aops_nil ?_
    refine xt_n ?_
    refine hK _ ?_
    clear hK K
    refine aw_seq_k fun K hK => ?_
    refine w_region (n' := 9) kR kR ?_
    refine aops_n hTT (M := []) (n := 2) [pc (44 : Nat) ((0 : Nat) ≤ (5 : Nat)) (V.agg [V.i (Rc.x0 (flipYR a (Rc.y1 b))), V.i (Rc.y0 (flipYR a (Rc.y1 b))), V.i (Rc.x1 (flipYR a (Rc.y1 b))), V.i (Rc.y1 (flipYR a (Rc.y1 b))), V.b !Rc.down a]), pw ((0 : Nat) + (5 : Nat) ≤ (5 : Nat)) (100006 : Nat) (Ob.box (95 : Nat) [V.i (Rc.x0 (flipYR a (Rc.y1 b))), V.i (Rc.y0 (flipYR a (Rc.y1 b))), V.i (Rc.x1 (flipYR a (Rc.y1 b))), V.i (Rc.y1 (flipYR a (Rc.y1 b))), V.b !Rc.down a])] kR kR ⟨oM, oM, tI⟩ ?_
    refine aops_nil ?_
    refine xt_n ?_
    refine hK _ ?_
    clear hK K
    refine aw_ret ?_
    refine ret_of_le (le_freezeBox (t := (95 : Nat)) (cs := [V.i (Rc.x0 (flipYR a (Rc.y1 b))), V.i (Rc.y0 (flipYR a (Rc.y1 b))), V.i (Rc.x1 (flipYR a (Rc.y1 b))), V.i (Rc.y1 (flipYR a (Rc.y1 b))), V.b !Rc.down a]) 100006 kR kR) ?_
    rw [show mirR a b e = ⟨a.x0, 2 * b.y1 - a.y1, a.x1, 2 * b.y1 - a.y0, !a.down⟩ by simp [mirR, c1]]
    refine ret_pure (v' := V.agg [V.i (Rc.x0 (flipYR a (Rc.y1 b))), V.i (Rc.y0 (flipYR a (Rc.y1 b))), V.i (Rc.x1 (flipYR a (Rc.y1 b))), V.i (Rc.y1 (flipYR a (Rc.y1 b))), V.b !Rc.down a]) (.inr rfl) kR kR kR
  simp at c1
  refine aw_seq_k fun K hK => ?_
  refine w_region (n' := 6) kR kR ?_
  refine aops_n hTT (M := []) (n := 2) [pv (24 : Nat) (V.b (decide (e = 2))), pv (23 : Nat) (V.b (decide (e = 2)))] kR kR tI ?_
  refine aops_nil ?_
  refine xt_n ?_
  refine hK _ ?_
  clear hK K
  refine w_cond (t := decide (e = 2)) kR (fun c2 => ?_) (fun c2 => ?_)
  · simp at c2
    refine w_region (n' := 7) kR kR ?_
    refine aops_n hTT (M := []) (n := 4) [pv (25 : Nat) (V.ptr [V.i (Rc.x0 b), V.i (Rc.y0 b), V.i (Rc.x1 b), V.i (Rc.y1 b), V.b (Rc.down b)]), pv (26 : Nat) (V.ptr [V.i (Rc.x0 b), V.i (Rc.y0 b), V.i (Rc.x1 b), V.i (Rc.y1 b), V.b (Rc.down b)]), pv (27 : Nat) (V.i (Rc.x0 b)), pv (8 : Nat) (V.i (Rc.x0 b))] kR kR tI ?_
    refine aops_nil ?_
    refine xb_n ?_
    refine xt_n ?_
    refine hK _ ?_
    clear hK K
    refine aw_seq_k fun K hK => ?_
    refine w_region (n' := 8) kR kR ?_
    refine aops_n hTT (M := []) (n := 2) [pv (35 : Nat) (V.fn (Fn.func (88 : Nat)) [V.agg [V.i (Rc.x0 a), V.i (Rc.y0 a), V.i (Rc.x1 a), V.i (Rc.y1 a), V.b (Rc.down a)]] []), pv (36 : Nat) (V.i (Rc.x0 b))] kR kR tI ?_
    refine e_call (first := [V.agg [V.i (Rc.x0 a), V.i (Rc.y0 a), V.i (Rc.x1 a), V.i (Rc.y1 a), V.b (Rc.down a)]]) (caps := []) (flipX_ac a b.x0 ha ⟨b1, b2⟩) kR kR kR kR kR ?_
    refine aops_n hTT (M := []) (n := 2) [pn (9 : Nat) (V.ref (700009 : Nat) (0 : Nat)) (700009 : Nat) (Ob.box (95 : Nat) [V.i (0 : Int), V.i (0 : Int), V.i (0 : Int), V.i (0 : Int), V.b false]), pw ((0 : Nat) + (5 : Nat) ≤ (5 : Nat)) (700009 : Nat) (Ob.box (95 : Nat) [V.i (Rc.x0 (flipXR a (Rc.x0 b))), V.i (Rc.y0 (flipXR a (Rc.x0 b))), V.i (Rc.x1 (flipXR a (Rc.x0 b))), V.i (Rc.y1 (flipXR a (Rc.x0 b))), V.b (Rc.down (flipXR a (Rc.x0 b)))])] kR kR ⟨oM, tI⟩ ?_
    refine aops_nil ?_
    refine xt_n ?_
    refine hK _ ?_
    clear hK K
    refine aw_seq_k fun K hK => ?_
    refine w_region (n' := 9) kR kR ?_
    refine aops_n hTT (M := []) (n := 7) [pv (38 : Nat) (V.ptr [V.i (Rc.x0 a), V.i (Rc.y0 a), V.i (Rc.x1 a), V.i (Rc.y1 a), V.b (Rc.down a)]), pv (39 : Nat) (V.ptr [V.b (Rc.down a)]), pv (40 : Nat) (V.b (Rc.down a)), pv (41 : Nat) (V.b !Rc.down a), pv (42 : Nat) (V.ref (700009 : Nat) (0 : Nat)), pv (43 : Nat) (V.ref (700009 : Nat) (4 : Nat)), pw ((4 : Nat) + (1 : Nat) ≤ (5 : Nat)) (700009 : Nat) (Ob.box (95 : Nat) [V.i (Rc.x0 (flipXR a (Rc.x0 b))), V.i (Rc.y0 (flipXR a (Rc.x0 b))), V.i (Rc.x1 (flipXR a (Rc.x0 b))), V.i (Rc.y1 (flipXR a (Rc.x0 b))), V.b !Rc.down a])] kR kR ⟨oM, tI⟩ ?_
    refine aops_nil ?_
    refine xt_n ?_
    refine hK _ ?_
    clear hK K
    refine aw_seq_k fun K hK => ?_
    refine w_region (n' := 10) kR kR ?_
    refine aops_n hTT (M := []) (n := 2) [pc (44 : Nat) ((0 : Nat) ≤ (5 : Nat)) (V.agg [V.i (Rc.x0 (flipXR a (Rc.x0 b))), V.i (Rc.y0 (flipXR a (Rc.x0 b))), V.i (Rc.x1 (flipXR a (Rc.x0 b))), V.i (Rc.y1 (flipXR a (Rc.x0 b))), V.b !Rc.down a]), pw ((0 : Nat) + (5 : Nat) ≤ (5 : Nat)) (100006 : Nat) (Ob.box (95 : Nat) [V.i (Rc.x0 (flipXR a (Rc.x0 b))), V.i (Rc.y0 (flipXR a (Rc.x0 b))), V.i (Rc.x1 (flipXR a (Rc.x0 b))), V.i (Rc.y1 (flipXR a (Rc.x0 b))), V.b !Rc.down a])] kR kR ⟨oM, oM, tI⟩ ?_
    refine aops_nil ?_
    refine xt_n ?_
    refine hK _ ?_
    clear hK K
    refine aw_ret ?_
    refine ret_of_le (le_freezeBox (t := (95 : Nat)) (cs := [V.i (Rc.x0 (flipXR a (Rc.x0 b))), V.i (Rc.y0 (flipXR a (Rc.x0 b))), V.i (Rc.x1 (flipXR a (Rc.x0 b))), V.i (Rc.y1 (flipXR a (Rc.x0 b))), V.b !Rc.down a]) 100006 kR kR) ?_
    rw [show mirR a b e = ⟨2 * b.x0 - a.x1, a.y0, 2 * b.x0 - a.x0, a.y1, !a.down⟩ by simp [mirR, c2]]
    refine ret_pure (v' := V.agg [V.i (Rc.x0 (flipXR a (Rc.x0 b))), V.i (Rc.y0 (flipXR a (Rc.x0 b))), V.i (Rc.x1 (flipXR a (Rc.x0 b))), V.i (Rc.y1 (flipXR a (Rc.x0 b))), V.b !Rc.down a]) (.inr rfl) kR kR kR
  simp at c2
  refine aw_seq_k fun K hK => ?_
  refine w_region (n' := 7) kR kR ?_
  refine aops_n hTT (M := []) (n := 2) [pv (29 : Nat) (V.b (decide (e = 3))), pv (28 : Nat) (V.b (decide (e = 3)))] kR kR tI ?_
  refine aops_nil ?_
  refine xt_n ?_
  refine hK _ ?_
  clear hK K
  refine w_cond (t := decide (e = 3)) kR (fun c3 => ?_) (fun c3 => ?_)
  · simp at c3
    refine w_regionD (n' := 8) kR kR ?_
    refine aops_n hTT (M := []) (n := 7) [pv (30 : Nat) (V.agg [V.i (Rc.x0 a), V.i (Rc.y0 a), V.i (Rc.x1 a), V.i (Rc.y1 a), V.b (Rc.down a)]), pv (31 : Nat) (V.fn (Fn.func (89 : Nat)) [V.agg [V.i (Rc.x0 a), V.i (Rc.y0 a), V.i (Rc.x1 a), V.i (Rc.y1 a), V.b (Rc.down a)]] []), pv (32 : Nat) (V.ptr [V.i (Rc.x0 b), V.i (Rc.y0 b), V.i (Rc.x1 b), V.i (Rc.y1 b), V.b (Rc.down b)]), pv (33 : Nat) (V.ptr [V.i (Rc.y0 b), V.i (Rc.x1 b), V.i (Rc.y1 b), V.b (Rc.down b)]), pv (34 : Nat) (V.i (Rc.y0 b)), pv (7 : Nat) (V.fn (Fn.func (89 : Nat)) [V.agg [V.i (Rc.x0 a), V.i (Rc.y0 a), V.i (Rc.x1 a), V.i (Rc.y1 a), V.b (Rc.down a)]] []), pv (8 : Nat) (V.i (Rc.y0 b))] kR kR tI ?_
    refine aops_nil ⟨kR, ?_⟩
    refine xb_n ?_
    refine xt_n ?_
    refine hK _ ?_
    clear hK K
    refine aw_seq_k fun K hK => ?_
    refine w_region (n' := 9) kR kR ?_
    refine aops_n hTT (M := []) (n := 2) [pv (35 : Nat) (V.fn (Fn.func (89 : Nat)) [V.agg [V.i (Rc.x0 a), V.i (Rc.y0 a), V.i (Rc.x1 a), V.i (Rc.y1 a), V.b (Rc.down a)]] []), pv (36 : Nat) (V.i (Rc.y0 b))] kR kR tI ?_
    refine e_call (first := [V.agg [V.i (Rc.x0 a), V.i (Rc.y0 a), V.i (Rc.x1 a), V.i (Rc.y1 a), V.b (Rc.down a)]]) (caps := []) (flipY_ac a b.y0 ha ⟨b3, b4⟩) kR kR kR kR kR ?_
    refine aops_n hTT (M := []) (n := 2) [pn (9 : Nat) (V.ref (800009 : Nat) (0 : Nat)) (800009 : Nat) (Ob.box (95 : Nat) [V.i (0 : Int), V.i (0 : Int), V.i (0 : Int), V.i (0 : Int), V.b false]), pw ((0 : Nat) + (5 : Nat) ≤ (5 : Nat)) (800009 : Nat) (Ob.box (95 : Nat) [V.i (Rc.x0 (flipYR a (Rc.y0 b))), V.i (Rc.y0 (flipYR a (Rc.y0 b))), V.i (Rc.x1 (flipYR a (Rc.y0 b))), V.i (Rc.y1 (flipYR a (Rc.y0 b))), V.b (Rc.down (flipYR a (Rc.y0 b)))])] kR kR ⟨oM, tI⟩ ?_
    refine aops_nil ?_
    refine xt_n ?_
    refine hK _ ?_
    clear hK K
    refine aw_seq_k fun K hK => ?_
    refine w_region (n' := 10) kR kR ?_
    refine aops_n hTT (M := []) (n := 7) [pv (38 : Nat) (V.ptr [V.i (Rc.x0 a), V.i (Rc.y0 a), V.i (Rc.x1 a), V.i (Rc.y1 a), V.b (Rc.down a)]), pv (39 : Nat) (V.ptr [V.b (Rc.down a)]), pv (40 : Nat) (V.b (Rc.down a)), pv (41 : Nat) (V.b !Rc.down a), pv (42 : Nat) (V.ref (800009 : Nat) (0 : Nat)), pv (43 : Nat) (V.ref (800009 : Nat) (4 : Nat)), pw ((4 : Nat) + (1 : Nat) ≤ (5 : Nat)) (800009 : Nat) (Ob.box (95 : Nat) [V.i (Rc.x0 (flipYR a (Rc.y0 b))), V.i (Rc.y0 (flipYR a (Rc.y0 b))), V.i (Rc.x1 (flipYR a (Rc.y0 b))), V.i (Rc.y1 (flipYR a (Rc.y0 b))), V.b !Rc.down a])] kR kR ⟨oM, tI⟩ ?_
    refine aops_nil ?_
    refine xt_n ?_
    refine hK _ ?_
    clear hK K
    refine aw_seq_k fun K hK => ?_
    refine w_region (n' := 11) kR kR ?_
    refine aops_n hTT (M := []) (n := 2) [pc (44 : Nat) ((0 : Nat) ≤ (5 : Nat)) (V.agg [V.i (Rc.x0 (flipYR a (Rc.y0 b))), V.i (Rc.y0 (flipYR a (Rc.y0 b))), V.i (Rc.x1 (flipYR a (Rc.y0 b))), V.i (Rc.y1 (flipYR a (Rc.y0 b))), V.b !Rc.down a]), pw ((0 : Nat) + (5 : Nat) ≤ (5 : Nat)) (100006 : Nat) (Ob.box (95 : Nat) [V.i (Rc.x0 (flipYR a (Rc.y0 b))), V.i (Rc.y0 (flipYR a (Rc.y0 b))), V.i (Rc.x1 (flipYR a (Rc.y0 b))), V.i (Rc.y1 (flipYR a (Rc.y0 b))), V.b !Rc.down a])] kR kR ⟨oM, oM, tI⟩ ?_
    refine aops_nil ?_
    refine xt_n ?_
    refine hK _ ?_
    clear hK K
    refine aw_ret ?_
    refine ret_of_le (le_freezeBox (t := (95 : Nat)) (cs := [V.i (Rc.x0 (flipYR a (Rc.y0 b))), V.i (Rc.y0 (flipYR a (Rc.y0 b))), V.i (Rc.x1 (flipYR a (Rc.y0 b))), V.i (Rc.y1 (flipYR a (Rc.y0 b))), V.b !Rc.down a]) 100006 kR kR) ?_
    rw [show mirR a b e = ⟨a.x0, 2 * b.y0 - a.y1, a.x1, 2 * b.y0 - a.y0, !a.down⟩ by simp [mirR, c3]]
    refine ret_pure (v' := V.agg [V.i (Rc.x0 (flipYR a (Rc.y0 b))), V.i (Rc.y0 (flipYR a (Rc.y0 b))), V.i (Rc.x1 (flipYR a (Rc.y0 b))), V.i (Rc.y1 (flipYR a (Rc.y0 b))), V.b !Rc.down a]) (.inr rfl) kR kR kR
  simp at c3
  refine aw_skip ?_
  refine xb_n ?_
  refine xt_n ?_
  refine hK _ ?_
  clear hK K
  refine aw_seq_k fun K hK => ?_
  refine w_region (n' := 8) kR kR ?_
  refine aops_n hTT (M := []) (n := 2) [pv (35 : Nat) (V.fn (Fn.func (88 : Nat)) [V.agg [V.i (Rc.x0 a), V.i (Rc.y0 a), V.i (Rc.x1 a), V.i (Rc.y1 a), V.b (Rc.down a)]] []), pv (36 : Nat) (V.i (Rc.x1 b))] kR kR tI ?_
  refine e_call (first := [V.agg [V.i (Rc.x0 a), V.i (Rc.y0 a), V.i (Rc.x1 a), V.i (Rc.y1 a), V.b (Rc.down a)]]) (caps := []) (flipX_ac a b.x1 ha ⟨b5, b6⟩) kR kR kR kR kR ?_
  refine aops_n hTT (M := []) (n := 2) [pn (9 : Nat) (V.ref (700009 : Nat) (0 : Nat)) (700009 : Nat) (Ob.box (95 : Nat) [V.i (0 : Int), V.i (0 : Int), V.i (0 : Int), V.i (0 : Int), V.b false]), pw ((0 : Nat) + (5 : Nat) ≤ (5 : Nat)) (700009 : Nat) (Ob.box (95 : Nat) [V.i (Rc.x0 (flipXR a (Rc.x1 b))), V.i (Rc.y0 (flipXR a (Rc.x1 b))), V.i (Rc.x1 (flipXR a (Rc.x1 b))), V.i (Rc.y1 (flipXR a (Rc.x1 b))), V.b (Rc.down (flipXR a (Rc.x1 b)))])] kR kR ⟨oM, tI⟩ ?_
  refine aops_nil ?_
  refine xt_n ?_
  refine hK _ ?_
  clear hK K
  refine aw_seq_k fun K hK => ?_
  refine w_region (n' := 9) kR kR ?_
  refine aops_n hTT (M := []) (n := 7) [pv (38 : Nat) (V.ptr [V.i (Rc.x0 a), V.i (Rc.y0 a), V.i (Rc.x1 a), V.i (Rc.y1 a), V.b (Rc.down a)]), pv (39 : Nat) (V.ptr [V.b (Rc.down a)]), pv (40 : Nat) (V.b (Rc.down a)), pv (41 : Nat) (V.b !Rc.down a), pv (42 : Nat) (V.ref (700009 : Nat) (0 : Nat)), pv (43 : Nat) (V.ref (700009 : Nat) (4 : Nat)), pw ((4 : Nat) + (1 : Nat) ≤ (5 : Nat)) (700009 : Nat) (Ob.box (95 : Nat) [V.i (Rc.x0 (flipXR a (Rc.x1 b))), V.i (Rc.y0 (flipXR a (Rc.x1 b))), V.i (Rc.x1 (flipXR a (Rc.x1 b))), V.i (Rc.y1 (flipXR a (Rc.x1 b))), V.b !Rc.down a])] kR kR ⟨oM, tI⟩ ?_
  refine aops_nil ?_
  refine xt_n ?_
  refine hK _ ?_
  clear hK K
  refine aw_seq_k fun K hK => ?_
  refine w_region (n' := 10) kR kR ?_
  refine aops_n hTT (M := []) (n := 2) [pc (44 : Nat) ((0 : Nat) ≤ (5 : Nat)) (V.agg [V.i (Rc.x0 (flipXR a (Rc.x1 b))), V.i (Rc.y0 (flipXR a (Rc.x1 b))), V.i (Rc.x1 (flipXR a (Rc.x1 b))), V.i (Rc.y1 (flipXR a (Rc.x1 b))), V.b !Rc.down a]), pw ((0 : Nat) + (5 : Nat) ≤ (5 : Nat)) (100006 : Nat) (Ob.box (95 : Nat) [V.i (Rc.x0 (flipXR a (Rc.x1 b))), V.i (Rc.y0 (flipXR a (Rc.x1 b))), V.i (Rc.x1 (flipXR a (Rc.x1 b))), V.i (Rc.y1 (flipXR a (Rc.x1 b))), V.b !Rc.down a])] kR kR ⟨oM, oM, tI⟩ ?_
  refine aops_nil ?_
  refine xt_n ?_
  refine hK _ ?_
  clear hK K
  refine aw_ret ?_
  refine ret_of_le (le_freezeBox (t := (95 : Nat)) (cs := [V.i (Rc.x0 (flipXR a (Rc.x1 b))), V.i (Rc.y0 (flipXR a (Rc.x1 b))), V.i (Rc.x1 (flipXR a (Rc.x1 b))), V.i (Rc.y1 (flipXR a (Rc.x1 b))), V.b !Rc.down a]) 100006 kR kR) ?_
  rw [show mirR a b e = ⟨2 * b.x1 - a.x1, a.y0, 2 * b.x1 - a.x0, a.y1, !a.down⟩ by simp [mirR, c1, c2, c3]]
  refine ret_pure (v' := V.agg [V.i (Rc.x0 (flipXR a (Rc.x1 b))), V.i (Rc.y0 (flipXR a (Rc.x1 b))), V.i (Rc.x1 (flipXR a (Rc.x1 b))), V.i (Rc.y1 (flipXR a (Rc.x1 b))), V.b !Rc.down a]) (.inr rfl) kR kR kR
end Go.Proofs.YtfckkkmacjjmhaaDoor

namespace Go.Proofs.YtfckkkmacjjmhaaDoor
open Go.Ab Go.RowKit Go.Dw Go.Shelf
theorem dfOk : DfOk Tryd.prog 82 123 := ⟨(⟨Tryd.func82, rfl, Tryd.ntmps82, kR⟩ : FnOk Tryd.prog 82 Tryd.f82 _ _).call, flatD_idle, flatD_catch⟩
theorem flat_pre (x : Value) (w : World) (Q : Exit → Act → World → Prop) {n : Nat} {rest : Code} {i0 i1 : Nat} {p0 p1 p2 p3 : String} {ty0 ty1 ty2 ty3 : TypeId} {a0 a1 a2 a3 : Array Edge} (hn : 15 < n + 1)
    (h : rest.wpIn Fence.wide 0 Tryd.prog Q ⟨(((#[x] ++ Array.replicate n undef).setIfInBounds 2 (.pointer (some ⟨w.heap.size, 0, none⟩))).setIfInBounds 3 (.pointer (some ⟨w.heap.size + 1, 0, none⟩))).setIfInBounds 15 (.func (.func 82) #[] #[.pointer (some ⟨w.heap.size, 0, none⟩), .pointer (some ⟨w.heap.size + 1, 0, none⟩)]), [dfd 82 w.heap.size (w.heap.size + 1)]⟩
        ((w.alloc (.cells #[.slice none 0 0] 90)).alloc (.cells #[.int .i64 0] 25))) :
    (Code.seq (.region i0 #[⟨some 2, .alloc 90, ty0, p0, a0, none⟩, ⟨some 3, .alloc 25, ty1, p1, a1, none⟩] false)
      (.seq (.region i1 #[⟨some 15, .makeFunc (.func 82) #[] #[.tmp 2, .tmp 3], ty2, p2, a2, none⟩, ⟨none, .defer ⟨.value (.tmp 15), #[], #[]⟩, ty3, p3, a3, none⟩] false) rest)).wpIn Fence.wide 0 Tryd.prog Q ⟨#[x] ++ Array.replicate n undef, []⟩ w := by
  have hs : (#[x] ++ Array.replicate n undef).size = n + 1 := by simp; omega
  generalize #[x] ++ Array.replicate n undef = T at h hs
  have g2 : ∀ (a b : Value), ((T.setIfInBounds 2 a).setIfInBounds 3 b)[2]? = some a := fun a b => by
    rw [Array.getElem?_setIfInBounds, if_neg oM, Array.getElem?_setIfInBounds, if_pos rfl, if_pos oM]
  have g3 : ∀ (a b : Value), ((T.setIfInBounds 2 a).setIfInBounds 3 b)[3]? = some b := fun a b => by
    rw [Array.getElem?_setIfInBounds, if_pos rfl, if_pos (by simp; omega)]
  have g15 : ∀ (a b c : Value), (((T.setIfInBounds 2 a).setIfInBounds 3 b).setIfInBounds 15 c)[15]? = some c := fun a b c => by
    rw [Array.getElem?_setIfInBounds, if_pos rfl, if_pos (by simp; omega)]
  refine wpIn_seq (wpIn_region ?_)
  simp [wpOpsIn, Oper.wpIn, go_sem, Exit.then, Act.put, Region.wanted]
  refine wpIn_seq (wpIn_region ?_)
  simp [wpOpsIn, Oper.wpIn, go_sem, Exit.then, Act.put, Region.wanted, Act.eval, g2, g3]
  rw [if_pos (show 15 < T.size by omega)]
  exact h
theorem flat_pre0 (vs : Array Value) (w : World) (Q : Exit → Act → World → Prop) (hv : vs.size = 1) {m : Nat} (hm : m = 154) {rest : Code} {i0 i1 : Nat} {p0 p1 p2 p3 : String} {ty0 ty1 ty2 ty3 : TypeId} {a0 a1 a2 a3 : Array Edge}
    (h : rest.wpIn Fence.wide 0 Tryd.prog Q ⟨(((vs ++ Array.replicate (m - vs.size) undef).setIfInBounds 2 (.pointer (some ⟨w.heap.size, 0, none⟩))).setIfInBounds 3 (.pointer (some ⟨w.heap.size + 1, 0, none⟩))).setIfInBounds 15 (.func (.func 82) #[] #[.pointer (some ⟨w.heap.size, 0, none⟩), .pointer (some ⟨w.heap.size + 1, 0, none⟩)]), [dfd 82 w.heap.size (w.heap.size + 1)]⟩
        ((w.alloc (.cells #[.slice none 0 0] 90)).alloc (.cells #[.int .i64 0] 25))) :
    (Code.seq (.region i0 #[⟨some 2, .alloc 90, ty0, p0, a0, none⟩, ⟨some 3, .alloc 25, ty1, p1, a1, none⟩] false)
      (.seq (.region i1 #[⟨some 15, .makeFunc (.func 82) #[] #[.tmp 2, .tmp 3], ty2, p2, a2, none⟩, ⟨none, .defer ⟨.value (.tmp 15), #[], #[]⟩, ty3, p3, a3, none⟩] false) rest)).wpIn Fence.wide 0 Tryd.prog Q ⟨vs ++ Array.replicate (m - vs.size) undef, []⟩ w := by
  obtain ⟨x, rfl⟩ : ∃ x, vs = #[x] := by
    obtain ⟨vl⟩ := vs
    match vl, hv with
    | [x], _ => exact ⟨x, rfl⟩
  subst hm
  exact flat_pre x w Q (n := 153) oM h
def flatV (l : List Pan) : V := if netE l = 0 then .tup [V.rcs l.length (rcF l), .i 0] else .tup [.nil, .i (netE l)]
set_option maxHeartbeats 4000000 in
set_option maxRecDepth 100000 in
theorem flat_ac (l : List Pan) (hl : l.length ≤ 4611686018427387904) : AC Tryd.prog 63 [V.pans l] (flatV l) [] := by
  refine acd_intro hTT hMX (fn := Tryd.f63) (N := _) ⟨Tryd.func63, rfl, Tryd.ntmps63, kR⟩ (by simp) (ta := 2) (tb := 3) (tf := 15) (t1 := 90) (t2 := 25) (z1 := .nil) (z2 := .i 0) (x1 := .slice none 0 0) (x2 := .int .i64 0) (by simp) (fun _ _ _ => .nil _) (fun _ _ _ => .c _ _) rfl rfl rfl kR kR dfOk (fun vs w Q hv h => ?_) fun C hF => ?_
  · exact flat_pre0 vs w Q hv Tryd.ntmps63 h
  have hMust := mustOk
  refine aw_seq_k fun K hK => ?_
  refine aw_must hMust hF 8 kR rfl kR (n' := 2) kR ?_
  refine aops_n hTT (M := []) (n := 8) [pv (16 : Nat) (V.sl (5 : Nat) (List.length l) fun (k : Nat) => Pan.c (gpan l k)), pv (17 : Nat) (V.i (↑(List.length l) : Int)), pv (18 : Nat) (V.b (decide ((0 : Int) < (↑(List.length l) : Int)))), pv (19 : Nat) (V.b (decide ((0 : Int) < (↑(List.length l) : Int)))), pc (20 : Nat) ((True ∧ True) ∧ ((decide ((0 : Int) < (↑(List.length l) : Int)) == true) = true → True)) (V.gd (decide ((0 : Int) < (↑(List.length l) : Int)) == true) (V.sl (5 : Nat) (List.length l) fun (k : Nat) => Pan.c (gpan l k))), pc (21 : Nat) ((((decide ((0 : Int) < (↑(List.length l) : Int)) == true) = true → (decide ((0 : Int) < (↑(List.length l) : Int)) == true) = true) ∧ True) ∧ ((decide ((0 : Int) < (↑(List.length l) : Int)) == true) = true → True)) (V.gd (decide ((0 : Int) < (↑(List.length l) : Int)) == true) (V.i (↑(List.length l) : Int))), pc (22 : Nat) ((((decide ((0 : Int) < (↑(List.length l) : Int)) == true) = true → (decide ((0 : Int) < (↑(List.length l) : Int)) == true) = true) ∧ True ∧ True) ∧ ((decide ((0 : Int) < (↑(List.length l) : Int)) == true) = true → True)) (V.gd (decide ((0 : Int) < (↑(List.length l) : Int)) == true) (V.b (decide ((↑(List.length l) : Int) ≤ 12)))), pc (23 : Nat) ((decide ((0 : Int) < (↑(List.length l) : Int)) = true → (decide ((0 : Int) < (↑(List.length l) : Int)) == true) = true) ∧ True) (V.b (decide ((0 : Int) < (↑(List.length l) : Int)) && decide ((↑(List.length l) : Int) ≤ 12)))] kR kR ⟨⟨⟨tI, tI⟩, (fun _ => tI)⟩, ⟨⟨(by (exact fun h => h)), tI⟩, (fun _ => tI)⟩, ⟨⟨(by (exact fun h => h)), ⟨tI, tI⟩⟩, (fun _ => tI)⟩, ⟨(by (intro h; rw [h]; rfl)), tI⟩, tI⟩ ?_
  refine aops_nil ?_
  refine ⟨decide ((0 : Int) < (↑(List.length l) : Int)) && decide ((↑(List.length l) : Int) ≤ 12), (6 : Int), kR, by kernel_rfl, fun h0 => ?_, fun h0 => ?_⟩
  rotate_left
  · simp at h0
    refine xt_p ?_
    rw [flatV, if_neg (by rw [netE_many oM]; omega), netE_many oM]
    exact .inr ⟨_, _, _, _, _, rfl, rfl, rfl, rfl, rfl, rfl⟩
  simp at h0
  have hne : ¬ (l.length = 0 ∨ 12 < l.length) := by omega
  refine xt_n ?_
  refine hK _ ?_
  clear hK K
  refine aw_seq_k fun K hK => ?_
  refine aw_seq_k fun K hK => ?_
  refine w_region (n' := 3) kR kR ?_
  refine aops_n hTT (M := []) (n := 3) [pv (25 : Nat) (V.sl (5 : Nat) (List.length l) fun (k : Nat) => Pan.c (gpan l k)), pv (26 : Nat) (V.i (↑(List.length l) : Int)), pv (27 : Nat) (V.i (0 : Int))] kR kR tI ?_
  refine aops_nil ?_
  refine xt_n ?_
  refine hK _ ?_
  clear hK K
  refine aw_block ?_
  refine w_le (le_openIn 500 0 (t := 90) (cs := [.nil]) 95 5 (fun k => (rcF l k).c) kR kR rfl rfl) ?_
  refine w_loop (ι := Nat) (fun k => [(2, .ref 500 0), (3, .ref 501 0), (25, V.pans l), (26, .i l.length), (27, .i k)]) (fun k => [(500, .box 90 [.own 5]), (501, .box 25 [.i 0]), (5, .row 95 5 k fun j => (rcF l j).c)]) (fun k => k ≤ l.length ∧ fstE (panE l) k = 0) (fun k => l.length - k) 0 ⟨Nat.zero_le _, rfl⟩ ?_ ?_
  · refine le_ren (sl := [(500, Ob.box (90 : Nat) [V.own (5 : Nat)]), (501, Ob.box (25 : Nat) [V.i (0 : Int)]), (5, Ob.row (95 : Nat) (5 : Nat) (0 : Nat) fun (j : Nat) => Rc.c (rcF l j))]) [(5, 300000)] (.cons kR (.cons kR (.cons kR (.cons kR (.cons kR .nil))))) (.cons ⟨Ob.box (90 : Nat) [V.own (300000 : Nat)], kR, .box kR⟩ (.cons ⟨Ob.box (25 : Nat) [V.i (0 : Int)], kR, .box kR⟩ (.cons ⟨Ob.row (95 : Nat) (5 : Nat) (0 : Nat) fun (k : Nat) => Rc.c (rcF l k), kR, .row kR (fun _ _ => rfl)⟩ .nil))) kR kR
  rintro k ⟨hk, hE⟩
  refine aw_seq_k fun K hK => ?_
  refine w_region (n' := 2) kR kR ?_
  refine aops_n hTT (M := []) (n := 1) [pv (28 : Nat) (V.b (decide ((↑k : Int) < (↑(List.length l) : Int))))] kR kR tI ?_
  refine aops_nil ?_
  refine xt_n ?_
  refine hK _ ?_
  clear hK K
  refine aw_seq_k fun K hK => ?_
  refine w_cond (t := decide ((↑k : Int) < (↑(List.length l) : Int))) kR (fun c1 => ?_) (fun c1 => ?_)
  · simp at c1
    refine aw_skip ?_
    refine xt_n ?_
    refine hK _ ?_
    clear hK K
    refine aw_seq_k fun K hK => ?_
    refine aw_block ?_
    refine aw_seq_k fun K hK => ?_
    refine w_region (n' := 3) kR kR ?_
    refine aops_n hTT (M := []) (n := 6) [pv (29 : Nat) (V.i (↑k : Int)), pc (30 : Nat) ((0 : Int) ≤ (↑k : Int) ∧ (↑k : Int) < (↑(List.length l) : Int)) (V.ptr [V.i (Pan.on (gpan l k)), V.i (Pan.edge (gpan l k)), V.i (Pan.off (gpan l k)), V.i (Pan.wide (gpan l k)), V.i (Pan.high (gpan l k))]), pv (31 : Nat) (V.agg [V.i (Pan.on (gpan l k)), V.i (Pan.edge (gpan l k)), V.i (Pan.off (gpan l k)), V.i (Pan.wide (gpan l k)), V.i (Pan.high (gpan l k))]), pn (5 : Nat) (V.ref (200005 : Nat) (0 : Nat)) (200005 : Nat) (Ob.box (54 : Nat) [V.i (0 : Int), V.i (0 : Int), V.i (0 : Int), V.i (0 : Int), V.i (0 : Int)]), pv (4 : Nat) (V.i (↑k : Int)), pw ((0 : Nat) + (5 : Nat) ≤ (5 : Nat)) (200005 : Nat) (Ob.box (54 : Nat) [V.i (Pan.on (gpan l k)), V.i (Pan.edge (gpan l k)), V.i (Pan.off (gpan l k)), V.i (Pan.wide (gpan l k)), V.i (Pan.high (gpan l k))])] kR kR ⟨oM, oM, tI⟩ ?_
    refine aops_nil ?_
    refine xt_n ?_
    refine hK _ ?_
    clear hK K
    refine aw_seq_k fun K hK => ?_
    refine aw_must hMust hF 10 kR rfl kR (n' := 4) kR ?_
    refine aops_n hTT (M := []) (n := 2) [pv (32 : Nat) (V.ref (200005 : Nat) (3 : Nat)), pc (33 : Nat) ((3 : Nat) ≤ (5 : Nat)) (V.i (Pan.wide (gpan l k)))] kR kR ⟨oM, tI⟩ ?_
    refine e_call (first := []) (caps := []) (soutside_ac (gpan l k).wide 1 65536) kR kR kR kR kR ?_
    refine aops_n hTT (M := []) (n := 4) [pv (35 : Nat) (V.b !(decide (Pan.wide (gpan l k) < 1) || decide ((65536 : Int) < Pan.wide (gpan l k)))), pv (36 : Nat) (V.b !(decide (Pan.wide (gpan l k) < 1) || decide ((65536 : Int) < Pan.wide (gpan l k)))), pc (37 : Nat) ((True ∧ True) ∧ (((!(decide (Pan.wide (gpan l k) < 1) || decide ((65536 : Int) < Pan.wide (gpan l k)))) == true) = true → True)) (V.gd ((!(decide (Pan.wide (gpan l k) < 1) || decide ((65536 : Int) < Pan.wide (gpan l k)))) == true) (V.ref (200005 : Nat) (4 : Nat))), pc (38 : Nat) (((((!(decide (Pan.wide (gpan l k) < 1) || decide ((65536 : Int) < Pan.wide (gpan l k)))) == true) = true → ((!(decide (Pan.wide (gpan l k) < 1) || decide ((65536 : Int) < Pan.wide (gpan l k)))) == true) = true) ∧ True) ∧ (((!(decide (Pan.wide (gpan l k) < 1) || decide ((65536 : Int) < Pan.wide (gpan l k)))) == true) = true → (4 : Nat) ≤ (5 : Nat))) (V.gd ((!(decide (Pan.wide (gpan l k) < 1) || decide ((65536 : Int) < Pan.wide (gpan l k)))) == true) (V.i (Pan.high (gpan l k))))] kR kR ⟨⟨⟨tI, tI⟩, (fun _ => tI)⟩, ⟨⟨(by (exact fun h => h)), tI⟩, (by (intro _; simp; done))⟩, tI⟩ ?_
    refine e_callG 1 (g := (!(decide (Pan.wide (gpan l k) < 1) || decide ((65536 : Int) < Pan.wide (gpan l k)))) == true) (first := []) (caps := []) kR (fun h => soutside_ac (gpan l k).high 1 65536) kR kR kR kR kR kR ?_
    refine aops_n hTT (M := []) (n := 2) [pc (40 : Nat) (((((!(decide (Pan.wide (gpan l k) < 1) || decide ((65536 : Int) < Pan.wide (gpan l k)))) == true) = true → ((!(decide (Pan.wide (gpan l k) < 1) || decide ((65536 : Int) < Pan.wide (gpan l k)))) == true) = true) ∧ True) ∧ (((!(decide (Pan.wide (gpan l k) < 1) || decide ((65536 : Int) < Pan.wide (gpan l k)))) == true) = true → True)) (V.gd ((!(decide (Pan.wide (gpan l k) < 1) || decide ((65536 : Int) < Pan.wide (gpan l k)))) == true) (V.b !(decide (Pan.high (gpan l k) < 1) || decide ((65536 : Int) < Pan.high (gpan l k))))), pc (41 : Nat) (((!(decide (Pan.wide (gpan l k) < 1) || decide ((65536 : Int) < Pan.wide (gpan l k)))) = true → ((!(decide (Pan.wide (gpan l k) < 1) || decide ((65536 : Int) < Pan.wide (gpan l k)))) == true) = true) ∧ True) (V.b (!(decide (Pan.wide (gpan l k) < 1) || decide ((65536 : Int) < Pan.wide (gpan l k))) && !(decide (Pan.high (gpan l k) < 1) || decide ((65536 : Int) < Pan.high (gpan l k)))))] kR kR ⟨⟨⟨(by (exact fun h => h)), tI⟩, (fun _ => tI)⟩, ⟨(by (intro h; rw [h]; rfl)), tI⟩, tI⟩ ?_
    refine aops_nil ?_
    refine ⟨!(decide (Pan.wide (gpan l k) < 1) || decide ((65536 : Int) < Pan.wide (gpan l k))) && !(decide (Pan.high (gpan l k) < 1) || decide ((65536 : Int) < Pan.high (gpan l k))), (2 : Int), kR, by kernel_rfl, fun h1 => ?_, fun h1 => ?_⟩
    rotate_left
    · have hs : ¬ (gpan l k).szOk := by unfold Pan.szOk; simp at h1; omega
      have hE2 := netE_pan hne c1 hE (by rw [panE_sz hs]; omega)
      rw [panE_sz hs] at hE2
      refine xt_p ?_
      refine xb_p ?_
      refine xt_p ?_
      refine xt_p ?_
      refine xb_p ?_
      refine xt_p ?_
      rw [flatV, if_neg oM, hE2]
      exact .inr ⟨_, _, _, _, _, rfl, rfl, rfl, rfl, rfl, rfl⟩
    have hs : (gpan l k).szOk := by unfold Pan.szOk; simp at h1; omega
    have hsz := hs
    obtain ⟨⟨z1, z2⟩, z3, z4⟩ := hsz
    clear h1
    refine xt_n ?_
    refine hK _ ?_
    clear hK K
    refine aw_seq_k fun K hK => ?_
    refine aw_seq_k fun K hK => ?_
    refine w_region (n' := 5) kR kR ?_
    refine aops_n hTT (M := []) (n := 2) [pv (43 : Nat) (V.i (↑k : Int)), pv (44 : Nat) (V.b (decide ((↑k : Int) = 0)))] kR kR tI ?_
    refine aops_nil ?_
    refine xt_n ?_
    refine hK _ ?_
    clear hK K
    refine w_cond (t := decide ((↑k : Int) = 0)) kR (fun c2 => ?_) (fun c2 => ?_)
    · simp at c2
      subst c2
      refine aw_seq_k fun K hK => ?_
      refine aw_must hMust hF 13 kR rfl kR (n' := 6) kR ?_
      refine aops_n hTT (M := []) (n := 13) [pv (45 : Nat) (V.ref (200005 : Nat) (0 : Nat)), pc (46 : Nat) ((0 : Nat) ≤ (5 : Nat)) (V.i (Pan.on (gpan l (0 : Nat)))), pv (47 : Nat) (V.b (decide (Pan.on (gpan l (0 : Nat)) = (-1 : Int)))), pv (48 : Nat) (V.b (decide (Pan.on (gpan l (0 : Nat)) = (-1 : Int)))), pc (49 : Nat) ((True ∧ True) ∧ ((decide (Pan.on (gpan l (0 : Nat)) = (-1 : Int)) == true) = true → True)) (V.gd (decide (Pan.on (gpan l (0 : Nat)) = (-1 : Int)) == true) (V.ref (200005 : Nat) (1 : Nat))), pc (50 : Nat) ((((decide (Pan.on (gpan l (0 : Nat)) = (-1 : Int)) == true) = true → (decide (Pan.on (gpan l (0 : Nat)) = (-1 : Int)) == true) = true) ∧ True) ∧ ((decide (Pan.on (gpan l (0 : Nat)) = (-1 : Int)) == true) = true → (1 : Nat) ≤ (5 : Nat))) (V.gd (decide (Pan.on (gpan l (0 : Nat)) = (-1 : Int)) == true) (V.i (Pan.edge (gpan l (0 : Nat))))), pc (51 : Nat) ((((decide (Pan.on (gpan l (0 : Nat)) = (-1 : Int)) == true) = true → (decide (Pan.on (gpan l (0 : Nat)) = (-1 : Int)) == true) = true) ∧ True ∧ True) ∧ ((decide (Pan.on (gpan l (0 : Nat)) = (-1 : Int)) == true) = true → True)) (V.gd (decide (Pan.on (gpan l (0 : Nat)) = (-1 : Int)) == true) (V.b (decide (Pan.edge (gpan l (0 : Nat)) = 0)))), pc (52 : Nat) ((decide (Pan.on (gpan l (0 : Nat)) = (-1 : Int)) = true → (decide (Pan.on (gpan l (0 : Nat)) = (-1 : Int)) == true) = true) ∧ True) (V.b (decide (Pan.on (gpan l (0 : Nat)) = (-1 : Int)) && decide (Pan.edge (gpan l (0 : Nat)) = 0))), pv (53 : Nat) (V.b (decide (Pan.on (gpan l (0 : Nat)) = (-1 : Int)) && decide (Pan.edge (gpan l (0 : Nat)) = 0))), pc (54 : Nat) ((True ∧ True) ∧ (((decide (Pan.on (gpan l (0 : Nat)) = (-1 : Int)) && decide (Pan.edge (gpan l (0 : Nat)) = 0)) == true) = true → True)) (V.gd ((decide (Pan.on (gpan l (0 : Nat)) = (-1 : Int)) && decide (Pan.edge (gpan l (0 : Nat)) = 0)) == true) (V.ref (200005 : Nat) (2 : Nat))), pc (55 : Nat) (((((decide (Pan.on (gpan l (0 : Nat)) = (-1 : Int)) && decide (Pan.edge (gpan l (0 : Nat)) = 0)) == true) = true → ((decide (Pan.on (gpan l (0 : Nat)) = (-1 : Int)) && decide (Pan.edge (gpan l (0 : Nat)) = 0)) == true) = true) ∧ True) ∧ (((decide (Pan.on (gpan l (0 : Nat)) = (-1 : Int)) && decide (Pan.edge (gpan l (0 : Nat)) = 0)) == true) = true → (2 : Nat) ≤ (5 : Nat))) (V.gd ((decide (Pan.on (gpan l (0 : Nat)) = (-1 : Int)) && decide (Pan.edge (gpan l (0 : Nat)) = 0)) == true) (V.i (Pan.off (gpan l (0 : Nat))))), pc (56 : Nat) (((((decide (Pan.on (gpan l (0 : Nat)) = (-1 : Int)) && decide (Pan.edge (gpan l (0 : Nat)) = 0)) == true) = true → ((decide (Pan.on (gpan l (0 : Nat)) = (-1 : Int)) && decide (Pan.edge (gpan l (0 : Nat)) = 0)) == true) = true) ∧ True ∧ True) ∧ (((decide (Pan.on (gpan l (0 : Nat)) = (-1 : Int)) && decide (Pan.edge (gpan l (0 : Nat)) = 0)) == true) = true → True)) (V.gd ((decide (Pan.on (gpan l (0 : Nat)) = (-1 : Int)) && decide (Pan.edge (gpan l (0 : Nat)) = 0)) == true) (V.b (decide (Pan.off (gpan l (0 : Nat)) = 0)))), pc (57 : Nat) (((decide (Pan.on (gpan l (0 : Nat)) = (-1 : Int)) && decide (Pan.edge (gpan l (0 : Nat)) = 0)) = true → ((decide (Pan.on (gpan l (0 : Nat)) = (-1 : Int)) && decide (Pan.edge (gpan l (0 : Nat)) = 0)) == true) = true) ∧ True) (V.b (decide (Pan.on (gpan l (0 : Nat)) = (-1 : Int)) && decide (Pan.edge (gpan l (0 : Nat)) = 0) && decide (Pan.off (gpan l (0 : Nat)) = 0)))] kR kR ⟨oM, ⟨⟨tI, tI⟩, (fun _ => tI)⟩, ⟨⟨(by (exact fun h => h)), tI⟩, (by (intro _; simp; done))⟩, ⟨⟨(by (exact fun h => h)), ⟨tI, tI⟩⟩, (fun _ => tI)⟩, ⟨(by (intro h; rw [h]; rfl)), tI⟩, ⟨⟨tI, tI⟩, (fun _ => tI)⟩, ⟨⟨(by (exact fun h => h)), tI⟩, (by (intro _; simp; done))⟩, ⟨⟨(by (exact fun h => h)), ⟨tI, tI⟩⟩, (fun _ => tI)⟩, ⟨(by (intro h; rw [h]; rfl)), tI⟩, tI⟩ ?_
      refine aops_nil ?_
      refine ⟨decide (Pan.on (gpan l (0 : Nat)) = (-1 : Int)) && decide (Pan.edge (gpan l (0 : Nat)) = 0) && decide (Pan.off (gpan l (0 : Nat)) = 0), (2 : Int), kR, by kernel_rfl, fun h1 => ?_, fun h1 => ?_⟩
      rotate_left
      · have ho : ¬ (gpan l 0).ok0 := by unfold Pan.ok0; simp at h1; omega
        have hE2 := netE_pan hne c1 hE (by rw [panE_0 hs ho]; omega)
        rw [panE_0 hs ho] at hE2
        refine xt_p ?_
        refine xt_p ?_
        refine xb_p ?_
        refine xt_p ?_
        refine xt_p ?_
        refine xb_p ?_
        refine xt_p ?_
        rw [flatV, if_neg oM, hE2]
        exact .inr ⟨_, _, _, _, _, rfl, rfl, rfl, rfl, rfl, rfl⟩
      have ho : (gpan l 0).ok0 := by unfold Pan.ok0; simp at h1; omega
      clear h1
      refine xt_n ?_
      refine hK _ ?_
      clear hK K
      refine aw_seq_k fun K hK => ?_
      refine w_region (n' := 7) kR kR ?_
      refine aops_n hTT (M := []) (n := 10) [pc (59 : Nat) ((0 : Nat) ≤ (1 : Nat)) (V.own (5 : Nat)), pv (60 : Nat) (V.ref (200005 : Nat) (3 : Nat)), pc (61 : Nat) ((3 : Nat) ≤ (5 : Nat)) (V.i (Pan.wide (gpan l (0 : Nat)))), pv (62 : Nat) (V.ref (200005 : Nat) (4 : Nat)), pc (63 : Nat) ((4 : Nat) ≤ (5 : Nat)) (V.i (Pan.high (gpan l (0 : Nat)))), pv (64 : Nat) (V.agg [V.i (0 : Int), V.i (0 : Int), V.i (Pan.wide (gpan l (0 : Nat))), V.i (Pan.high (gpan l (0 : Nat))), V.b false]), pv (65 : Nat) (V.agg [V.i (0 : Int), V.i (0 : Int), V.i (Pan.wide (gpan l (0 : Nat))), V.i (Pan.high (gpan l (0 : Nat))), V.b false]), pv (66 : Nat) (V.sl (5 : Nat) (1 : Nat) fun (i : Nat) => List.take (5 : Nat) (List.drop (i * 5) [V.i (0 : Int), V.i (0 : Int), V.i (Pan.wide (gpan l (0 : Nat))), V.i (Pan.high (gpan l (0 : Nat))), V.b false])), PR.mk (some (67 : Nat)) (some ((0 : Nat) + (1 : Nat) ≤ (1099511627776 : Nat))) (V.own (600067 : Nat)) [((5 : Nat), none), ((600067 : Nat), some (Ob.row (95 : Nat) (5 : Nat) (1 : Nat) (appRow (0 : Nat) (fun (j : Nat) => Rc.c (rcF l j)) fun (i : Nat) => List.take (5 : Nat) (List.drop (i * 5) [V.i (0 : Int), V.i (0 : Int), V.i (Pan.wide (gpan l (0 : Nat))), V.i (Pan.high (gpan l (0 : Nat))), V.b false]))))] false, pw ((0 : Nat) + (1 : Nat) ≤ (1 : Nat)) (500 : Nat) (Ob.box (90 : Nat) [V.own (600067 : Nat)])] kR kR ⟨oM, oM, oM, oM, oM, tI⟩ ?_
      refine aops_nil ?_
      refine xt_n ?_
      refine hK _ ?_
      clear hK K
      refine aw_exit ?_
      refine xt_x ?_
      refine xb_same ?_
      refine xt_n ?_
      clear hK K
      refine hK _ ?_
      clear hK K
      refine w_region (n' := 8) kR kR ?_
      refine aops_n hTT (M := []) (n := 2) [pc (122 : Nat) ((-9223372036854775808 : Int) ≤ (↑(0 : Nat) : Int) + 1 ∧ (↑(0 : Nat) : Int) + 1 ≤ (9223372036854775807 : Int)) (V.i (1 : Int)), pv (27 : Nat) (V.i (1 : Int))] kR kR ⟨oM, tI⟩ ?_
      refine aops_nil ?_
      refine xt_n ?_
      refine ⟨1, ⟨by omega, by rw [fstE, if_pos hE]; exact panE_0ok hs ho⟩, ?_, by omega⟩
      refine le_ren (tl := [(2, V.ref (500 : Nat) (0 : Nat)), (3, V.ref (501 : Nat) (0 : Nat)), (25, V.sl (5 : Nat) (List.length l) fun (k : Nat) => Pan.c (gpan l k)), (26, V.i (↑(List.length l) : Int)), (27, V.i (1 : Int))]) (sl := [(500, Ob.box (90 : Nat) [V.own (5 : Nat)]), (501, Ob.box (25 : Nat) [V.i (0 : Int)]), (5, Ob.row (95 : Nat) (5 : Nat) (1 : Nat) fun (j : Nat) => Rc.c (rcF l j))]) [(5, 600067)] (.cons kR (.cons kR (.cons kR (.cons kR (.cons kR .nil))))) (.cons ⟨Ob.box (90 : Nat) [V.own (600067 : Nat)], kR, .box kR⟩ (.cons ⟨Ob.box (25 : Nat) [V.i (0 : Int)], kR, .box kR⟩ (.cons ⟨Ob.row (95 : Nat) (5 : Nat) (1 : Nat) (appRow (0 : Nat) (fun (j : Nat) => Rc.c (rcF l j)) fun (i : Nat) => List.take (5 : Nat) (List.drop (i * 5) [V.i (0 : Int), V.i (0 : Int), V.i (Pan.wide (gpan l (0 : Nat))), V.i (Pan.high (gpan l (0 : Nat))), V.b false])), kR, .row kR ?_⟩ .nil))) kR kR
      exact appRow_ok (fun _ _ => rfl) (by rw [rcF_zero]; rfl)
    simp at c2
    refine aw_skip ?_
    refine xt_n ?_
    refine hK _ ?_
    clear hK K
    refine aw_seq_k fun K hK => ?_
    refine aw_must hMust hF 25 kR rfl kR (n' := 6) kR ?_
    refine aops_n hTT (M := []) (n := 22) [pv (68 : Nat) (V.ref (200005 : Nat) (0 : Nat)), pc (69 : Nat) ((0 : Nat) ≤ (5 : Nat)) (V.i (Pan.on (gpan l k))), pv (70 : Nat) (V.b (decide ((0 : Int) ≤ Pan.on (gpan l k)))), pv (71 : Nat) (V.b (decide ((0 : Int) ≤ Pan.on (gpan l k)))), pc (72 : Nat) ((True ∧ True) ∧ ((decide ((0 : Int) ≤ Pan.on (gpan l k)) == true) = true → True)) (V.gd (decide ((0 : Int) ≤ Pan.on (gpan l k)) == true) (V.ref (200005 : Nat) (0 : Nat))), pc (73 : Nat) ((((decide ((0 : Int) ≤ Pan.on (gpan l k)) == true) = true → (decide ((0 : Int) ≤ Pan.on (gpan l k)) == true) = true) ∧ True) ∧ ((decide ((0 : Int) ≤ Pan.on (gpan l k)) == true) = true → (0 : Nat) ≤ (5 : Nat))) (V.gd (decide ((0 : Int) ≤ Pan.on (gpan l k)) == true) (V.i (Pan.on (gpan l k)))), pc (74 : Nat) ((True ∧ True) ∧ ((decide ((0 : Int) ≤ Pan.on (gpan l k)) == true) = true → True)) (V.gd (decide ((0 : Int) ≤ Pan.on (gpan l k)) == true) (V.i (↑k : Int))), pc (75 : Nat) ((((decide ((0 : Int) ≤ Pan.on (gpan l k)) == true) = true → (decide ((0 : Int) ≤ Pan.on (gpan l k)) == true) = true) ∧ ((decide ((0 : Int) ≤ Pan.on (gpan l k)) == true) = true → (decide ((0 : Int) ≤ Pan.on (gpan l k)) == true) = true) ∧ True) ∧ ((decide ((0 : Int) ≤ Pan.on (gpan l k)) == true) = true → True)) (V.gd (decide ((0 : Int) ≤ Pan.on (gpan l k)) == true) (V.b (decide (Pan.on (gpan l k) < (↑k : Int))))), pc (76 : Nat) ((decide ((0 : Int) ≤ Pan.on (gpan l k)) = true → (decide ((0 : Int) ≤ Pan.on (gpan l k)) == true) = true) ∧ True) (V.b (decide ((0 : Int) ≤ Pan.on (gpan l k)) && decide (Pan.on (gpan l k) < (↑k : Int)))), pv (77 : Nat) (V.b (decide ((0 : Int) ≤ Pan.on (gpan l k)) && decide (Pan.on (gpan l k) < (↑k : Int)))), pc (78 : Nat) ((True ∧ True) ∧ (((decide ((0 : Int) ≤ Pan.on (gpan l k)) && decide (Pan.on (gpan l k) < (↑k : Int))) == true) = true → True)) (V.gd ((decide ((0 : Int) ≤ Pan.on (gpan l k)) && decide (Pan.on (gpan l k) < (↑k : Int))) == true) (V.ref (200005 : Nat) (1 : Nat))), pc (79 : Nat) (((((decide ((0 : Int) ≤ Pan.on (gpan l k)) && decide (Pan.on (gpan l k) < (↑k : Int))) == true) = true → ((decide ((0 : Int) ≤ Pan.on (gpan l k)) && decide (Pan.on (gpan l k) < (↑k : Int))) == true) = true) ∧ True) ∧ (((decide ((0 : Int) ≤ Pan.on (gpan l k)) && decide (Pan.on (gpan l k) < (↑k : Int))) == true) = true → (1 : Nat) ≤ (5 : Nat))) (V.gd ((decide ((0 : Int) ≤ Pan.on (gpan l k)) && decide (Pan.on (gpan l k) < (↑k : Int))) == true) (V.i (Pan.edge (gpan l k)))), pc (80 : Nat) (((((decide ((0 : Int) ≤ Pan.on (gpan l k)) && decide (Pan.on (gpan l k) < (↑k : Int))) == true) = true → ((decide ((0 : Int) ≤ Pan.on (gpan l k)) && decide (Pan.on (gpan l k) < (↑k : Int))) == true) = true) ∧ True ∧ True) ∧ (((decide ((0 : Int) ≤ Pan.on (gpan l k)) && decide (Pan.on (gpan l k) < (↑k : Int))) == true) = true → True)) (V.gd ((decide ((0 : Int) ≤ Pan.on (gpan l k)) && decide (Pan.on (gpan l k) < (↑k : Int))) == true) (V.b (decide ((0 : Int) ≤ Pan.edge (gpan l k))))), pc (81 : Nat) (((decide ((0 : Int) ≤ Pan.on (gpan l k)) && decide (Pan.on (gpan l k) < (↑k : Int))) = true → ((decide ((0 : Int) ≤ Pan.on (gpan l k)) && decide (Pan.on (gpan l k) < (↑k : Int))) == true) = true) ∧ True) (V.b (decide ((0 : Int) ≤ Pan.on (gpan l k)) && decide (Pan.on (gpan l k) < (↑k : Int)) && decide ((0 : Int) ≤ Pan.edge (gpan l k)))), pv (82 : Nat) (V.b (decide ((0 : Int) ≤ Pan.on (gpan l k)) && decide (Pan.on (gpan l k) < (↑k : Int)) && decide ((0 : Int) ≤ Pan.edge (gpan l k)))), pc (83 : Nat) ((True ∧ True) ∧ (((decide ((0 : Int) ≤ Pan.on (gpan l k)) && decide (Pan.on (gpan l k) < (↑k : Int)) && decide ((0 : Int) ≤ Pan.edge (gpan l k))) == true) = true → True)) (V.gd ((decide ((0 : Int) ≤ Pan.on (gpan l k)) && decide (Pan.on (gpan l k) < (↑k : Int)) && decide ((0 : Int) ≤ Pan.edge (gpan l k))) == true) (V.ref (200005 : Nat) (1 : Nat))), pc (84 : Nat) (((((decide ((0 : Int) ≤ Pan.on (gpan l k)) && decide (Pan.on (gpan l k) < (↑k : Int)) && decide ((0 : Int) ≤ Pan.edge (gpan l k))) == true) = true → ((decide ((0 : Int) ≤ Pan.on (gpan l k)) && decide (Pan.on (gpan l k) < (↑k : Int)) && decide ((0 : Int) ≤ Pan.edge (gpan l k))) == true) = true) ∧ True) ∧ (((decide ((0 : Int) ≤ Pan.on (gpan l k)) && decide (Pan.on (gpan l k) < (↑k : Int)) && decide ((0 : Int) ≤ Pan.edge (gpan l k))) == true) = true → (1 : Nat) ≤ (5 : Nat))) (V.gd ((decide ((0 : Int) ≤ Pan.on (gpan l k)) && decide (Pan.on (gpan l k) < (↑k : Int)) && decide ((0 : Int) ≤ Pan.edge (gpan l k))) == true) (V.i (Pan.edge (gpan l k)))), pc (85 : Nat) (((((decide ((0 : Int) ≤ Pan.on (gpan l k)) && decide (Pan.on (gpan l k) < (↑k : Int)) && decide ((0 : Int) ≤ Pan.edge (gpan l k))) == true) = true → ((decide ((0 : Int) ≤ Pan.on (gpan l k)) && decide (Pan.on (gpan l k) < (↑k : Int)) && decide ((0 : Int) ≤ Pan.edge (gpan l k))) == true) = true) ∧ True ∧ True) ∧ (((decide ((0 : Int) ≤ Pan.on (gpan l k)) && decide (Pan.on (gpan l k) < (↑k : Int)) && decide ((0 : Int) ≤ Pan.edge (gpan l k))) == true) = true → True)) (V.gd ((decide ((0 : Int) ≤ Pan.on (gpan l k)) && decide (Pan.on (gpan l k) < (↑k : Int)) && decide ((0 : Int) ≤ Pan.edge (gpan l k))) == true) (V.b (decide (Pan.edge (gpan l k) ≤ 3)))), pc (86 : Nat) (((decide ((0 : Int) ≤ Pan.on (gpan l k)) && decide (Pan.on (gpan l k) < (↑k : Int)) && decide ((0 : Int) ≤ Pan.edge (gpan l k))) = true → ((decide ((0 : Int) ≤ Pan.on (gpan l k)) && decide (Pan.on (gpan l k) < (↑k : Int)) && decide ((0 : Int) ≤ Pan.edge (gpan l k))) == true) = true) ∧ True) (V.b (decide ((0 : Int) ≤ Pan.on (gpan l k)) && decide (Pan.on (gpan l k) < (↑k : Int)) && decide ((0 : Int) ≤ Pan.edge (gpan l k)) && decide (Pan.edge (gpan l k) ≤ 3))), pv (87 : Nat) (V.b (decide ((0 : Int) ≤ Pan.on (gpan l k)) && decide (Pan.on (gpan l k) < (↑k : Int)) && decide ((0 : Int) ≤ Pan.edge (gpan l k)) && decide (Pan.edge (gpan l k) ≤ 3))), pc (88 : Nat) ((True ∧ True) ∧ (((decide ((0 : Int) ≤ Pan.on (gpan l k)) && decide (Pan.on (gpan l k) < (↑k : Int)) && decide ((0 : Int) ≤ Pan.edge (gpan l k)) && decide (Pan.edge (gpan l k) ≤ 3)) == true) = true → True)) (V.gd ((decide ((0 : Int) ≤ Pan.on (gpan l k)) && decide (Pan.on (gpan l k) < (↑k : Int)) && decide ((0 : Int) ≤ Pan.edge (gpan l k)) && decide (Pan.edge (gpan l k) ≤ 3)) == true) (V.ref (200005 : Nat) (2 : Nat))), pc (89 : Nat) (((((decide ((0 : Int) ≤ Pan.on (gpan l k)) && decide (Pan.on (gpan l k) < (↑k : Int)) && decide ((0 : Int) ≤ Pan.edge (gpan l k)) && decide (Pan.edge (gpan l k) ≤ 3)) == true) = true → ((decide ((0 : Int) ≤ Pan.on (gpan l k)) && decide (Pan.on (gpan l k) < (↑k : Int)) && decide ((0 : Int) ≤ Pan.edge (gpan l k)) && decide (Pan.edge (gpan l k) ≤ 3)) == true) = true) ∧ True) ∧ (((decide ((0 : Int) ≤ Pan.on (gpan l k)) && decide (Pan.on (gpan l k) < (↑k : Int)) && decide ((0 : Int) ≤ Pan.edge (gpan l k)) && decide (Pan.edge (gpan l k) ≤ 3)) == true) = true → (2 : Nat) ≤ (5 : Nat))) (V.gd ((decide ((0 : Int) ≤ Pan.on (gpan l k)) && decide (Pan.on (gpan l k) < (↑k : Int)) && decide ((0 : Int) ≤ Pan.edge (gpan l k)) && decide (Pan.edge (gpan l k) ≤ 3)) == true) (V.i (Pan.off (gpan l k))))] kR kR ⟨oM, ⟨⟨tI, tI⟩, (fun _ => tI)⟩, ⟨⟨(by (exact fun h => h)), tI⟩, (by (intro _; simp; done))⟩, ⟨⟨tI, tI⟩, (fun _ => tI)⟩, ⟨⟨(by (exact fun h => h)), ⟨(by (exact fun h => h)), tI⟩⟩, (fun _ => tI)⟩, ⟨(by (intro h; rw [h]; rfl)), tI⟩, ⟨⟨tI, tI⟩, (fun _ => tI)⟩, ⟨⟨(by (exact fun h => h)), tI⟩, (by (intro _; simp; done))⟩, ⟨⟨(by (exact fun h => h)), ⟨tI, tI⟩⟩, (fun _ => tI)⟩, ⟨(by (intro h; rw [h]; rfl)), tI⟩, ⟨⟨tI, tI⟩, (fun _ => tI)⟩, ⟨⟨(by (exact fun h => h)), tI⟩, (by (intro _; simp; done))⟩, ⟨⟨(by (exact fun h => h)), ⟨tI, tI⟩⟩, (fun _ => tI)⟩, ⟨(by (intro h; rw [h]; rfl)), tI⟩, ⟨⟨tI, tI⟩, (fun _ => tI)⟩, ⟨⟨(by (exact fun h => h)), tI⟩, (by (intro _; simp; done))⟩, tI⟩ ?_
    refine e_callG 1 (g := (decide ((0 : Int) ≤ Pan.on (gpan l k)) && decide (Pan.on (gpan l k) < (↑k : Int)) && decide ((0 : Int) ≤ Pan.edge (gpan l k)) && decide (Pan.edge (gpan l k) ≤ 3)) == true) (first := []) (caps := []) kR (fun h => soutside_ac (gpan l k).off (-65536) 65536) kR kR kR kR kR kR ?_
    refine aops_n hTT (M := []) (n := 2) [pc (91 : Nat) (((((decide ((0 : Int) ≤ Pan.on (gpan l k)) && decide (Pan.on (gpan l k) < (↑k : Int)) && decide ((0 : Int) ≤ Pan.edge (gpan l k)) && decide (Pan.edge (gpan l k) ≤ 3)) == true) = true → ((decide ((0 : Int) ≤ Pan.on (gpan l k)) && decide (Pan.on (gpan l k) < (↑k : Int)) && decide ((0 : Int) ≤ Pan.edge (gpan l k)) && decide (Pan.edge (gpan l k) ≤ 3)) == true) = true) ∧ True) ∧ (((decide ((0 : Int) ≤ Pan.on (gpan l k)) && decide (Pan.on (gpan l k) < (↑k : Int)) && decide ((0 : Int) ≤ Pan.edge (gpan l k)) && decide (Pan.edge (gpan l k) ≤ 3)) == true) = true → True)) (V.gd ((decide ((0 : Int) ≤ Pan.on (gpan l k)) && decide (Pan.on (gpan l k) < (↑k : Int)) && decide ((0 : Int) ≤ Pan.edge (gpan l k)) && decide (Pan.edge (gpan l k) ≤ 3)) == true) (V.b !(decide (Pan.off (gpan l k) < (-65536 : Int)) || decide ((65536 : Int) < Pan.off (gpan l k))))), pc (92 : Nat) (((decide ((0 : Int) ≤ Pan.on (gpan l k)) && decide (Pan.on (gpan l k) < (↑k : Int)) && decide ((0 : Int) ≤ Pan.edge (gpan l k)) && decide (Pan.edge (gpan l k) ≤ 3)) = true → ((decide ((0 : Int) ≤ Pan.on (gpan l k)) && decide (Pan.on (gpan l k) < (↑k : Int)) && decide ((0 : Int) ≤ Pan.edge (gpan l k)) && decide (Pan.edge (gpan l k) ≤ 3)) == true) = true) ∧ True) (V.b (decide ((0 : Int) ≤ Pan.on (gpan l k)) && decide (Pan.on (gpan l k) < (↑k : Int)) && decide ((0 : Int) ≤ Pan.edge (gpan l k)) && decide (Pan.edge (gpan l k) ≤ 3) && !(decide (Pan.off (gpan l k) < (-65536 : Int)) || decide ((65536 : Int) < Pan.off (gpan l k)))))] kR kR ⟨⟨⟨(by (exact fun h => h)), tI⟩, (fun _ => tI)⟩, ⟨(by (intro h; rw [h]; rfl)), tI⟩, tI⟩ ?_
    refine aops_nil ?_
    refine ⟨decide ((0 : Int) ≤ Pan.on (gpan l k)) && decide (Pan.on (gpan l k) < (↑k : Int)) && decide ((0 : Int) ≤ Pan.edge (gpan l k)) && decide (Pan.edge (gpan l k) ≤ 3) && !(decide (Pan.off (gpan l k) < (-65536 : Int)) || decide ((65536 : Int) < Pan.off (gpan l k))), (2 : Int), kR, by kernel_rfl, fun h1 => ?_, fun h1 => ?_⟩
    rotate_left
    · have ho : ¬ (gpan l k).okI k := by unfold Pan.okI; simp at h1; omega
      have hE2 := netE_pan hne c1 hE (by rw [panE_I oM hs ho]; omega)
      rw [panE_I oM hs ho] at hE2
      refine xt_p ?_
      refine xb_p ?_
      refine xt_p ?_
      refine xt_p ?_
      refine xb_p ?_
      refine xt_p ?_
      rw [flatV, if_neg oM, hE2]
      exact .inr ⟨_, _, _, _, _, rfl, rfl, rfl, rfl, rfl, rfl⟩
    have ho : (gpan l k).okI k := by unfold Pan.okI; simp at h1; omega
    have ho2 := ho
    obtain ⟨⟨o1, o2⟩, ⟨o3, o4⟩, o5⟩ := ho2
    clear h1
    have hall : ∀ j, j < k → (gpan l j).szOk ∧ (0 < j → (gpan l j).okI j) := fun j hj => by
      obtain ⟨p1, _, p3⟩ := panE_inv (fstE_ok.1 hE j hj)
      exact ⟨p1, fun h => (p3 h).1⟩
    have hall2 : ∀ j, j ≤ k → (gpan l j).szOk ∧ (0 < j → (gpan l j).okI j) := fun j hj => by
      by_cases he : j = k
      · subst he; exact ⟨hs, fun _ => ho⟩
      · exact hall j oM
    have hon : (gpan l k).on.toNat < k := by omega
    have b1 : (rcF l (gpan l k).on.toNat).bd 1703936 := Rc.bd_mono (rcF_bd _ fun j hj => hall2 j oM) oM
    have b2 : (rcF l k).bd 1703936 := Rc.bd_mono (rcF_bd k hall2) oM
    have A1 := hang_ac _ _ (Rc.bd_mono b1 oM) hs o5
    rw [← rcF_succ l oM hon] at A1
    have A2 := common_ac _ _ (Rc.bd_mono b2 oM) (Rc.bd_mono b1 oM)
    rw [comW_comm, comH_comm] at A2
    refine xt_n ?_
    refine hK _ ?_
    clear hK K
    refine aw_seq_k fun K hK => ?_
    refine w_regionD (n' := 7) kR kR ?_
    refine aops_n hTT (M := []) (n := 6) [pc (94 : Nat) ((0 : Nat) ≤ (1 : Nat)) (V.own (5 : Nat)), pv (95 : Nat) (V.ref (200005 : Nat) (0 : Nat)), pc (96 : Nat) ((0 : Nat) ≤ (5 : Nat)) (V.i (Pan.on (gpan l k))), pc (97 : Nat) ((0 : Int) ≤ Pan.on (gpan l k) ∧ Pan.on (gpan l k) < (↑k : Int)) (V.oel (5 : Nat) (5 : Nat) (Int.toNat (Pan.on (gpan l k))) (0 : Nat)), pc (98 : Nat) (Int.toNat (Pan.on (gpan l k)) < k ∧ (0 : Nat) ≤ (5 : Nat)) (V.agg [V.i (Rc.x0 (rcF l (Int.toNat (Pan.on (gpan l k))))), V.i (Rc.y0 (rcF l (Int.toNat (Pan.on (gpan l k))))), V.i (Rc.x1 (rcF l (Int.toNat (Pan.on (gpan l k))))), V.i (Rc.y1 (rcF l (Int.toNat (Pan.on (gpan l k))))), V.b (Rc.down (rcF l (Int.toNat (Pan.on (gpan l k)))))]), pc (99 : Nat) ((0 : Nat) ≤ (5 : Nat)) (V.agg [V.i (Pan.on (gpan l k)), V.i (Pan.edge (gpan l k)), V.i (Pan.off (gpan l k)), V.i (Pan.wide (gpan l k)), V.i (Pan.high (gpan l k))])] kR kR ⟨oM, oM, oM, oM, oM, tI⟩ ?_
    refine e_call (first := []) (caps := []) (A1) kR kR kR kR kR ?_
    refine aops_n hTT (M := []) (n := 2) [pn (6 : Nat) (V.ref (600006 : Nat) (0 : Nat)) (600006 : Nat) (Ob.box (95 : Nat) [V.i (0 : Int), V.i (0 : Int), V.i (0 : Int), V.i (0 : Int), V.b false]), pw ((0 : Nat) + (5 : Nat) ≤ (5 : Nat)) (600006 : Nat) (Ob.box (95 : Nat) [V.i (Rc.x0 (rcF l k)), V.i (Rc.y0 (rcF l k)), V.i (Rc.x1 (rcF l k)), V.i (Rc.y1 (rcF l k)), V.b (Rc.down (rcF l k))])] kR kR ⟨oM, tI⟩ ?_
    refine aops_nil ⟨kR, ?_⟩
    refine xt_n ?_
    refine hK _ ?_
    clear hK K
    refine aw_seq_k fun K hK => ?_
    refine w_regionD (n' := 8) kR kR ?_
    refine aops_n hTT (M := []) (n := 6) [pc (102 : Nat) ((0 : Nat) ≤ (5 : Nat)) (V.agg [V.i (Rc.x0 (rcF l k)), V.i (Rc.y0 (rcF l k)), V.i (Rc.x1 (rcF l k)), V.i (Rc.y1 (rcF l k)), V.b (Rc.down (rcF l k))]), pc (103 : Nat) ((0 : Nat) ≤ (1 : Nat)) (V.own (5 : Nat)), pv (104 : Nat) (V.ref (200005 : Nat) (0 : Nat)), pc (105 : Nat) ((0 : Nat) ≤ (5 : Nat)) (V.i (Pan.on (gpan l k))), pc (106 : Nat) ((0 : Int) ≤ Pan.on (gpan l k) ∧ Pan.on (gpan l k) < (↑k : Int)) (V.oel (5 : Nat) (5 : Nat) (Int.toNat (Pan.on (gpan l k))) (0 : Nat)), pc (107 : Nat) (Int.toNat (Pan.on (gpan l k)) < k ∧ (0 : Nat) ≤ (5 : Nat)) (V.agg [V.i (Rc.x0 (rcF l (Int.toNat (Pan.on (gpan l k))))), V.i (Rc.y0 (rcF l (Int.toNat (Pan.on (gpan l k))))), V.i (Rc.x1 (rcF l (Int.toNat (Pan.on (gpan l k))))), V.i (Rc.y1 (rcF l (Int.toNat (Pan.on (gpan l k))))), V.b (Rc.down (rcF l (Int.toNat (Pan.on (gpan l k)))))])] kR kR ⟨oM, oM, oM, oM, oM, tI⟩ ?_
    refine e_call (first := []) (caps := []) (A2) kR kR kR kR kR ?_
    refine aops_n hTT (M := []) (n := 5) [pv (101 : Nat) (V.tup [V.i (comW (rcF l (Int.toNat (Pan.on (gpan l k)))) (rcF l k)), V.i (comH (rcF l (Int.toNat (Pan.on (gpan l k)))) (rcF l k))]), pv (109 : Nat) (V.i (comW (rcF l (Int.toNat (Pan.on (gpan l k)))) (rcF l k))), pv (110 : Nat) (V.i (comH (rcF l (Int.toNat (Pan.on (gpan l k)))) (rcF l k))), pv (7 : Nat) (V.i (comW (rcF l (Int.toNat (Pan.on (gpan l k)))) (rcF l k))), pv (8 : Nat) (V.i (comH (rcF l (Int.toNat (Pan.on (gpan l k)))) (rcF l k)))] kR kR tI ?_
    refine aops_nil ⟨kR, ?_⟩
    refine xt_n ?_
    refine hK _ ?_
    clear hK K
    refine aw_seq_k fun K hK => ?_
    refine aw_must hMust hF 6 kR rfl kR (n' := 9) kR ?_
    refine aops_n hTT (M := []) (n := 6) [pv (111 : Nat) (V.i (comW (rcF l (Int.toNat (Pan.on (gpan l k)))) (rcF l k))), pv (112 : Nat) (V.b (decide ((0 : Int) < comW (rcF l (Int.toNat (Pan.on (gpan l k)))) (rcF l k)))), pv (113 : Nat) (V.b (decide ((0 : Int) < comW (rcF l (Int.toNat (Pan.on (gpan l k)))) (rcF l k)))), pc (114 : Nat) ((True ∧ True) ∧ ((decide ((0 : Int) < comW (rcF l (Int.toNat (Pan.on (gpan l k)))) (rcF l k)) == false) = true → True)) (V.gd (decide ((0 : Int) < comW (rcF l (Int.toNat (Pan.on (gpan l k)))) (rcF l k)) == false) (V.i (comH (rcF l (Int.toNat (Pan.on (gpan l k)))) (rcF l k)))), pc (115 : Nat) ((((decide ((0 : Int) < comW (rcF l (Int.toNat (Pan.on (gpan l k)))) (rcF l k)) == false) = true → (decide ((0 : Int) < comW (rcF l (Int.toNat (Pan.on (gpan l k)))) (rcF l k)) == false) = true) ∧ True ∧ True) ∧ ((decide ((0 : Int) < comW (rcF l (Int.toNat (Pan.on (gpan l k)))) (rcF l k)) == false) = true → True)) (V.gd (decide ((0 : Int) < comW (rcF l (Int.toNat (Pan.on (gpan l k)))) (rcF l k)) == false) (V.b (decide ((0 : Int) < comH (rcF l (Int.toNat (Pan.on (gpan l k)))) (rcF l k))))), pc (116 : Nat) (True ∧ (decide ((0 : Int) < comW (rcF l (Int.toNat (Pan.on (gpan l k)))) (rcF l k)) = false → (decide ((0 : Int) < comW (rcF l (Int.toNat (Pan.on (gpan l k)))) (rcF l k)) == false) = true)) (V.b (decide ((0 : Int) < comW (rcF l (Int.toNat (Pan.on (gpan l k)))) (rcF l k)) || decide ((0 : Int) < comH (rcF l (Int.toNat (Pan.on (gpan l k)))) (rcF l k))))] kR kR ⟨⟨⟨tI, tI⟩, (fun _ => tI)⟩, ⟨⟨(by (exact fun h => h)), ⟨tI, tI⟩⟩, (fun _ => tI)⟩, ⟨tI, (by (intro h; rw [h]; rfl))⟩, tI⟩ ?_
    refine aops_nil ?_
    refine ⟨decide ((0 : Int) < comW (rcF l (Int.toNat (Pan.on (gpan l k)))) (rcF l k)) || decide ((0 : Int) < comH (rcF l (Int.toNat (Pan.on (gpan l k)))) (rcF l k)), (5 : Int), kR, by kernel_rfl, fun h1 => ?_, fun h1 => ?_⟩
    rotate_left
    · have ht : comW (rcF l (gpan l k).on.toNat) (rcF l k) ≤ 0 ∧ comH (rcF l (gpan l k).on.toNat) (rcF l k) ≤ 0 := by simp at h1; omega
      have hE2 := netE_pan hne c1 hE (by rw [panE_T oM hs ho ht]; omega)
      rw [panE_T oM hs ho ht] at hE2
      refine xt_p ?_
      refine xb_p ?_
      refine xt_p ?_
      refine xt_p ?_
      refine xb_p ?_
      refine xt_p ?_
      rw [flatV, if_neg oM, hE2]
      exact .inr ⟨_, _, _, _, _, rfl, rfl, rfl, rfl, rfl, rfl⟩
    have ht : ¬ (comW (rcF l (gpan l k).on.toNat) (rcF l k) ≤ 0 ∧ comH (rcF l (gpan l k).on.toNat) (rcF l k) ≤ 0) := by simp at h1; omega
    clear h1
    refine xt_n ?_
    refine hK _ ?_
    clear hK K
    refine w_region (n' := 10) kR kR ?_
    refine aops_n hTT (M := []) (n := 5) [pc (118 : Nat) ((0 : Nat) ≤ (1 : Nat)) (V.own (5 : Nat)), pc (119 : Nat) ((0 : Nat) ≤ (5 : Nat)) (V.agg [V.i (Rc.x0 (rcF l k)), V.i (Rc.y0 (rcF l k)), V.i (Rc.x1 (rcF l k)), V.i (Rc.y1 (rcF l k)), V.b (Rc.down (rcF l k))]), pv (120 : Nat) (V.sl (5 : Nat) (1 : Nat) fun (i : Nat) => List.take (5 : Nat) (List.drop (i * 5) [V.i (Rc.x0 (rcF l k)), V.i (Rc.y0 (rcF l k)), V.i (Rc.x1 (rcF l k)), V.i (Rc.y1 (rcF l k)), V.b (Rc.down (rcF l k))])), PR.mk (some (121 : Nat)) (some (k + 1 ≤ (1099511627776 : Nat))) (V.own (900121 : Nat)) [((5 : Nat), none), ((900121 : Nat), some (Ob.row (95 : Nat) (5 : Nat) (k + 1) (appRow k (fun (j : Nat) => Rc.c (rcF l j)) fun (i : Nat) => List.take (5 : Nat) (List.drop (i * 5) [V.i (Rc.x0 (rcF l k)), V.i (Rc.y0 (rcF l k)), V.i (Rc.x1 (rcF l k)), V.i (Rc.y1 (rcF l k)), V.b (Rc.down (rcF l k))]))))] false, pw ((0 : Nat) + (1 : Nat) ≤ (1 : Nat)) (500 : Nat) (Ob.box (90 : Nat) [V.own (900121 : Nat)])] kR kR ⟨oM, oM, oM, oM, tI⟩ ?_
    refine aops_nil ?_
    refine xb_n ?_
    refine xt_n ?_
    refine hK _ ?_
    clear hK K
    refine w_region (n' := 11) kR kR ?_
    refine aops_n hTT (M := []) (n := 2) [pc (122 : Nat) ((-9223372036854775808 : Int) ≤ (↑k : Int) + 1 ∧ (↑k : Int) + 1 ≤ (9223372036854775807 : Int)) (V.i ((↑k : Int) + 1)), pv (27 : Nat) (V.i ((↑k : Int) + 1))] kR kR ⟨oM, tI⟩ ?_
    refine aops_nil ?_
    refine xt_n ?_
    refine ⟨k + 1, ⟨by omega, by rw [fstE, if_pos hE]; exact panE_ok oM hs ho ht⟩, ?_, by omega⟩
    refine le_ren (tl := [(2, V.ref (500 : Nat) (0 : Nat)), (3, V.ref (501 : Nat) (0 : Nat)), (25, V.sl (5 : Nat) (List.length l) fun (k : Nat) => Pan.c (gpan l k)), (26, V.i (↑(List.length l) : Int)), (27, V.i (↑(k + 1) : Int))]) (sl := [(500, Ob.box (90 : Nat) [V.own (5 : Nat)]), (501, Ob.box (25 : Nat) [V.i (0 : Int)]), (5, Ob.row (95 : Nat) (5 : Nat) (k + 1) fun (j : Nat) => Rc.c (rcF l j))]) [(5, 900121)] (.cons kR (.cons kR (.cons kR (.cons kR (.cons kR .nil))))) (.cons ⟨Ob.box (90 : Nat) [V.own (900121 : Nat)], kR, .box kR⟩ (.cons ⟨Ob.box (25 : Nat) [V.i (0 : Int)], kR, .box kR⟩ (.cons ⟨Ob.row (95 : Nat) (5 : Nat) (k + 1) (appRow k (fun (j : Nat) => Rc.c (rcF l j)) fun (i : Nat) => List.take (5 : Nat) (List.drop (i * 5) [V.i (Rc.x0 (rcF l k)), V.i (Rc.y0 (rcF l k)), V.i (Rc.x1 (rcF l k)), V.i (Rc.y1 (rcF l k)), V.b (Rc.down (rcF l k))])), kR, .row kR ?_⟩ .nil))) kR kR
    exact appRow_ok (fun _ _ => rfl) rfl
  simp at c1
  obtain rfl : k = l.length := by omega
  refine aw_exit ?_
  refine xt_x ?_
  refine xt_x ?_
  refine xb_same ?_
  refine xt_n ?_
  clear hK K
  refine hK _ ?_
  clear hK K
  refine aw_seq_k fun K hK => ?_
  refine aw_seq_k fun K hK => ?_
  refine w_region (n' := 3) kR kR ?_
  refine aops_n hTT (M := []) (n := 3) [pc (123 : Nat) ((0 : Nat) ≤ (1 : Nat)) (V.own (5 : Nat)), pv (124 : Nat) (V.i (↑(List.length l) : Int)), pv (125 : Nat) (V.i (0 : Int))] kR kR ⟨oM, tI⟩ ?_
  refine aops_nil ?_
  refine xt_n ?_
  refine hK _ ?_
  clear hK K
  refine aw_block ?_
  refine w_le (le_freezeIn 5 (e := (95 : Nat)) (sz := (5 : Nat)) (n := List.length l) (n' := l.length) (row := fun (j : Nat) => Rc.c (rcF l j)) (row' := (fun j => (rcF l j).c)) kR (fun _ => rfl) ?_ ?_) ?_
  · rfl
  · exact fun _ _ => rfl
  have hbd : ∀ i, i < l.length → (rcF l i).bd 1703936 := fun i hi => Rc.bd_mono (rcF_bd i fun j hj => by
    obtain ⟨p1, _, p3⟩ := panE_inv (fstE_ok.1 hE j oM)
    exact ⟨p1, fun h => (p3 h).1⟩) oM
  refine w_loop (ι := Nat) (fun k => [(2, .ref 500 0), (3, .ref 501 0), (123, V.rcs l.length (rcF l)), (124, .i l.length), (125, .i k)]) (fun k => [(500, .box 90 [V.rcs l.length (rcF l)]), (501, .box 25 [.i 0])]) (fun k => k ≤ l.length ∧ ∀ i j, j < i → i < k → ¬ lapB l i j) (fun k => l.length - k) 0 ⟨Nat.zero_le _, fun i j _ hi => by omega⟩ ?_ ?_
  · refine le_ren (sl := [(500, Ob.box (90 : Nat) [V.sl (5 : Nat) (List.length l) fun (k : Nat) => Rc.c (rcF l k)]), (501, Ob.box (25 : Nat) [V.i (0 : Int)])]) [] (.cons kR (.cons kR (.cons kR (.cons kR (.cons kR .nil))))) (.cons ⟨Ob.box (90 : Nat) [V.sl (5 : Nat) (List.length l) fun (j : Nat) => Rc.c (rcF l j)], kR, .box kR⟩ (.cons ⟨Ob.box (25 : Nat) [V.i (0 : Int)], kR, .box kR⟩ .nil)) kR kR
  rintro i ⟨hi, hL⟩
  refine aw_seq_k fun K hK => ?_
  refine w_region (n' := 2) kR kR ?_
  refine aops_n hTT (M := []) (n := 1) [pv (126 : Nat) (V.b (decide ((↑i : Int) < (↑(List.length l) : Int))))] kR kR tI ?_
  refine aops_nil ?_
  refine xt_n ?_
  refine hK _ ?_
  clear hK K
  refine aw_seq_k fun K hK => ?_
  refine w_cond (t := decide ((↑i : Int) < (↑(List.length l) : Int))) kR (fun c1 => ?_) (fun c1 => ?_)
  · simp at c1
    refine aw_skip ?_
    refine xt_n ?_
    refine hK _ ?_
    clear hK K
    refine aw_seq_k fun K hK => ?_
    refine aw_block ?_
    refine aw_seq_k fun K hK => ?_
    refine w_region (n' := 3) kR kR ?_
    refine aops_n hTT (M := []) (n := 6) [pv (127 : Nat) (V.i (↑i : Int)), pc (128 : Nat) ((0 : Int) ≤ (↑i : Int) ∧ (↑i : Int) < (↑(List.length l) : Int)) (V.ptr [V.i (Rc.x0 (rcF l i)), V.i (Rc.y0 (rcF l i)), V.i (Rc.x1 (rcF l i)), V.i (Rc.y1 (rcF l i)), V.b (Rc.down (rcF l i))]), pv (129 : Nat) (V.agg [V.i (Rc.x0 (rcF l i)), V.i (Rc.y0 (rcF l i)), V.i (Rc.x1 (rcF l i)), V.i (Rc.y1 (rcF l i)), V.b (Rc.down (rcF l i))]), pn (10 : Nat) (V.ref (200010 : Nat) (0 : Nat)) (200010 : Nat) (Ob.box (95 : Nat) [V.i (0 : Int), V.i (0 : Int), V.i (0 : Int), V.i (0 : Int), V.b false]), pv (9 : Nat) (V.i (↑i : Int)), pw ((0 : Nat) + (5 : Nat) ≤ (5 : Nat)) (200010 : Nat) (Ob.box (95 : Nat) [V.i (Rc.x0 (rcF l i)), V.i (Rc.y0 (rcF l i)), V.i (Rc.x1 (rcF l i)), V.i (Rc.y1 (rcF l i)), V.b (Rc.down (rcF l i))])] kR kR ⟨oM, oM, tI⟩ ?_
    refine aops_nil ?_
    refine xt_n ?_
    refine hK _ ?_
    clear hK K
    refine aw_seq_k fun K hK => ?_
    refine w_region (n' := 4) kR kR ?_
    refine aops_n hTT (M := []) (n := 5) [pc (130 : Nat) ((0 : Nat) ≤ (1 : Nat)) (V.sl (5 : Nat) (List.length l) fun (k : Nat) => Rc.c (rcF l k)), pv (131 : Nat) (V.i (↑i : Int)), pc (132 : Nat) ((0 : Int) ≤ (0 : Int) ∧ (0 : Int) ≤ (↑i : Int) ∧ (↑i : Int) ≤ (↑(List.length l) : Int)) (V.sl (5 : Nat) (i - 0) fun (i : Nat) => Rc.c (rcF l (i + 0))), pv (133 : Nat) (V.i (↑(i - 0) : Int)), pv (134 : Nat) (V.i (0 : Int))] kR kR ⟨oM, ⟨oM, oM⟩, tI⟩ ?_
    refine aops_nil ?_
    refine xt_n ?_
    refine hK _ ?_
    clear hK K
    refine aw_block ?_
    refine w_loop (ι := Nat) (fun k => [(2, .ref 500 0), (3, .ref 501 0), (10, .ref 10 0), (123, V.rcs l.length (rcF l)), (124, .i l.length), (125, .i i), (132, V.rcs i (rcF l)), (133, .i i), (134, .i k)]) (fun k => [(500, .box 90 [V.rcs l.length (rcF l)]), (501, .box 25 [.i 0]), (10, .box 95 (rcF l i).c)]) (fun k => k ≤ i ∧ ∀ j, j < k → ¬ lapB l i j) (fun k => i - k) 0 ⟨Nat.zero_le _, fun j hj => by omega⟩ ?_ ?_
    · refine le_ren (sl := [(500, Ob.box (90 : Nat) [V.sl (5 : Nat) (List.length l) fun (k : Nat) => Rc.c (rcF l k)]), (501, Ob.box (25 : Nat) [V.i (0 : Int)]), (10, Ob.box (95 : Nat) [V.i (Rc.x0 (rcF l i)), V.i (Rc.y0 (rcF l i)), V.i (Rc.x1 (rcF l i)), V.i (Rc.y1 (rcF l i)), V.b (Rc.down (rcF l i))])]) [(10, 200010)] (.cons kR (.cons kR (.cons kR (.cons kR (.cons kR (.cons kR (.cons kR (.cons kR (.cons kR .nil))))))))) (.cons ⟨Ob.box (90 : Nat) [V.sl (5 : Nat) (List.length l) fun (k : Nat) => Rc.c (rcF l k)], kR, .box kR⟩ (.cons ⟨Ob.box (25 : Nat) [V.i (0 : Int)], kR, .box kR⟩ (.cons ⟨Ob.box (95 : Nat) [V.i (Rc.x0 (rcF l i)), V.i (Rc.y0 (rcF l i)), V.i (Rc.x1 (rcF l i)), V.i (Rc.y1 (rcF l i)), V.b (Rc.down (rcF l i))], kR, .box kR⟩ .nil))) kR kR
    rintro k ⟨hk, hM⟩
    refine aw_seq_k fun K hK => ?_
    refine w_region (n' := 2) kR kR ?_
    refine aops_n hTT (M := []) (n := 1) [pv (135 : Nat) (V.b (decide ((↑k : Int) < (↑i : Int))))] kR kR tI ?_
    refine aops_nil ?_
    refine xt_n ?_
    refine hK _ ?_
    clear hK K
    refine aw_seq_k fun K hK => ?_
    refine w_cond (t := decide ((↑k : Int) < (↑i : Int))) kR (fun c2 => ?_) (fun c2 => ?_)
    · simp at c2
      refine aw_skip ?_
      refine xt_n ?_
      refine hK _ ?_
      clear hK K
      refine aw_seq_k fun K hK => ?_
      refine aw_block ?_
      refine aw_seq_k fun K hK => ?_
      refine w_region (n' := 3) kR kR ?_
      refine aops_n hTT (M := []) (n := 4) [pc (136 : Nat) ((0 : Int) ≤ (↑k : Int) ∧ (↑k : Int) < (↑i : Int)) (V.ptr [V.i (Rc.x0 (rcF l k)), V.i (Rc.y0 (rcF l k)), V.i (Rc.x1 (rcF l k)), V.i (Rc.y1 (rcF l k)), V.b (Rc.down (rcF l k))]), pv (137 : Nat) (V.agg [V.i (Rc.x0 (rcF l k)), V.i (Rc.y0 (rcF l k)), V.i (Rc.x1 (rcF l k)), V.i (Rc.y1 (rcF l k)), V.b (Rc.down (rcF l k))]), pn (12 : Nat) (V.ref (200012 : Nat) (0 : Nat)) (200012 : Nat) (Ob.box (95 : Nat) [V.i (0 : Int), V.i (0 : Int), V.i (0 : Int), V.i (0 : Int), V.b false]), pw ((0 : Nat) + (5 : Nat) ≤ (5 : Nat)) (200012 : Nat) (Ob.box (95 : Nat) [V.i (Rc.x0 (rcF l k)), V.i (Rc.y0 (rcF l k)), V.i (Rc.x1 (rcF l k)), V.i (Rc.y1 (rcF l k)), V.b (Rc.down (rcF l k))])] kR kR ⟨oM, oM, tI⟩ ?_
      refine aops_nil ?_
      refine xt_n ?_
      refine hK _ ?_
      clear hK K
      refine aw_seq_k fun K hK => ?_
      refine w_region (n' := 4) kR kR ?_
      refine aops_n hTT (M := []) (n := 2) [pc (139 : Nat) ((0 : Nat) ≤ (5 : Nat)) (V.agg [V.i (Rc.x0 (rcF l i)), V.i (Rc.y0 (rcF l i)), V.i (Rc.x1 (rcF l i)), V.i (Rc.y1 (rcF l i)), V.b (Rc.down (rcF l i))]), pc (140 : Nat) ((0 : Nat) ≤ (5 : Nat)) (V.agg [V.i (Rc.x0 (rcF l k)), V.i (Rc.y0 (rcF l k)), V.i (Rc.x1 (rcF l k)), V.i (Rc.y1 (rcF l k)), V.b (Rc.down (rcF l k))])] kR kR ⟨oM, oM, tI⟩ ?_
      refine e_call (first := []) (caps := []) (common_ac _ _ (Rc.bd_mono (hbd i c1) oM) (Rc.bd_mono (hbd k oM) oM)) kR kR kR kR kR ?_
      refine aops_n hTT (M := []) (n := 5) [pv (138 : Nat) (V.tup [V.i (comW (rcF l i) (rcF l k)), V.i (comH (rcF l i) (rcF l k))]), pv (142 : Nat) (V.i (comW (rcF l i) (rcF l k))), pv (143 : Nat) (V.i (comH (rcF l i) (rcF l k))), pv (13 : Nat) (V.i (comW (rcF l i) (rcF l k))), pv (14 : Nat) (V.i (comH (rcF l i) (rcF l k)))] kR kR tI ?_
      refine aops_nil ?_
      refine xt_n ?_
      refine hK _ ?_
      clear hK K
      refine aw_must hMust hF 6 kR rfl kR (n' := 5) kR ?_
      refine aops_n hTT (M := []) (n := 6) [pv (144 : Nat) (V.i (comW (rcF l i) (rcF l k))), pv (145 : Nat) (V.b (decide (comW (rcF l i) (rcF l k) ≤ 0))), pv (146 : Nat) (V.b (decide (comW (rcF l i) (rcF l k) ≤ 0))), pc (147 : Nat) ((True ∧ True) ∧ ((decide (comW (rcF l i) (rcF l k) ≤ 0) == false) = true → True)) (V.gd (decide (comW (rcF l i) (rcF l k) ≤ 0) == false) (V.i (comH (rcF l i) (rcF l k)))), pc (148 : Nat) ((((decide (comW (rcF l i) (rcF l k) ≤ 0) == false) = true → (decide (comW (rcF l i) (rcF l k) ≤ 0) == false) = true) ∧ True ∧ True) ∧ ((decide (comW (rcF l i) (rcF l k) ≤ 0) == false) = true → True)) (V.gd (decide (comW (rcF l i) (rcF l k) ≤ 0) == false) (V.b (decide (comH (rcF l i) (rcF l k) ≤ 0)))), pc (149 : Nat) (True ∧ (decide (comW (rcF l i) (rcF l k) ≤ 0) = false → (decide (comW (rcF l i) (rcF l k) ≤ 0) == false) = true)) (V.b (decide (comW (rcF l i) (rcF l k) ≤ 0) || decide (comH (rcF l i) (rcF l k) ≤ 0)))] kR kR ⟨⟨⟨tI, tI⟩, (fun _ => tI)⟩, ⟨⟨(by (exact fun h => h)), ⟨tI, tI⟩⟩, (fun _ => tI)⟩, ⟨tI, (by (intro h; rw [h]; rfl))⟩, tI⟩ ?_
      refine aops_nil ?_
      refine ⟨decide (comW (rcF l i) (rcF l k) ≤ 0) || decide (comH (rcF l i) (rcF l k) ≤ 0), (20 : Int), kR, by kernel_rfl, fun h1 => ?_, fun h1 => ?_⟩
      rotate_left
      · have hl : lapB l i k := by unfold lapB; simp at h1; omega
        have hE2 := netE_lap hne hE c2 c1 hl
        refine xb_p ?_
        refine xt_p ?_
        refine xt_p ?_
        refine xb_p ?_
        refine xb_p ?_
        refine xt_p ?_
        refine xt_p ?_
        refine xb_p ?_
        refine xt_p ?_
        rw [flatV, if_neg oM, hE2]
        exact .inr ⟨_, _, _, _, _, rfl, rfl, rfl, rfl, rfl, rfl⟩
      have hl : ¬ lapB l i k := by unfold lapB; simp at h1; omega
      clear h1
      refine xb_n ?_
      refine xt_n ?_
      refine hK _ ?_
      clear hK K
      refine w_region (n' := 6) kR kR ?_
      refine aops_n hTT (M := []) (n := 2) [pc (151 : Nat) ((-9223372036854775808 : Int) ≤ (↑k : Int) + 1 ∧ (↑k : Int) + 1 ≤ (9223372036854775807 : Int)) (V.i ((↑k : Int) + 1)), pv (134 : Nat) (V.i ((↑k : Int) + 1))] kR kR ⟨oM, tI⟩ ?_
      refine aops_nil ?_
      refine xt_n ?_
      refine ⟨k + 1, ⟨by omega, fun j hj => ?_⟩, by refine le_ren (sl := [(500, Ob.box (90 : Nat) [V.sl (5 : Nat) (List.length l) fun (k : Nat) => Rc.c (rcF l k)]), (501, Ob.box (25 : Nat) [V.i (0 : Int)]), (10, Ob.box (95 : Nat) [V.i (Rc.x0 (rcF l i)), V.i (Rc.y0 (rcF l i)), V.i (Rc.x1 (rcF l i)), V.i (Rc.y1 (rcF l i)), V.b (Rc.down (rcF l i))])]) [(10, 10)] (.cons kR (.cons kR (.cons kR (.cons kR (.cons kR (.cons kR (.cons kR (.cons kR (.cons kR .nil))))))))) (.cons ⟨Ob.box (90 : Nat) [V.sl (5 : Nat) (List.length l) fun (k : Nat) => Rc.c (rcF l k)], kR, .box kR⟩ (.cons ⟨Ob.box (25 : Nat) [V.i (0 : Int)], kR, .box kR⟩ (.cons ⟨Ob.box (95 : Nat) [V.i (Rc.x0 (rcF l i)), V.i (Rc.y0 (rcF l i)), V.i (Rc.x1 (rcF l i)), V.i (Rc.y1 (rcF l i)), V.b (Rc.down (rcF l i))], kR, .box kR⟩ .nil))) kR kR, by omega⟩
      by_cases he : j = k
      · subst he; exact hl
      · exact hM j oM
    simp at c2
    obtain rfl : k = i := by omega
    refine aw_exit ?_
    refine xt_x ?_
    refine xt_x ?_
    refine xb_same ?_
    refine xb_n ?_
    refine xt_n ?_
    clear hK K
    refine hK _ ?_
    clear hK K
    refine w_region (n' := 3) kR kR ?_
    refine aops_n hTT (M := []) (n := 2) [pc (152 : Nat) ((-9223372036854775808 : Int) ≤ (↑k : Int) + 1 ∧ (↑k : Int) + 1 ≤ (9223372036854775807 : Int)) (V.i ((↑k : Int) + 1)), pv (125 : Nat) (V.i ((↑k : Int) + 1))] kR kR ⟨oM, tI⟩ ?_
    refine aops_nil ?_
    refine xt_n ?_
    refine ⟨k + 1, ⟨by omega, fun a b hb ha => ?_⟩, by refine le_ren (sl := [(500, Ob.box (90 : Nat) [V.sl (5 : Nat) (List.length l) fun (k : Nat) => Rc.c (rcF l k)]), (501, Ob.box (25 : Nat) [V.i (0 : Int)])]) [] (.cons kR (.cons kR (.cons kR (.cons kR (.cons kR .nil))))) (.cons ⟨Ob.box (90 : Nat) [V.sl (5 : Nat) (List.length l) fun (k : Nat) => Rc.c (rcF l k)], kR, .box kR⟩ (.cons ⟨Ob.box (25 : Nat) [V.i (0 : Int)], kR, .box kR⟩ .nil)) kR kR, by omega⟩
    by_cases he : a = k
    · subst he; exact hM b oM
    · exact hL a b hb oM
  simp at c1
  obtain rfl : i = l.length := by omega
  refine aw_exit ?_
  refine xt_x ?_
  refine xt_x ?_
  refine xb_same ?_
  refine xt_n ?_
  clear hK K
  refine hK _ ?_
  clear hK K
  refine aw_seq_k fun K hK => ?_
  refine w_region (n' := 3) kR kR ?_
  refine aops_n hTT (M := []) (n := 3) [pc (153 : Nat) ((0 : Nat) ≤ (1 : Nat)) (V.sl (5 : Nat) (List.length l) fun (k : Nat) => Rc.c (rcF l k)), pw ((0 : Nat) + (1 : Nat) ≤ (1 : Nat)) (500 : Nat) (Ob.box (90 : Nat) [V.sl (5 : Nat) (List.length l) fun (k : Nat) => Rc.c (rcF l k)]), pw ((0 : Nat) + (1 : Nat) ≤ (1 : Nat)) (501 : Nat) (Ob.box (25 : Nat) [V.i (0 : Int)])] kR kR ⟨oM, oM, oM, tI⟩ ?_
  refine aops_nil ?_
  refine xt_n ?_
  refine hK _ ?_
  clear hK K
  refine aw_ret ?_
  have hE2 := netE_ok hne hE hL
  rw [flatV, if_pos hE2]
  refine .inl ⟨.inr rfl, ?_⟩
  refine ret_of_le (le_freezeBox (t := (90 : Nat)) (cs := [V.sl (5 : Nat) (List.length l) fun (k : Nat) => Rc.c (rcF l k)]) 500 kR kR) ?_
  refine ret_of_le (le_freezeBox (t := (25 : Nat)) (cs := [V.i (0 : Int)]) 501 kR kR) ?_
  refine ret_pure (v' := V.tup [V.sl (5 : Nat) (List.length l) fun (k : Nat) => Rc.c (rcF l k), V.i (0 : Int)]) (.inr rfl) kR kR kR
end Go.Proofs.YtfckkkmacjjmhaaDoor

namespace Go.Proofs.YtfckkkmacjjmhaaDoor
open Go.Ab Go.RowKit Go.Dw Go.Shelf
def foldV (l : List Pan) : V := if netE l = 0 then .tup [V.rcs l.length (foldR l), .i 0] else .tup [.nil, .i (netE l)]
set_option maxHeartbeats 4000000 in
set_option maxRecDepth 100000 in
theorem folded_ac (l : List Pan) (hl : l.length ≤ 4611686018427387904) : AC Tryd.prog 62 [V.pans l] (foldV l) [] := by
  refine ac_intro hTT hMX (fn := Tryd.f62) (N := _) ⟨Tryd.func62, rfl, Tryd.ntmps62, kR⟩ (by simp) fun C hC hF => ?_
  have A := flat_ac l hl
  refine aw_seq_k fun K hK => ?_
  refine w_region (n' := 2) kR kR ?_
  refine aops_n hTT (M := []) (n := 2) [pv (2 : Nat) V.nil, pv (3 : Nat) (V.i (0 : Int))] kR kR tI ?_
  refine aops_nil ?_
  refine xt_n ?_
  refine hK _ ?_
  clear hK K
  refine aw_seq_k fun K hK => ?_
  refine w_region (n' := 3) kR kR ?_
  refine aops_n hTT (M := []) (n := 1) [pv (11 : Nat) (V.sl (5 : Nat) (List.length l) fun (k : Nat) => Pan.c (gpan l k))] kR kR tI ?_
  by_cases hE : netE l = 0
  · rw [flatV, if_pos hE] at A
    have hN := netOk hE
    have hle := hN.le
    refine e_call (first := []) (caps := []) (A) kR kR kR kR kR ?_
    refine aops_n hTT (M := []) (n := 5) [pv (10 : Nat) (V.tup [V.sl (5 : Nat) (List.length l) fun (k : Nat) => Rc.c (rcF l k), V.i (0 : Int)]), pv (13 : Nat) (V.sl (5 : Nat) (List.length l) fun (k : Nat) => Rc.c (rcF l k)), pv (14 : Nat) (V.i (0 : Int)), pv (4 : Nat) (V.sl (5 : Nat) (List.length l) fun (k : Nat) => Rc.c (rcF l k)), pv (5 : Nat) (V.i (0 : Int))] kR kR tI ?_
    refine aops_nil ?_
    refine xt_n ?_
    refine hK _ ?_
    clear hK K
    refine aw_seq_k fun K hK => ?_
    refine aw_seq_k fun K hK => ?_
    refine w_region (n' := 4) kR kR ?_
    refine aops_n hTT (M := []) (n := 2) [pv (15 : Nat) (V.i (0 : Int)), pv (16 : Nat) (V.b false)] kR kR tI ?_
    refine aops_nil ?_
    refine xt_n ?_
    refine hK _ ?_
    clear hK K
    refine w_false (t := false) kR rfl ?_
    refine aw_skip ?_
    refine xt_n ?_
    refine hK _ ?_
    clear hK K
    refine aw_seq_k fun K hK => ?_
    refine w_region (n' := 5) kR kR ?_
    refine aops_n hTT (M := []) (n := 1) [pv (6 : Nat) V.nil] kR kR tI ?_
    refine aops_nil ?_
    refine xt_n ?_
    refine hK _ ?_
    clear hK K
    refine aw_seq_k fun K hK => ?_
    refine aw_seq_k fun K hK => ?_
    refine w_region (n' := 6) kR kR ?_
    refine aops_n hTT (M := []) (n := 3) [pv (18 : Nat) (V.sl (5 : Nat) (List.length l) fun (k : Nat) => Rc.c (rcF l k)), pv (19 : Nat) (V.i (↑(List.length l) : Int)), pv (20 : Nat) (V.i (0 : Int))] kR kR tI ?_
    refine aops_nil ?_
    refine xt_n ?_
    refine hK _ ?_
    clear hK K
    refine aw_block ?_
    refine w_le (le_open 6 95 5 (fun k => (foldR l k).c) kR rfl) ?_
    refine w_loop (ι := Nat) (fun k => [(0, V.pans l), (4, V.rcs l.length (rcF l)), (6, .own 6), (18, V.rcs l.length (rcF l)), (19, .i l.length), (20, .i k)]) (fun k => [(6, .row 95 5 k fun j => (foldR l j).c)]) (fun k => k ≤ l.length) (fun k => l.length - k) 0 (Nat.zero_le _) ?_ ?_
    · refine le_ren (sl := [(6, Ob.row (95 : Nat) (5 : Nat) (0 : Nat) fun (j : Nat) => Rc.c (foldR l j))]) [(6, 600006)] (.cons kR (.cons kR (.cons kR (.cons kR (.cons kR (.cons kR .nil)))))) (.cons ⟨Ob.row (95 : Nat) (5 : Nat) (0 : Nat) fun (k : Nat) => Rc.c (foldR l k), kR, .row kR (fun _ _ => rfl)⟩ .nil) kR kR
    intro i hi
    refine aw_seq_k fun K hK => ?_
    refine w_region (n' := 2) kR kR ?_
    refine aops_n hTT (M := []) (n := 1) [pv (21 : Nat) (V.b (decide ((↑i : Int) < (↑(List.length l) : Int))))] kR kR tI ?_
    refine aops_nil ?_
    refine xt_n ?_
    refine hK _ ?_
    clear hK K
    refine aw_seq_k fun K hK => ?_
    refine w_cond (t := decide ((↑i : Int) < (↑(List.length l) : Int))) kR (fun c1 => ?_) (fun c1 => ?_)
    · simp at c1
      refine aw_skip ?_
      refine xt_n ?_
      refine hK _ ?_
      clear hK K
      refine aw_seq_k fun K hK => ?_
      refine aw_block ?_
      refine aw_seq_k fun K hK => ?_
      refine w_region (n' := 3) kR kR ?_
      refine aops_n hTT (M := []) (n := 6) [pv (22 : Nat) (V.i (↑i : Int)), pc (23 : Nat) ((0 : Int) ≤ (↑i : Int) ∧ (↑i : Int) < (↑(List.length l) : Int)) (V.ptr [V.i (Rc.x0 (rcF l i)), V.i (Rc.y0 (rcF l i)), V.i (Rc.x1 (rcF l i)), V.i (Rc.y1 (rcF l i)), V.b (Rc.down (rcF l i))]), pv (24 : Nat) (V.agg [V.i (Rc.x0 (rcF l i)), V.i (Rc.y0 (rcF l i)), V.i (Rc.x1 (rcF l i)), V.i (Rc.y1 (rcF l i)), V.b (Rc.down (rcF l i))]), pn (8 : Nat) (V.ref (200008 : Nat) (0 : Nat)) (200008 : Nat) (Ob.box (95 : Nat) [V.i (0 : Int), V.i (0 : Int), V.i (0 : Int), V.i (0 : Int), V.b false]), pv (7 : Nat) (V.i (↑i : Int)), pw ((0 : Nat) + (5 : Nat) ≤ (5 : Nat)) (200008 : Nat) (Ob.box (95 : Nat) [V.i (Rc.x0 (rcF l i)), V.i (Rc.y0 (rcF l i)), V.i (Rc.x1 (rcF l i)), V.i (Rc.y1 (rcF l i)), V.b (Rc.down (rcF l i))])] kR kR ⟨oM, oM, tI⟩ ?_
      refine aops_nil ?_
      refine xt_n ?_
      refine hK _ ?_
      clear hK K
      refine aw_seq_k fun K hK => ?_
      refine aw_seq_k fun K hK => ?_
      refine w_region (n' := 4) kR kR ?_
      refine aops_n hTT (M := []) (n := 2) [pv (25 : Nat) (V.i (↑i : Int)), pv (9 : Nat) (V.i (↑i : Int))] kR kR tI ?_
      refine aops_nil ?_
      refine xt_n ?_
      refine hK _ ?_
      clear hK K
      refine aw_block ?_
      refine w_loop (ι := Nat × Rc) (fun x => [(0, V.pans l), (4, V.rcs l.length (rcF l)), (6, .own 6), (8, .ref 8 0), (9, .i x.1), (18, V.rcs l.length (rcF l)), (19, .i l.length), (20, .i i)]) (fun x => [(6, .row 95 5 i fun j => (foldR l j).c), (8, .box 95 x.2.c)]) (fun x => x.1 ≤ i ∧ foldC l x.1 x.1 x.2 = foldR l i ∧ x.2.bd (1703936 * (1 + 2 * ((i : Int) - x.1)))) (fun x => x.1) (i, rcF l i) ⟨Nat.le_refl _, rfl, Rc.bd_mono (hN.bd i c1) oM⟩ ?_ ?_
      · refine le_ren (sl := [(6, Ob.row (95 : Nat) (5 : Nat) i fun (j : Nat) => Rc.c (foldR l j)), (8, Ob.box (95 : Nat) [V.i (Rc.x0 (rcF l i)), V.i (Rc.y0 (rcF l i)), V.i (Rc.x1 (rcF l i)), V.i (Rc.y1 (rcF l i)), V.b (Rc.down (rcF l i))])]) [(6, 6), (8, 200008)] (.cons kR (.cons kR (.cons kR (.cons kR (.cons kR (.cons kR (.cons kR (.cons kR .nil)))))))) (.cons ⟨Ob.row (95 : Nat) (5 : Nat) i fun (j : Nat) => Rc.c (foldR l j), kR, .row kR (fun _ _ => rfl)⟩ (.cons ⟨Ob.box (95 : Nat) [V.i (Rc.x0 (rcF l i)), V.i (Rc.y0 (rcF l i)), V.i (Rc.x1 (rcF l i)), V.i (Rc.y1 (rcF l i)), V.b (Rc.down (rcF l i))], kR, .box kR⟩ .nil)) kR kR
      rintro ⟨k, b⟩ ⟨hk, hb, hbd⟩
      simp only at hk hb hbd
      refine aw_seq_k fun K hK => ?_
      refine aw_seq_k fun K hK => ?_
      refine w_region (n' := 2) kR kR ?_
      refine aops_n hTT (M := []) (n := 2) [pv (26 : Nat) (V.i (↑k : Int)), pv (27 : Nat) (V.b (decide ((0 : Int) < (↑k : Int))))] kR kR tI ?_
      refine aops_nil ?_
      refine xt_n ?_
      refine hK _ ?_
      clear hK K
      refine w_cond (t := decide ((0 : Int) < (↑k : Int))) kR (fun c2 => ?_) (fun c2 => ?_)
      · simp at c2
        have hq := hN.on k c2 oM
        obtain ⟨⟨o1, o2⟩, _⟩ := hN.okI k c2 oM
        refine aw_skip ?_
        refine xt_n ?_
        refine hK _ ?_
        clear hK K
        refine aw_seq_k fun K hK => ?_
        refine aw_block ?_
        refine w_regionD (n' := 3) kR kR ?_
        refine aops_n hTT (M := []) (n := 14) [pc (33 : Nat) ((0 : Nat) ≤ (5 : Nat)) (V.agg [V.i (Rc.x0 b), V.i (Rc.y0 b), V.i (Rc.x1 b), V.i (Rc.y1 b), V.b (Rc.down b)]), pv (34 : Nat) (V.sl (5 : Nat) (List.length l) fun (k : Nat) => Rc.c (rcF l k)), pv (35 : Nat) (V.sl (5 : Nat) (List.length l) fun (k : Nat) => Pan.c (gpan l k)), pv (36 : Nat) (V.i (↑k : Int)), pc (37 : Nat) ((0 : Int) ≤ (↑k : Int) ∧ (↑k : Int) < (↑(List.length l) : Int)) (V.ptr [V.i (Pan.on (gpan l k)), V.i (Pan.edge (gpan l k)), V.i (Pan.off (gpan l k)), V.i (Pan.wide (gpan l k)), V.i (Pan.high (gpan l k))]), pv (38 : Nat) (V.ptr [V.i (Pan.on (gpan l k)), V.i (Pan.edge (gpan l k)), V.i (Pan.off (gpan l k)), V.i (Pan.wide (gpan l k)), V.i (Pan.high (gpan l k))]), pv (39 : Nat) (V.i (Pan.on (gpan l k))), pc (40 : Nat) ((0 : Int) ≤ Pan.on (gpan l k) ∧ Pan.on (gpan l k) < (↑(List.length l) : Int)) (V.ptr [V.i (Rc.x0 (rcF l (Int.toNat (Pan.on (gpan l k))))), V.i (Rc.y0 (rcF l (Int.toNat (Pan.on (gpan l k))))), V.i (Rc.x1 (rcF l (Int.toNat (Pan.on (gpan l k))))), V.i (Rc.y1 (rcF l (Int.toNat (Pan.on (gpan l k))))), V.b (Rc.down (rcF l (Int.toNat (Pan.on (gpan l k)))))]), pv (41 : Nat) (V.agg [V.i (Rc.x0 (rcF l (Int.toNat (Pan.on (gpan l k))))), V.i (Rc.y0 (rcF l (Int.toNat (Pan.on (gpan l k))))), V.i (Rc.x1 (rcF l (Int.toNat (Pan.on (gpan l k))))), V.i (Rc.y1 (rcF l (Int.toNat (Pan.on (gpan l k))))), V.b (Rc.down (rcF l (Int.toNat (Pan.on (gpan l k)))))]), pv (42 : Nat) (V.sl (5 : Nat) (List.length l) fun (k : Nat) => Pan.c (gpan l k)), pv (43 : Nat) (V.i (↑k : Int)), pc (44 : Nat) ((0 : Int) ≤ (↑k : Int) ∧ (↑k : Int) < (↑(List.length l) : Int)) (V.ptr [V.i (Pan.on (gpan l k)), V.i (Pan.edge (gpan l k)), V.i (Pan.off (gpan l k)), V.i (Pan.wide (gpan l k)), V.i (Pan.high (gpan l k))]), pv (45 : Nat) (V.ptr [V.i (Pan.edge (gpan l k)), V.i (Pan.off (gpan l k)), V.i (Pan.wide (gpan l k)), V.i (Pan.high (gpan l k))]), pv (46 : Nat) (V.i (Pan.edge (gpan l k)))] kR kR ⟨oM, oM, oM, oM, tI⟩ ?_
        refine e_call (first := []) (caps := []) (over_ac b (rcF l (gpan l k).on.toNat) (gpan l k).edge (Rc.bd_mono hbd oM) (Rc.bd_mono (hN.bd _ oM) oM)) kR kR kR kR kR ?_
        refine aops_n hTT (M := []) (n := 1) [pw ((0 : Nat) + (5 : Nat) ≤ (5 : Nat)) (8 : Nat) (Ob.box (95 : Nat) [V.i (Rc.x0 (mirR b (rcF l (Int.toNat (Pan.on (gpan l k)))) (Pan.edge (gpan l k)))), V.i (Rc.y0 (mirR b (rcF l (Int.toNat (Pan.on (gpan l k)))) (Pan.edge (gpan l k)))), V.i (Rc.x1 (mirR b (rcF l (Int.toNat (Pan.on (gpan l k)))) (Pan.edge (gpan l k)))), V.i (Rc.y1 (mirR b (rcF l (Int.toNat (Pan.on (gpan l k)))) (Pan.edge (gpan l k)))), V.b (Rc.down (mirR b (rcF l (Int.toNat (Pan.on (gpan l k)))) (Pan.edge (gpan l k))))])] kR kR ⟨oM, tI⟩ ?_
        refine aops_nil ⟨kR, ?_⟩
        refine xb_n ?_
        refine xt_n ?_
        refine hK _ ?_
        clear hK K
        refine w_region (n' := 4) kR kR ?_
        refine aops_n hTT (M := []) (n := 6) [pv (28 : Nat) (V.sl (5 : Nat) (List.length l) fun (k : Nat) => Pan.c (gpan l k)), pv (29 : Nat) (V.i (↑k : Int)), pc (30 : Nat) ((0 : Int) ≤ (↑k : Int) ∧ (↑k : Int) < (↑(List.length l) : Int)) (V.ptr [V.i (Pan.on (gpan l k)), V.i (Pan.edge (gpan l k)), V.i (Pan.off (gpan l k)), V.i (Pan.wide (gpan l k)), V.i (Pan.high (gpan l k))]), pv (31 : Nat) (V.ptr [V.i (Pan.on (gpan l k)), V.i (Pan.edge (gpan l k)), V.i (Pan.off (gpan l k)), V.i (Pan.wide (gpan l k)), V.i (Pan.high (gpan l k))]), pv (32 : Nat) (V.i (Pan.on (gpan l k))), pv (9 : Nat) (V.i (Pan.on (gpan l k)))] kR kR ⟨oM, tI⟩ ?_
        refine aops_nil ?_
        refine xt_n ?_
        refine ⟨((gpan l k).on.toNat, mirR b (rcF l (gpan l k).on.toNat) (gpan l k).edge), ⟨by simp only; omega, by simp only; rw [← foldC_step hN.on b c2 oM]; exact hb, Rc.bd_mono (mirR_bd hbd (hN.bd _ oM) oM oM) (by simp only; omega)⟩, ?_, by simp only; omega⟩
        refine le_ren (tl := [(0, V.sl (5 : Nat) (List.length l) fun (k : Nat) => Pan.c (gpan l k)), (4, V.sl (5 : Nat) (List.length l) fun (k : Nat) => Rc.c (rcF l k)), (6, V.own (6 : Nat)), (8, V.ref (8 : Nat) (0 : Nat)), (9, V.i (↑(Int.toNat (Pan.on (gpan l k))) : Int)), (18, V.sl (5 : Nat) (List.length l) fun (k : Nat) => Rc.c (rcF l k)), (19, V.i (↑(List.length l) : Int)), (20, V.i (↑i : Int))]) (sl := [(6, Ob.row (95 : Nat) (5 : Nat) i fun (j : Nat) => Rc.c (foldR l j)), (8, Ob.box (95 : Nat) [V.i (Rc.x0 (mirR b (rcF l (Int.toNat (Pan.on (gpan l k)))) (Pan.edge (gpan l k)))), V.i (Rc.y0 (mirR b (rcF l (Int.toNat (Pan.on (gpan l k)))) (Pan.edge (gpan l k)))), V.i (Rc.x1 (mirR b (rcF l (Int.toNat (Pan.on (gpan l k)))) (Pan.edge (gpan l k)))), V.i (Rc.y1 (mirR b (rcF l (Int.toNat (Pan.on (gpan l k)))) (Pan.edge (gpan l k)))), V.b (Rc.down (mirR b (rcF l (Int.toNat (Pan.on (gpan l k)))) (Pan.edge (gpan l k))))])]) [(6, 6), (8, 8)] (.cons kR (.cons kR (.cons kR (.cons kR (.cons ?_ (.cons kR (.cons kR (.cons kR .nil)))))))) (.cons ⟨Ob.row (95 : Nat) (5 : Nat) i fun (j : Nat) => Rc.c (foldR l j), kR, .row kR (fun _ _ => rfl)⟩ (.cons ⟨Ob.box (95 : Nat) [V.i (Rc.x0 (mirR b (rcF l (Int.toNat (Pan.on (gpan l k)))) (Pan.edge (gpan l k)))), V.i (Rc.y0 (mirR b (rcF l (Int.toNat (Pan.on (gpan l k)))) (Pan.edge (gpan l k)))), V.i (Rc.x1 (mirR b (rcF l (Int.toNat (Pan.on (gpan l k)))) (Pan.edge (gpan l k)))), V.i (Rc.y1 (mirR b (rcF l (Int.toNat (Pan.on (gpan l k)))) (Pan.edge (gpan l k)))), V.b (Rc.down (mirR b (rcF l (Int.toNat (Pan.on (gpan l k)))) (Pan.edge (gpan l k))))], kR, .box kR⟩ .nil)) kR kR
        exact congrArg V.i (show (gpan l k).on = ((gpan l k).on.toNat : Int) by omega)
      simp at c2
      subst c2
      simp only [foldC] at hb
      subst hb
      refine aw_exit ?_
      refine xt_x ?_
      refine xt_x ?_
      refine xb_same ?_
      refine xt_n ?_
      clear hK K
      refine hK _ ?_
      clear hK K
      refine w_region (n' := 3) kR kR ?_
      refine aops_n hTT (M := []) (n := 5) [pv (48 : Nat) (V.own (6 : Nat)), pc (49 : Nat) ((0 : Nat) ≤ (5 : Nat)) (V.agg [V.i (Rc.x0 (foldR l i)), V.i (Rc.y0 (foldR l i)), V.i (Rc.x1 (foldR l i)), V.i (Rc.y1 (foldR l i)), V.b (Rc.down (foldR l i))]), pv (50 : Nat) (V.sl (5 : Nat) (1 : Nat) fun (i_1 : Nat) => List.take (5 : Nat) (List.drop (i_1 * 5) [V.i (Rc.x0 (foldR l i)), V.i (Rc.y0 (foldR l i)), V.i (Rc.x1 (foldR l i)), V.i (Rc.y1 (foldR l i)), V.b (Rc.down (foldR l i))])), PR.mk (some (51 : Nat)) (some (i + 1 ≤ (1099511627776 : Nat))) (V.own (200051 : Nat)) [((6 : Nat), none), ((200051 : Nat), some (Ob.row (95 : Nat) (5 : Nat) (i + 1) (appRow i (fun (j : Nat) => Rc.c (foldR l j)) fun (i_1 : Nat) => List.take (5 : Nat) (List.drop (i_1 * 5) [V.i (Rc.x0 (foldR l i)), V.i (Rc.y0 (foldR l i)), V.i (Rc.x1 (foldR l i)), V.i (Rc.y1 (foldR l i)), V.b (Rc.down (foldR l i))]))))] false, pv (6 : Nat) (V.own (200051 : Nat))] kR kR ⟨oM, oM, tI⟩ ?_
      refine aops_nil ?_
      refine xb_n ?_
      refine xt_n ?_
      refine hK _ ?_
      clear hK K
      refine w_region (n' := 4) kR kR ?_
      refine aops_n hTT (M := []) (n := 2) [pc (52 : Nat) ((-9223372036854775808 : Int) ≤ (↑i : Int) + 1 ∧ (↑i : Int) + 1 ≤ (9223372036854775807 : Int)) (V.i ((↑i : Int) + 1)), pv (20 : Nat) (V.i ((↑i : Int) + 1))] kR kR ⟨oM, tI⟩ ?_
      refine aops_nil ?_
      refine xt_n ?_
      refine ⟨i + 1, by omega, ?_, by omega⟩
      refine le_ren (tl := [(0, V.sl (5 : Nat) (List.length l) fun (k : Nat) => Pan.c (gpan l k)), (4, V.sl (5 : Nat) (List.length l) fun (k : Nat) => Rc.c (rcF l k)), (6, V.own (6 : Nat)), (18, V.sl (5 : Nat) (List.length l) fun (k : Nat) => Rc.c (rcF l k)), (19, V.i (↑(List.length l) : Int)), (20, V.i (↑(i + 1) : Int))]) (sl := [(6, Ob.row (95 : Nat) (5 : Nat) (i + 1) fun (j : Nat) => Rc.c (foldR l j))]) [(6, 200051)] (.cons kR (.cons kR (.cons kR (.cons kR (.cons kR (.cons kR .nil)))))) (.cons ⟨Ob.row (95 : Nat) (5 : Nat) (i + 1) (appRow i (fun (j : Nat) => Rc.c (foldR l j)) fun (i_1 : Nat) => List.take (5 : Nat) (List.drop (i_1 * 5) [V.i (Rc.x0 (foldR l i)), V.i (Rc.y0 (foldR l i)), V.i (Rc.x1 (foldR l i)), V.i (Rc.y1 (foldR l i)), V.b (Rc.down (foldR l i))])), kR, .row kR ?_⟩ .nil) kR kR
      exact appRow_ok (fun _ _ => rfl) rfl
    simp at c1
    obtain rfl : i = l.length := by omega
    refine aw_exit ?_
    refine xt_x ?_
    refine xt_x ?_
    refine xb_same ?_
    refine xt_n ?_
    clear hK K
    refine hK _ ?_
    clear hK K
    refine aw_seq_k fun K hK => ?_
    refine w_region (n' := 3) kR kR ?_
    refine aops_n hTT (M := []) (n := 3) [pv (53 : Nat) (V.own (6 : Nat)), pv (2 : Nat) (V.own (6 : Nat)), pv (3 : Nat) (V.i (0 : Int))] kR kR tI ?_
    refine aops_nil ?_
    refine xt_n ?_
    refine hK _ ?_
    clear hK K
    refine aw_ret ?_
    rw [foldV, if_pos hE]
    refine ret_of_le (le_shut 2 6 (e := (95 : Nat)) (sz := (5 : Nat)) (n := List.length l) (n' := l.length) (row := fun (j : Nat) => Rc.c (foldR l j)) (row' := (fun j => (foldR l j).c)) kR kR (fun _ _ => rfl) ?_ ?_) ?_
    · rfl
    · exact fun _ _ => rfl
    refine ret_pure (v' := V.tup [V.sl (5 : Nat) (List.length l) fun (j : Nat) => Rc.c (foldR l j), V.i (0 : Int)]) (.inr rfl) kR kR kR
  · rw [flatV, if_neg hE] at A
    refine e_call (first := []) (caps := []) (A) kR kR kR kR kR ?_
    refine aops_n hTT (M := []) (n := 5) [pv (10 : Nat) (V.tup [V.nil, V.i (netE l)]), pv (13 : Nat) V.nil, pv (14 : Nat) (V.i (netE l)), pv (4 : Nat) V.nil, pv (5 : Nat) (V.i (netE l))] kR kR tI ?_
    refine aops_nil ?_
    refine xt_n ?_
    refine hK _ ?_
    clear hK K
    refine aw_seq_k fun K hK => ?_
    refine aw_seq_k fun K hK => ?_
    refine w_region (n' := 4) kR kR ?_
    refine aops_n hTT (M := []) (n := 2) [pv (15 : Nat) (V.i (netE l)), pv (16 : Nat) (V.b !decide (netE l = 0))] kR kR tI ?_
    refine aops_nil ?_
    refine xt_n ?_
    refine hK _ ?_
    clear hK K
    refine w_cond (t := !decide (netE l = 0)) kR (fun c1 => ?_) (fun c1 => ?_)
    · refine aw_seq_k fun K hK => ?_
      refine w_region (n' := 5) kR kR ?_
      refine aops_n hTT (M := []) (n := 3) [pv (17 : Nat) (V.i (netE l)), pv (2 : Nat) V.nil, pv (3 : Nat) (V.i (netE l))] kR kR tI ?_
      refine aops_nil ?_
      refine xt_n ?_
      refine hK _ ?_
      clear hK K
      refine aw_ret ?_
      refine xt_r ?_
      rw [foldV, if_neg hE]
      refine ret_pure (v' := V.tup [V.nil, V.i (netE l)]) (.inr rfl) kR kR kR
    · simp at c1
      exact absurd c1 hE
set_option maxRecDepth 100000 in
theorem patches_ac (n : Nat) (f : Nat → Rc) (e : Int) (hn : n ≤ 4096) : AC Tryd.prog 61 [V.rcs n f, .i e] (.tup [V.rcs n f, .i e]) [] := by
  refine ac_intro hTT hMX (fn := Tryd.f61) (N := _) ⟨Tryd.func61, rfl, Tryd.ntmps61, kR⟩ (by simp) fun C hC hF => ?_
  refine aw_seq_k fun K hK => ?_
  refine w_region (n' := 2) kR kR ?_
  refine aops_n hTT (M := []) (n := 2) [pv (4 : Nat) V.nil, pv (5 : Nat) (V.i (0 : Int))] kR kR tI ?_
  refine aops_nil ?_
  refine xt_n ?_
  refine hK _ ?_
  clear hK K
  refine aw_seq_k fun K hK => ?_
  refine w_region (n' := 3) kR kR ?_
  refine aops_n hTT (M := []) (n := 1) [pv (6 : Nat) V.nil] kR kR tI ?_
  refine aops_nil ?_
  refine xt_n ?_
  refine hK _ ?_
  clear hK K
  refine aw_seq_k fun K hK => ?_
  refine aw_seq_k fun K hK => ?_
  refine w_region (n' := 4) kR kR ?_
  refine aops_n hTT (M := []) (n := 3) [pv (9 : Nat) (V.sl (5 : Nat) n fun (k : Nat) => Rc.c (f k)), pv (10 : Nat) (V.i (↑n : Int)), pv (11 : Nat) (V.i (0 : Int))] kR kR tI ?_
  refine aops_nil ?_
  refine xt_n ?_
  refine hK _ ?_
  clear hK K
  refine aw_block ?_
  refine w_le (le_open 6 52 5 (fun k => (f k).c) kR rfl) ?_
  refine w_loop (ι := Nat) (fun k => [(1, .i e), (6, .own 6), (9, V.rcs n f), (10, .i n), (11, .i k)]) (fun k => [(6, .row 52 5 k fun j => (f j).c)]) (fun k => k ≤ n) (fun k => n - k) 0 (Nat.zero_le _) ?_ ?_
  · refine le_ren (sl := [(6, Ob.row (52 : Nat) (5 : Nat) (0 : Nat) fun (j : Nat) => Rc.c (f j))]) [(6, 400006)] (.cons kR (.cons kR (.cons kR (.cons kR (.cons kR .nil))))) (.cons ⟨Ob.row (52 : Nat) (5 : Nat) (0 : Nat) fun (k : Nat) => Rc.c (f k), kR, .row kR (fun _ _ => rfl)⟩ .nil) kR kR
  intro i hi
  refine aw_seq_k fun K hK => ?_
  refine w_region (n' := 2) kR kR ?_
  refine aops_n hTT (M := []) (n := 1) [pv (12 : Nat) (V.b (decide ((↑i : Int) < (↑n : Int))))] kR kR tI ?_
  refine aops_nil ?_
  refine xt_n ?_
  refine hK _ ?_
  clear hK K
  refine aw_seq_k fun K hK => ?_
  refine w_cond (t := decide ((↑i : Int) < (↑n : Int))) kR (fun c1 => ?_) (fun c1 => ?_)
  · simp at c1
    refine aw_skip ?_
    refine xt_n ?_
    refine hK _ ?_
    clear hK K
    refine aw_seq_k fun K hK => ?_
    refine aw_block ?_
    refine aw_seq_k fun K hK => ?_
    refine w_region (n' := 3) kR kR ?_
    refine aops_n hTT (M := []) (n := 4) [pc (13 : Nat) ((0 : Int) ≤ (↑i : Int) ∧ (↑i : Int) < (↑n : Int)) (V.ptr [V.i (Rc.x0 (f i)), V.i (Rc.y0 (f i)), V.i (Rc.x1 (f i)), V.i (Rc.y1 (f i)), V.b (Rc.down (f i))]), pv (14 : Nat) (V.agg [V.i (Rc.x0 (f i)), V.i (Rc.y0 (f i)), V.i (Rc.x1 (f i)), V.i (Rc.y1 (f i)), V.b (Rc.down (f i))]), pn (8 : Nat) (V.ref (200008 : Nat) (0 : Nat)) (200008 : Nat) (Ob.box (95 : Nat) [V.i (0 : Int), V.i (0 : Int), V.i (0 : Int), V.i (0 : Int), V.b false]), pw ((0 : Nat) + (5 : Nat) ≤ (5 : Nat)) (200008 : Nat) (Ob.box (95 : Nat) [V.i (Rc.x0 (f i)), V.i (Rc.y0 (f i)), V.i (Rc.x1 (f i)), V.i (Rc.y1 (f i)), V.b (Rc.down (f i))])] kR kR ⟨oM, oM, tI⟩ ?_
    refine aops_nil ?_
    refine xt_n ?_
    refine hK _ ?_
    clear hK K
    refine w_region (n' := 4) kR kR ?_
    refine aops_n hTT (M := []) (n := 6) [pv (15 : Nat) (V.own (6 : Nat)), pv (16 : Nat) (V.ref (200008 : Nat) (0 : Nat)), pc (17 : Nat) ((0 : Nat) ≤ (5 : Nat)) (V.agg [V.i (Rc.x0 (f i)), V.i (Rc.y0 (f i)), V.i (Rc.x1 (f i)), V.i (Rc.y1 (f i)), V.b (Rc.down (f i))]), pv (18 : Nat) (V.sl (5 : Nat) (1 : Nat) fun (i_1 : Nat) => List.take (5 : Nat) (List.drop (i_1 * 5) [V.i (Rc.x0 (f i)), V.i (Rc.y0 (f i)), V.i (Rc.x1 (f i)), V.i (Rc.y1 (f i)), V.b (Rc.down (f i))])), PR.mk (some (19 : Nat)) (some (i + 1 ≤ (1099511627776 : Nat))) (V.own (300019 : Nat)) [((6 : Nat), none), ((300019 : Nat), some (Ob.row (52 : Nat) (5 : Nat) (i + 1) (appRow i (fun (j : Nat) => Rc.c (f j)) fun (i_1 : Nat) => List.take (5 : Nat) (List.drop (i_1 * 5) [V.i (Rc.x0 (f i)), V.i (Rc.y0 (f i)), V.i (Rc.x1 (f i)), V.i (Rc.y1 (f i)), V.b (Rc.down (f i))]))))] false, pv (6 : Nat) (V.own (300019 : Nat))] kR kR ⟨oM, oM, tI⟩ ?_
    refine aops_nil ?_
    refine xb_n ?_
    refine xt_n ?_
    refine hK _ ?_
    clear hK K
    refine w_region (n' := 5) kR kR ?_
    refine aops_n hTT (M := []) (n := 2) [pc (20 : Nat) ((-9223372036854775808 : Int) ≤ (↑i : Int) + 1 ∧ (↑i : Int) + 1 ≤ (9223372036854775807 : Int)) (V.i ((↑i : Int) + 1)), pv (11 : Nat) (V.i ((↑i : Int) + 1))] kR kR ⟨oM, tI⟩ ?_
    refine aops_nil ?_
    refine xt_n ?_
    refine ⟨i + 1, by omega, ?_, by omega⟩
    refine le_ren (tl := [(1, V.i e), (6, V.own (6 : Nat)), (9, V.sl (5 : Nat) n fun (k : Nat) => Rc.c (f k)), (10, V.i (↑n : Int)), (11, V.i (↑(i + 1) : Int))]) (sl := [(6, Ob.row (52 : Nat) (5 : Nat) (i + 1) fun (j : Nat) => Rc.c (f j))]) [(6, 300019)] (.cons kR (.cons kR (.cons kR (.cons kR (.cons kR .nil))))) (.cons ⟨Ob.row (52 : Nat) (5 : Nat) (i + 1) (appRow i (fun (j : Nat) => Rc.c (f j)) fun (i_1 : Nat) => List.take (5 : Nat) (List.drop (i_1 * 5) [V.i (Rc.x0 (f i)), V.i (Rc.y0 (f i)), V.i (Rc.x1 (f i)), V.i (Rc.y1 (f i)), V.b (Rc.down (f i))])), kR, .row kR ?_⟩ .nil) kR kR
    exact appRow_ok (fun _ _ => rfl) rfl
  simp at c1
  obtain rfl : i = n := by omega
  refine aw_exit ?_
  refine xt_x ?_
  refine xt_x ?_
  refine xb_same ?_
  refine xt_n ?_
  clear hK K
  refine hK _ ?_
  clear hK K
  refine aw_seq_k fun K hK => ?_
  refine w_region (n' := 3) kR kR ?_
  refine aops_n hTT (M := []) (n := 4) [pv (21 : Nat) (V.own (6 : Nat)), pv (22 : Nat) (V.i e), pv (4 : Nat) (V.own (6 : Nat)), pv (5 : Nat) (V.i e)] kR kR tI ?_
  refine aops_nil ?_
  refine xt_n ?_
  refine hK _ ?_
  clear hK K
  refine aw_ret ?_
  refine ret_of_le (le_shut 4 6 (e := (52 : Nat)) (sz := (5 : Nat)) (n := i) (n' := i) (row := fun (j : Nat) => Rc.c (f j)) (row' := (fun j => (f j).c)) kR kR (fun _ _ => rfl) ?_ ?_) ?_
  · rfl
  · exact fun _ _ => rfl
  refine ret_pure (v' := V.tup [V.sl (5 : Nat) i fun (j : Nat) => Rc.c (f j), V.i e]) (.inr rfl) kR kR kR
theorem RImp_nil (sz : Nat) (row : Nat → List V) : RImp .nil (.sl sz 0 row) := fun w L x h => by
  cases h; exact .sl0 _ _ _ _ _
theorem netN_1 {l : List Pan} (h : netE l = 0) : netN l = l.length := by rw [netN, if_pos h]
theorem netN_2 {l : List Pan} (h : ¬ netE l = 0) : netN l = 0 := by rw [netN, if_neg h]
set_option maxRecDepth 100000 in
theorem Folded_ac (l : List Pan) (hl : l.length ≤ 4611686018427387904) : AC Tryd.prog 28 [V.pans l] (.tup [V.rcs (netN l) (foldR l), .i (netE l)]) [] := by
  refine ac_intro hTT hMX (fn := Tryd.f28) (N := _) ⟨Tryd.func28, rfl, Tryd.ntmps28, kR⟩ (by simp) fun C hC hF => ?_
  have A := folded_ac l hl
  refine aw_seq_k fun K hK => ?_
  refine w_region (n' := 2) kR kR ?_
  refine aops_n hTT (M := []) (n := 2) [pv (2 : Nat) V.nil, pv (3 : Nat) (V.i (0 : Int))] kR kR tI ?_
  refine aops_nil ?_
  refine xt_n ?_
  refine hK _ ?_
  clear hK K
  refine aw_seq_k fun K hK => ?_
  refine w_region (n' := 3) kR kR ?_
  refine aops_n hTT (M := []) (n := 1) [pv (4 : Nat) (V.sl (5 : Nat) (List.length l) fun (k : Nat) => Pan.c (gpan l k))] kR kR tI ?_
  by_cases hE : netE l = 0
  · rw [foldV, if_pos hE] at A
    have hN := netOk hE
    have hle := hN.le
    refine e_call (first := []) (caps := []) (A) kR kR kR kR kR ?_
    refine aops_n hTT (M := []) (n := 2) [pv (6 : Nat) (V.sl (5 : Nat) (List.length l) fun (k : Nat) => Rc.c (foldR l k)), pv (7 : Nat) (V.i (0 : Int))] kR kR tI ?_
    refine e_call (first := []) (caps := []) (patches_ac l.length (foldR l) 0 oM) kR kR kR kR kR ?_
    refine aops_n hTT (M := []) (n := 4) [pv (9 : Nat) (V.sl (5 : Nat) (List.length l) fun (k : Nat) => Rc.c (foldR l k)), pv (10 : Nat) (V.i (0 : Int)), pv (2 : Nat) (V.sl (5 : Nat) (List.length l) fun (k : Nat) => Rc.c (foldR l k)), pv (3 : Nat) (V.i (0 : Int))] kR kR tI ?_
    refine aops_nil ?_
    refine xt_n ?_
    refine hK _ ?_
    clear hK K
    refine aw_ret ?_
    rw [netN_1 hE, hE]
    refine ret_pure (v' := V.tup [V.sl (5 : Nat) (List.length l) fun (k : Nat) => Rc.c (foldR l k), V.i (0 : Int)]) (.inr rfl) kR kR kR
  · rw [foldV, if_neg hE] at A
    refine e_call (first := []) (caps := []) (A) kR kR kR kR kR ?_
    refine aops_n hTT (M := []) (n := 2) [pv (6 : Nat) V.nil, pv (7 : Nat) (V.i (netE l))] kR kR tI ?_
    refine e_call (first := []) (caps := []) (AC.conv (patches_ac 0 (foldR l) (netE l) oM) (args' := [V.nil, V.i (netE l)]) ⟨?_, RImp.refl _, trivial⟩) kR kR kR kR kR ?_
    · exact RImp_nil _ _
    refine aops_n hTT (M := []) (n := 4) [pv (9 : Nat) (V.sl (5 : Nat) (0 : Nat) fun (k : Nat) => Rc.c (foldR l k)), pv (10 : Nat) (V.i (netE l)), pv (2 : Nat) (V.sl (5 : Nat) (0 : Nat) fun (k : Nat) => Rc.c (foldR l k)), pv (3 : Nat) (V.i (netE l))] kR kR tI ?_
    refine aops_nil ?_
    refine xt_n ?_
    refine hK _ ?_
    clear hK K
    refine aw_ret ?_
    rw [netN_2 hE]
    refine ret_pure (v' := V.tup [V.sl (5 : Nat) (0 : Nat) fun (k : Nat) => Rc.c (foldR l k), V.i (netE l)]) (.inr rfl) kR kR kR
set_option maxRecDepth 100000 in
theorem Layers_ac (l : List Pan) (x y : Int) (hl : l.length ≤ 4611686018427387904) : AC Tryd.prog 33 [V.pans l, .i x, .i y] (.tup [.i (cntL (foldR l) x y (netN l) : Nat), .i (netE l)]) [] := by
  refine ac_intro hTT hMX (fn := Tryd.f33) (N := _) ⟨Tryd.func33, rfl, Tryd.ntmps33, kR⟩ (by simp) fun C hC hF => ?_
  have A := folded_ac l hl
  refine aw_seq_k fun K hK => ?_
  refine w_region (n' := 2) kR kR ?_
  refine aops_n hTT (M := []) (n := 2) [pv (6 : Nat) (V.i (0 : Int)), pv (7 : Nat) (V.i (0 : Int))] kR kR tI ?_
  refine aops_nil ?_
  refine xt_n ?_
  refine hK _ ?_
  clear hK K
  refine aw_seq_k fun K hK => ?_
  refine w_region (n' := 3) kR kR ?_
  refine aops_n hTT (M := []) (n := 1) [pv (14 : Nat) (V.sl (5 : Nat) (List.length l) fun (k : Nat) => Pan.c (gpan l k))] kR kR tI ?_
  by_cases hE : netE l = 0
  · rw [foldV, if_pos hE] at A
    have hN := netOk hE
    have hle := hN.le
    refine e_call (first := []) (caps := []) (A) kR kR kR kR kR ?_
    refine aops_n hTT (M := []) (n := 5) [pv (13 : Nat) (V.tup [V.sl (5 : Nat) (List.length l) fun (k : Nat) => Rc.c (foldR l k), V.i (0 : Int)]), pv (16 : Nat) (V.sl (5 : Nat) (List.length l) fun (k : Nat) => Rc.c (foldR l k)), pv (17 : Nat) (V.i (0 : Int)), pv (8 : Nat) (V.sl (5 : Nat) (List.length l) fun (k : Nat) => Rc.c (foldR l k)), pv (9 : Nat) (V.i (0 : Int))] kR kR tI ?_
    refine aops_nil ?_
    refine xt_n ?_
    refine hK _ ?_
    clear hK K
    refine aw_seq_k fun K hK => ?_
    refine w_region (n' := 4) kR kR ?_
    refine aops_n hTT (M := []) (n := 1) [pv (10 : Nat) (V.i (0 : Int))] kR kR tI ?_
    refine aops_nil ?_
    refine xt_n ?_
    refine hK _ ?_
    clear hK K
    refine aw_seq_k fun K hK => ?_
    refine aw_seq_k fun K hK => ?_
    refine w_region (n' := 5) kR kR ?_
    refine aops_n hTT (M := []) (n := 3) [pv (18 : Nat) (V.sl (5 : Nat) (List.length l) fun (k : Nat) => Rc.c (foldR l k)), pv (19 : Nat) (V.i (↑(List.length l) : Int)), pv (20 : Nat) (V.i (0 : Int))] kR kR tI ?_
    refine aops_nil ?_
    refine xt_n ?_
    refine hK _ ?_
    clear hK K
    refine aw_block ?_
    refine w_loop (ι := Nat) (fun k => [(1, .i x), (2, .i y), (9, .i 0), (10, .i (cntL (foldR l) x y k : Nat)), (18, V.rcs l.length (foldR l)), (19, .i l.length), (20, .i k)]) (fun k => []) (fun k => k ≤ l.length) (fun k => l.length - k) 0 (Nat.zero_le _) ?_ ?_
    · refine le_ren [] (.cons kR (.cons kR (.cons kR (.cons kR (.cons kR (.cons kR (.cons kR .nil))))))) .nil kR kR
    intro k hk
    have hcl := cntL_le (foldR l) x y k
    refine aw_seq_k fun K hK => ?_
    refine w_region (n' := 2) kR kR ?_
    refine aops_n hTT (M := []) (n := 1) [pv (21 : Nat) (V.b (decide ((↑k : Int) < (↑(List.length l) : Int))))] kR kR tI ?_
    refine aops_nil ?_
    refine xt_n ?_
    refine hK _ ?_
    clear hK K
    refine aw_seq_k fun K hK => ?_
    refine w_cond (t := decide ((↑k : Int) < (↑(List.length l) : Int))) kR (fun c1 => ?_) (fun c1 => ?_)
    · simp at c1
      refine aw_skip ?_
      refine xt_n ?_
      refine hK _ ?_
      clear hK K
      refine aw_seq_k fun K hK => ?_
      refine aw_block ?_
      refine aw_seq_k fun K hK => ?_
      refine w_region (n' := 3) kR kR ?_
      refine aops_n hTT (M := []) (n := 4) [pc (22 : Nat) ((0 : Int) ≤ (↑k : Int) ∧ (↑k : Int) < (↑(List.length l) : Int)) (V.ptr [V.i (Rc.x0 (foldR l k)), V.i (Rc.y0 (foldR l k)), V.i (Rc.x1 (foldR l k)), V.i (Rc.y1 (foldR l k)), V.b (Rc.down (foldR l k))]), pv (23 : Nat) (V.agg [V.i (Rc.x0 (foldR l k)), V.i (Rc.y0 (foldR l k)), V.i (Rc.x1 (foldR l k)), V.i (Rc.y1 (foldR l k)), V.b (Rc.down (foldR l k))]), pn (12 : Nat) (V.ref (200012 : Nat) (0 : Nat)) (200012 : Nat) (Ob.box (95 : Nat) [V.i (0 : Int), V.i (0 : Int), V.i (0 : Int), V.i (0 : Int), V.b false]), pw ((0 : Nat) + (5 : Nat) ≤ (5 : Nat)) (200012 : Nat) (Ob.box (95 : Nat) [V.i (Rc.x0 (foldR l k)), V.i (Rc.y0 (foldR l k)), V.i (Rc.x1 (foldR l k)), V.i (Rc.y1 (foldR l k)), V.b (Rc.down (foldR l k))])] kR kR ⟨oM, oM, tI⟩ ?_
      refine aops_nil ?_
      refine xt_n ?_
      refine hK _ ?_
      clear hK K
      refine aw_seq_k fun K hK => ?_
      refine w_region (n' := 4) kR kR ?_
      refine aops_n hTT (M := []) (n := 26) [pv (24 : Nat) (V.i x), pv (25 : Nat) (V.ref (200012 : Nat) (0 : Nat)), pv (26 : Nat) (V.ref (200012 : Nat) (0 : Nat)), pc (27 : Nat) ((0 : Nat) ≤ (5 : Nat)) (V.i (Rc.x0 (foldR l k))), pv (28 : Nat) (V.b (decide (Rc.x0 (foldR l k) ≤ x))), pv (29 : Nat) (V.b (decide (Rc.x0 (foldR l k) ≤ x))), pc (30 : Nat) ((True ∧ True) ∧ ((decide (Rc.x0 (foldR l k) ≤ x) == true) = true → True)) (V.gd (decide (Rc.x0 (foldR l k) ≤ x) == true) (V.i x)), pc (31 : Nat) ((True ∧ True) ∧ ((decide (Rc.x0 (foldR l k) ≤ x) == true) = true → True)) (V.gd (decide (Rc.x0 (foldR l k) ≤ x) == true) (V.ref (200012 : Nat) (0 : Nat))), pc (32 : Nat) ((((decide (Rc.x0 (foldR l k) ≤ x) == true) = true → (decide (Rc.x0 (foldR l k) ≤ x) == true) = true) ∧ True) ∧ ((decide (Rc.x0 (foldR l k) ≤ x) == true) = true → True)) (V.gd (decide (Rc.x0 (foldR l k) ≤ x) == true) (V.ref (200012 : Nat) (2 : Nat))), pc (33 : Nat) ((((decide (Rc.x0 (foldR l k) ≤ x) == true) = true → (decide (Rc.x0 (foldR l k) ≤ x) == true) = true) ∧ True) ∧ ((decide (Rc.x0 (foldR l k) ≤ x) == true) = true → (2 : Nat) ≤ (5 : Nat))) (V.gd (decide (Rc.x0 (foldR l k) ≤ x) == true) (V.i (Rc.x1 (foldR l k)))), pc (34 : Nat) ((((decide (Rc.x0 (foldR l k) ≤ x) == true) = true → (decide (Rc.x0 (foldR l k) ≤ x) == true) = true) ∧ ((decide (Rc.x0 (foldR l k) ≤ x) == true) = true → (decide (Rc.x0 (foldR l k) ≤ x) == true) = true) ∧ True) ∧ ((decide (Rc.x0 (foldR l k) ≤ x) == true) = true → True)) (V.gd (decide (Rc.x0 (foldR l k) ≤ x) == true) (V.b (decide (x < Rc.x1 (foldR l k))))), pc (35 : Nat) ((decide (Rc.x0 (foldR l k) ≤ x) = true → (decide (Rc.x0 (foldR l k) ≤ x) == true) = true) ∧ True) (V.b (decide (Rc.x0 (foldR l k) ≤ x) && decide (x < Rc.x1 (foldR l k)))), pv (36 : Nat) (V.b (decide (Rc.x0 (foldR l k) ≤ x) && decide (x < Rc.x1 (foldR l k)))), pc (37 : Nat) ((True ∧ True) ∧ (((decide (Rc.x0 (foldR l k) ≤ x) && decide (x < Rc.x1 (foldR l k))) == true) = true → True)) (V.gd ((decide (Rc.x0 (foldR l k) ≤ x) && decide (x < Rc.x1 (foldR l k))) == true) (V.i y)), pc (38 : Nat) ((True ∧ True) ∧ (((decide (Rc.x0 (foldR l k) ≤ x) && decide (x < Rc.x1 (foldR l k))) == true) = true → True)) (V.gd ((decide (Rc.x0 (foldR l k) ≤ x) && decide (x < Rc.x1 (foldR l k))) == true) (V.ref (200012 : Nat) (0 : Nat))), pc (39 : Nat) (((((decide (Rc.x0 (foldR l k) ≤ x) && decide (x < Rc.x1 (foldR l k))) == true) = true → ((decide (Rc.x0 (foldR l k) ≤ x) && decide (x < Rc.x1 (foldR l k))) == true) = true) ∧ True) ∧ (((decide (Rc.x0 (foldR l k) ≤ x) && decide (x < Rc.x1 (foldR l k))) == true) = true → True)) (V.gd ((decide (Rc.x0 (foldR l k) ≤ x) && decide (x < Rc.x1 (foldR l k))) == true) (V.ref (200012 : Nat) (1 : Nat))), pc (40 : Nat) (((((decide (Rc.x0 (foldR l k) ≤ x) && decide (x < Rc.x1 (foldR l k))) == true) = true → ((decide (Rc.x0 (foldR l k) ≤ x) && decide (x < Rc.x1 (foldR l k))) == true) = true) ∧ True) ∧ (((decide (Rc.x0 (foldR l k) ≤ x) && decide (x < Rc.x1 (foldR l k))) == true) = true → (1 : Nat) ≤ (5 : Nat))) (V.gd ((decide (Rc.x0 (foldR l k) ≤ x) && decide (x < Rc.x1 (foldR l k))) == true) (V.i (Rc.y0 (foldR l k)))), pc (41 : Nat) (((((decide (Rc.x0 (foldR l k) ≤ x) && decide (x < Rc.x1 (foldR l k))) == true) = true → ((decide (Rc.x0 (foldR l k) ≤ x) && decide (x < Rc.x1 (foldR l k))) == true) = true) ∧ (((decide (Rc.x0 (foldR l k) ≤ x) && decide (x < Rc.x1 (foldR l k))) == true) = true → ((decide (Rc.x0 (foldR l k) ≤ x) && decide (x < Rc.x1 (foldR l k))) == true) = true) ∧ True) ∧ (((decide (Rc.x0 (foldR l k) ≤ x) && decide (x < Rc.x1 (foldR l k))) == true) = true → True)) (V.gd ((decide (Rc.x0 (foldR l k) ≤ x) && decide (x < Rc.x1 (foldR l k))) == true) (V.b (decide (Rc.y0 (foldR l k) ≤ y)))), pc (42 : Nat) (((decide (Rc.x0 (foldR l k) ≤ x) && decide (x < Rc.x1 (foldR l k))) = true → ((decide (Rc.x0 (foldR l k) ≤ x) && decide (x < Rc.x1 (foldR l k))) == true) = true) ∧ True) (V.b (decide (Rc.x0 (foldR l k) ≤ x) && decide (x < Rc.x1 (foldR l k)) && decide (Rc.y0 (foldR l k) ≤ y))), pv (43 : Nat) (V.b (decide (Rc.x0 (foldR l k) ≤ x) && decide (x < Rc.x1 (foldR l k)) && decide (Rc.y0 (foldR l k) ≤ y))), pc (44 : Nat) ((True ∧ True) ∧ (((decide (Rc.x0 (foldR l k) ≤ x) && decide (x < Rc.x1 (foldR l k)) && decide (Rc.y0 (foldR l k) ≤ y)) == true) = true → True)) (V.gd ((decide (Rc.x0 (foldR l k) ≤ x) && decide (x < Rc.x1 (foldR l k)) && decide (Rc.y0 (foldR l k) ≤ y)) == true) (V.i y)), pc (45 : Nat) ((True ∧ True) ∧ (((decide (Rc.x0 (foldR l k) ≤ x) && decide (x < Rc.x1 (foldR l k)) && decide (Rc.y0 (foldR l k) ≤ y)) == true) = true → True)) (V.gd ((decide (Rc.x0 (foldR l k) ≤ x) && decide (x < Rc.x1 (foldR l k)) && decide (Rc.y0 (foldR l k) ≤ y)) == true) (V.ref (200012 : Nat) (0 : Nat))), pc (46 : Nat) (((((decide (Rc.x0 (foldR l k) ≤ x) && decide (x < Rc.x1 (foldR l k)) && decide (Rc.y0 (foldR l k) ≤ y)) == true) = true → ((decide (Rc.x0 (foldR l k) ≤ x) && decide (x < Rc.x1 (foldR l k)) && decide (Rc.y0 (foldR l k) ≤ y)) == true) = true) ∧ True) ∧ (((decide (Rc.x0 (foldR l k) ≤ x) && decide (x < Rc.x1 (foldR l k)) && decide (Rc.y0 (foldR l k) ≤ y)) == true) = true → True)) (V.gd ((decide (Rc.x0 (foldR l k) ≤ x) && decide (x < Rc.x1 (foldR l k)) && decide (Rc.y0 (foldR l k) ≤ y)) == true) (V.ref (200012 : Nat) (3 : Nat))), pc (47 : Nat) (((((decide (Rc.x0 (foldR l k) ≤ x) && decide (x < Rc.x1 (foldR l k)) && decide (Rc.y0 (foldR l k) ≤ y)) == true) = true → ((decide (Rc.x0 (foldR l k) ≤ x) && decide (x < Rc.x1 (foldR l k)) && decide (Rc.y0 (foldR l k) ≤ y)) == true) = true) ∧ True) ∧ (((decide (Rc.x0 (foldR l k) ≤ x) && decide (x < Rc.x1 (foldR l k)) && decide (Rc.y0 (foldR l k) ≤ y)) == true) = true → (3 : Nat) ≤ (5 : Nat))) (V.gd ((decide (Rc.x0 (foldR l k) ≤ x) && decide (x < Rc.x1 (foldR l k)) && decide (Rc.y0 (foldR l k) ≤ y)) == true) (V.i (Rc.y1 (foldR l k)))), pc (48 : Nat) (((((decide (Rc.x0 (foldR l k) ≤ x) && decide (x < Rc.x1 (foldR l k)) && decide (Rc.y0 (foldR l k) ≤ y)) == true) = true → ((decide (Rc.x0 (foldR l k) ≤ x) && decide (x < Rc.x1 (foldR l k)) && decide (Rc.y0 (foldR l k) ≤ y)) == true) = true) ∧ (((decide (Rc.x0 (foldR l k) ≤ x) && decide (x < Rc.x1 (foldR l k)) && decide (Rc.y0 (foldR l k) ≤ y)) == true) = true → ((decide (Rc.x0 (foldR l k) ≤ x) && decide (x < Rc.x1 (foldR l k)) && decide (Rc.y0 (foldR l k) ≤ y)) == true) = true) ∧ True) ∧ (((decide (Rc.x0 (foldR l k) ≤ x) && decide (x < Rc.x1 (foldR l k)) && decide (Rc.y0 (foldR l k) ≤ y)) == true) = true → True)) (V.gd ((decide (Rc.x0 (foldR l k) ≤ x) && decide (x < Rc.x1 (foldR l k)) && decide (Rc.y0 (foldR l k) ≤ y)) == true) (V.b (decide (y < Rc.y1 (foldR l k))))), pc (49 : Nat) (((decide (Rc.x0 (foldR l k) ≤ x) && decide (x < Rc.x1 (foldR l k)) && decide (Rc.y0 (foldR l k) ≤ y)) = true → ((decide (Rc.x0 (foldR l k) ≤ x) && decide (x < Rc.x1 (foldR l k)) && decide (Rc.y0 (foldR l k) ≤ y)) == true) = true) ∧ True) (V.b (decide (Rc.x0 (foldR l k) ≤ x) && decide (x < Rc.x1 (foldR l k)) && decide (Rc.y0 (foldR l k) ≤ y) && decide (y < Rc.y1 (foldR l k))))] kR kR ⟨oM, ⟨⟨tI, tI⟩, (fun _ => tI)⟩, ⟨⟨tI, tI⟩, (fun _ => tI)⟩, ⟨⟨(by (exact fun h => h)), tI⟩, (fun _ => tI)⟩, ⟨⟨(by (exact fun h => h)), tI⟩, (by (intro _; simp; done))⟩, ⟨⟨(by (exact fun h => h)), ⟨(by (exact fun h => h)), tI⟩⟩, (fun _ => tI)⟩, ⟨(by (intro h; rw [h]; rfl)), tI⟩, ⟨⟨tI, tI⟩, (fun _ => tI)⟩, ⟨⟨tI, tI⟩, (fun _ => tI)⟩, ⟨⟨(by (exact fun h => h)), tI⟩, (fun _ => tI)⟩, ⟨⟨(by (exact fun h => h)), tI⟩, (by (intro _; simp; done))⟩, ⟨⟨(by (exact fun h => h)), ⟨(by (exact fun h => h)), tI⟩⟩, (fun _ => tI)⟩, ⟨(by (intro h; rw [h]; rfl)), tI⟩, ⟨⟨tI, tI⟩, (fun _ => tI)⟩, ⟨⟨tI, tI⟩, (fun _ => tI)⟩, ⟨⟨(by (exact fun h => h)), tI⟩, (fun _ => tI)⟩, ⟨⟨(by (exact fun h => h)), tI⟩, (by (intro _; simp; done))⟩, ⟨⟨(by (exact fun h => h)), ⟨(by (exact fun h => h)), tI⟩⟩, (fun _ => tI)⟩, ⟨(by (intro h; rw [h]; rfl)), tI⟩, tI⟩ ?_
      refine aops_nil ?_
      refine xt_n ?_
      refine hK _ ?_
      clear hK K
      refine w_cond (t := decide (Rc.x0 (foldR l k) ≤ x) && decide (x < Rc.x1 (foldR l k)) && decide (Rc.y0 (foldR l k) ≤ y) && decide (y < Rc.y1 (foldR l k))) kR (fun c2 => ?_) (fun c2 => ?_)
      · have h2 : inB (foldR l k) x y = true := by simp at c2; simp [inB]; omega
        have e2 : ((cntL (foldR l) x y k : Nat) : Int) + 1 = (cntL (foldR l) x y (k + 1) : Nat) := by rw [cntL, if_pos h2]; omega
        refine w_region (n' := 5) kR kR ?_
        refine aops_n hTT (M := []) (n := 3) [pv (50 : Nat) (V.i (↑(cntL (foldR l) x y k) : Int)), pc (51 : Nat) ((-9223372036854775808 : Int) ≤ (↑(cntL (foldR l) x y k) : Int) + 1 ∧ (↑(cntL (foldR l) x y k) : Int) + 1 ≤ (9223372036854775807 : Int)) (V.i ((↑(cntL (foldR l) x y k) : Int) + 1)), pv (10 : Nat) (V.i ((↑(cntL (foldR l) x y k) : Int) + 1))] kR kR ⟨oM, tI⟩ ?_
        refine aops_nil ?_
        refine xb_n ?_
        refine xt_n ?_
        refine hK _ ?_
        clear hK K
        refine w_region (n' := 6) kR kR ?_
        refine aops_n hTT (M := []) (n := 2) [pc (52 : Nat) ((-9223372036854775808 : Int) ≤ (↑k : Int) + 1 ∧ (↑k : Int) + 1 ≤ (9223372036854775807 : Int)) (V.i ((↑k : Int) + 1)), pv (20 : Nat) (V.i ((↑k : Int) + 1))] kR kR ⟨oM, tI⟩ ?_
        refine aops_nil ?_
        refine xt_n ?_
        rw [e2]
        skip
        refine ⟨k + 1, by omega, by refine le_ren [] (.cons kR (.cons kR (.cons kR (.cons kR (.cons kR (.cons kR (.cons kR .nil))))))) .nil kR kR, by omega⟩
      · have h2 : ¬ inB (foldR l k) x y = true := by simp at c2; simp [inB]; omega
        have e2 : cntL (foldR l) x y k = cntL (foldR l) x y (k + 1) := by rw [cntL, if_neg h2]; rfl
        refine aw_skip ?_
        refine xb_n ?_
        refine xt_n ?_
        refine hK _ ?_
        clear hK K
        refine w_region (n' := 5) kR kR ?_
        refine aops_n hTT (M := []) (n := 2) [pc (52 : Nat) ((-9223372036854775808 : Int) ≤ (↑k : Int) + 1 ∧ (↑k : Int) + 1 ≤ (9223372036854775807 : Int)) (V.i ((↑k : Int) + 1)), pv (20 : Nat) (V.i ((↑k : Int) + 1))] kR kR ⟨oM, tI⟩ ?_
        refine aops_nil ?_
        refine xt_n ?_
        refine ⟨k + 1, by omega, ?_, by omega⟩
        show Le _ _
        rw [e2]
        refine le_ren [] (.cons kR (.cons kR (.cons kR (.cons kR (.cons kR (.cons kR (.cons kR .nil))))))) .nil kR kR
    simp at c1
    obtain rfl : k = l.length := by omega
    refine aw_exit ?_
    refine xt_x ?_
    refine xt_x ?_
    refine xb_same ?_
    refine xt_n ?_
    clear hK K
    refine hK _ ?_
    clear hK K
    refine aw_seq_k fun K hK => ?_
    refine w_region (n' := 3) kR kR ?_
    refine aops_n hTT (M := []) (n := 4) [pv (53 : Nat) (V.i (↑(cntL (foldR l) x y (List.length l)) : Int)), pv (54 : Nat) (V.i (0 : Int)), pv (6 : Nat) (V.i (↑(cntL (foldR l) x y (List.length l)) : Int)), pv (7 : Nat) (V.i (0 : Int))] kR kR tI ?_
    refine aops_nil ?_
    refine xt_n ?_
    refine hK _ ?_
    clear hK K
    refine aw_ret ?_
    rw [netN_1 hE, hE]
    refine ret_pure (v' := V.tup [V.i (↑(cntL (foldR l) x y (List.length l)) : Int), V.i (0 : Int)]) (.inr rfl) kR kR kR
  · rw [foldV, if_neg hE] at A
    refine e_call (first := []) (caps := []) (A) kR kR kR kR kR ?_
    refine aops_n hTT (M := []) (n := 5) [pv (13 : Nat) (V.tup [V.nil, V.i (netE l)]), pv (16 : Nat) V.nil, pv (17 : Nat) (V.i (netE l)), pv (8 : Nat) V.nil, pv (9 : Nat) (V.i (netE l))] kR kR tI ?_
    refine aops_nil ?_
    refine xt_n ?_
    refine hK _ ?_
    clear hK K
    refine aw_seq_k fun K hK => ?_
    refine w_region (n' := 4) kR kR ?_
    refine aops_n hTT (M := []) (n := 1) [pv (10 : Nat) (V.i (0 : Int))] kR kR tI ?_
    refine aops_nil ?_
    refine xt_n ?_
    refine hK _ ?_
    clear hK K
    refine aw_seq_k fun K hK => ?_
    refine aw_seq_k fun K hK => ?_
    refine w_region (n' := 5) kR kR ?_
    refine aops_n hTT (M := []) (n := 3) [pv (18 : Nat) V.nil, pv (19 : Nat) (V.i (0 : Int)), pv (20 : Nat) (V.i (0 : Int))] kR kR tI ?_
    refine aops_nil ?_
    refine xt_n ?_
    refine hK _ ?_
    clear hK K
    refine aw_block ?_
    refine w_loop (ι := Nat) (fun k => [(9, .i (netE l)), (10, .i 0), (18, .nil), (19, .i 0), (20, .i 0)]) (fun k => []) (fun k => True) (fun k => k) 0 trivial ?_ ?_
    · refine le_ren [] (.cons kR (.cons kR (.cons kR (.cons kR (.cons kR .nil))))) .nil kR kR
    intro k _
    refine aw_seq_k fun K hK => ?_
    refine w_region (n' := 2) kR kR ?_
    refine aops_n hTT (M := []) (n := 1) [pv (21 : Nat) (V.b false)] kR kR tI ?_
    refine aops_nil ?_
    refine xt_n ?_
    refine hK _ ?_
    clear hK K
    refine aw_seq_k fun K hK => ?_
    refine w_false (t := false) kR rfl ?_
    refine aw_exit ?_
    refine xt_x ?_
    refine xt_x ?_
    refine xb_same ?_
    refine xt_n ?_
    clear hK K
    refine hK _ ?_
    clear hK K
    refine aw_seq_k fun K hK => ?_
    refine w_region (n' := 3) kR kR ?_
    refine aops_n hTT (M := []) (n := 4) [pv (53 : Nat) (V.i (0 : Int)), pv (54 : Nat) (V.i (netE l)), pv (6 : Nat) (V.i (0 : Int)), pv (7 : Nat) (V.i (netE l))] kR kR tI ?_
    refine aops_nil ?_
    refine xt_n ?_
    refine hK _ ?_
    clear hK K
    refine aw_ret ?_
    rw [netN_2 hE]
    refine ret_pure (v' := V.tup [V.i (0 : Int), V.i (netE l)]) (.inr rfl) kR kR kR
set_option maxHeartbeats 4000000 in
set_option maxRecDepth 100000 in
theorem Pocket_ac (l : List Pan) (a b : Int) (hl : l.length ≤ 4611686018427387904) : AC Tryd.prog 32 [V.pans l, .i a, .i b] (.tup [.agg (pockR l a b).c, .i (pockE l a b)]) [] := by
  refine ac_intro hTT hMX (fn := Tryd.f32) (N := _) ⟨Tryd.func32, rfl, Tryd.ntmps32, kR⟩ (by simp) fun C hC hF => ?_
  have A := folded_ac l hl
  refine aw_seq_k fun K hK => ?_
  refine w_region (n' := 2) kR kR ?_
  refine aops_n hTT (M := []) (n := 2) [pn (6 : Nat) (V.ref (100006 : Nat) (0 : Nat)) (100006 : Nat) (Ob.box (52 : Nat) [V.i (0 : Int), V.i (0 : Int), V.i (0 : Int), V.i (0 : Int), V.b false]), pv (7 : Nat) (V.i (0 : Int))] kR kR tI ?_
  refine aops_nil ?_
  refine xt_n ?_
  refine hK _ ?_
  clear hK K
  refine aw_seq_k fun K hK => ?_
  refine w_region (n' := 3) kR kR ?_
  refine aops_n hTT (M := []) (n := 1) [pv (15 : Nat) (V.sl (5 : Nat) (List.length l) fun (k : Nat) => Pan.c (gpan l k))] kR kR tI ?_
  by_cases hE : netE l = 0
  · rw [foldV, if_pos hE] at A
    have hN := netOk hE
    have hle := hN.le
    refine e_call (first := []) (caps := []) (A) kR kR kR kR kR ?_
    refine aops_n hTT (M := []) (n := 5) [pv (14 : Nat) (V.tup [V.sl (5 : Nat) (List.length l) fun (k : Nat) => Rc.c (foldR l k), V.i (0 : Int)]), pv (17 : Nat) (V.sl (5 : Nat) (List.length l) fun (k : Nat) => Rc.c (foldR l k)), pv (18 : Nat) (V.i (0 : Int)), pv (8 : Nat) (V.sl (5 : Nat) (List.length l) fun (k : Nat) => Rc.c (foldR l k)), pv (9 : Nat) (V.i (0 : Int))] kR kR tI ?_
    refine aops_nil ?_
    refine xt_n ?_
    refine hK _ ?_
    clear hK K
    refine aw_seq_k fun K hK => ?_
    refine aw_seq_k fun K hK => ?_
    refine w_region (n' := 4) kR kR ?_
    refine aops_n hTT (M := []) (n := 2) [pv (19 : Nat) (V.i (0 : Int)), pv (20 : Nat) (V.b false)] kR kR tI ?_
    refine aops_nil ?_
    refine xt_n ?_
    refine hK _ ?_
    clear hK K
    refine w_false (t := false) kR rfl ?_
    refine aw_skip ?_
    refine xt_n ?_
    refine hK _ ?_
    clear hK K
    refine aw_seq_k fun K hK => ?_
    refine aw_seq_k fun K hK => ?_
    refine w_region (n' := 5) kR kR ?_
    refine aops_n hTT (M := []) (n := 17) [pv (23 : Nat) (V.i a), pv (24 : Nat) (V.i b), pv (25 : Nat) (V.i (min a b)), pv (26 : Nat) (V.b (decide (min a b < 0))), pv (27 : Nat) (V.b (decide (min a b < 0))), pc (28 : Nat) ((True ∧ True) ∧ ((decide (min a b < 0) == false) = true → True)) (V.gd (decide (min a b < 0) == false) (V.i a)), pc (29 : Nat) ((True ∧ True) ∧ ((decide (min a b < 0) == false) = true → True)) (V.gd (decide (min a b < 0) == false) (V.i b)), pc (30 : Nat) ((((decide (min a b < 0) == false) = true → (decide (min a b < 0) == false) = true) ∧ ((decide (min a b < 0) == false) = true → (decide (min a b < 0) == false) = true) ∧ True) ∧ ((decide (min a b < 0) == false) = true → True)) (V.gd (decide (min a b < 0) == false) (V.i (max a b))), pc (31 : Nat) ((True ∧ True) ∧ ((decide (min a b < 0) == false) = true → True)) (V.gd (decide (min a b < 0) == false) (V.sl (5 : Nat) (List.length l) fun (k : Nat) => Rc.c (foldR l k))), pc (32 : Nat) ((((decide (min a b < 0) == false) = true → (decide (min a b < 0) == false) = true) ∧ True) ∧ ((decide (min a b < 0) == false) = true → True)) (V.gd (decide (min a b < 0) == false) (V.i (↑(List.length l) : Int))), pc (33 : Nat) ((((decide (min a b < 0) == false) = true → (decide (min a b < 0) == false) = true) ∧ ((decide (min a b < 0) == false) = true → (decide (min a b < 0) == false) = true) ∧ True) ∧ ((decide (min a b < 0) == false) = true → True)) (V.gd (decide (min a b < 0) == false) (V.b (decide ((↑(List.length l) : Int) ≤ max a b)))), pc (34 : Nat) (True ∧ (decide (min a b < 0) = false → (decide (min a b < 0) == false) = true)) (V.b (decide (min a b < 0) || decide ((↑(List.length l) : Int) ≤ max a b))), pv (35 : Nat) (V.b (decide (min a b < 0) || decide ((↑(List.length l) : Int) ≤ max a b))), pc (36 : Nat) ((True ∧ True) ∧ (((decide (min a b < 0) || decide ((↑(List.length l) : Int) ≤ max a b)) == false) = true → True)) (V.gd ((decide (min a b < 0) || decide ((↑(List.length l) : Int) ≤ max a b)) == false) (V.i a)), pc (37 : Nat) ((True ∧ True) ∧ (((decide (min a b < 0) || decide ((↑(List.length l) : Int) ≤ max a b)) == false) = true → True)) (V.gd ((decide (min a b < 0) || decide ((↑(List.length l) : Int) ≤ max a b)) == false) (V.i b)), pc (38 : Nat) (((((decide (min a b < 0) || decide ((↑(List.length l) : Int) ≤ max a b)) == false) = true → ((decide (min a b < 0) || decide ((↑(List.length l) : Int) ≤ max a b)) == false) = true) ∧ (((decide (min a b < 0) || decide ((↑(List.length l) : Int) ≤ max a b)) == false) = true → ((decide (min a b < 0) || decide ((↑(List.length l) : Int) ≤ max a b)) == false) = true) ∧ True) ∧ (((decide (min a b < 0) || decide ((↑(List.length l) : Int) ≤ max a b)) == false) = true → True)) (V.gd ((decide (min a b < 0) || decide ((↑(List.length l) : Int) ≤ max a b)) == false) (V.b (decide (a = b)))), pc (39 : Nat) (True ∧ ((decide (min a b < 0) || decide ((↑(List.length l) : Int) ≤ max a b)) = false → ((decide (min a b < 0) || decide ((↑(List.length l) : Int) ≤ max a b)) == false) = true)) (V.b (decide (min a b < 0) || decide ((↑(List.length l) : Int) ≤ max a b) || decide (a = b)))] kR kR ⟨⟨⟨tI, tI⟩, (fun _ => tI)⟩, ⟨⟨tI, tI⟩, (fun _ => tI)⟩, ⟨⟨(by (exact fun h => h)), ⟨(by (exact fun h => h)), tI⟩⟩, (fun _ => tI)⟩, ⟨⟨tI, tI⟩, (fun _ => tI)⟩, ⟨⟨(by (exact fun h => h)), tI⟩, (fun _ => tI)⟩, ⟨⟨(by (exact fun h => h)), ⟨(by (exact fun h => h)), tI⟩⟩, (fun _ => tI)⟩, ⟨tI, (by (intro h; rw [h]; rfl))⟩, ⟨⟨tI, tI⟩, (fun _ => tI)⟩, ⟨⟨tI, tI⟩, (fun _ => tI)⟩, ⟨⟨(by (exact fun h => h)), ⟨(by (exact fun h => h)), tI⟩⟩, (fun _ => tI)⟩, ⟨tI, (by (intro h; rw [h]; rfl))⟩, tI⟩ ?_
    refine aops_nil ?_
    refine xt_n ?_
    refine hK _ ?_
    clear hK K
    refine w_cond (t := decide (min a b < 0) || decide ((↑(List.length l) : Int) ≤ max a b) || decide (a = b)) kR (fun c1 => ?_) (fun c1 => ?_)
    · have h2 : ¬ pockOk l a b := by unfold pockOk; simp at c1; omega
      refine aw_seq_k fun K hK => ?_
      refine w_region (n' := 6) kR kR ?_
      refine aops_n hTT (M := []) (n := 3) [pv (40 : Nat) (V.agg [V.i (0 : Int), V.i (0 : Int), V.i (0 : Int), V.i (0 : Int), V.b false]), pw ((0 : Nat) + (5 : Nat) ≤ (5 : Nat)) (100006 : Nat) (Ob.box (52 : Nat) [V.i (0 : Int), V.i (0 : Int), V.i (0 : Int), V.i (0 : Int), V.b false]), pv (7 : Nat) (V.i (3 : Int))] kR kR ⟨oM, tI⟩ ?_
      refine aops_nil ?_
      refine xt_n ?_
      refine hK _ ?_
      clear hK K
      refine aw_ret ?_
      refine xt_r ?_
      refine ret_of_le (le_freezeBox (t := (52 : Nat)) (cs := [V.i (0 : Int), V.i (0 : Int), V.i (0 : Int), V.i (0 : Int), V.b false]) 100006 kR kR) ?_
      rw [pockR, pock_2 hE h2, if_neg oM]
      refine ret_pure (v' := V.tup [V.agg [V.i (0 : Int), V.i (0 : Int), V.i (0 : Int), V.i (0 : Int), V.b false], V.i (3 : Int)]) (.inr rfl) kR kR kR
    have h2 : pockOk l a b := by unfold pockOk; simp at c1; omega
    have h3 := h2
    obtain ⟨⟨a1, a2⟩, ⟨a3, a4⟩, a5⟩ := h3
    have b1 := foldR_bd hN (i := a.toNat) oM
    have b2 := foldR_bd hN (i := b.toNat) oM
    clear c1
    refine aw_skip ?_
    refine xt_n ?_
    refine hK _ ?_
    clear hK K
    refine aw_seq_k fun K hK => ?_
    refine w_regionD (n' := 6) kR kR ?_
    refine aops_n hTT (M := []) (n := 8) [pv (42 : Nat) (V.sl (5 : Nat) (List.length l) fun (k : Nat) => Rc.c (foldR l k)), pv (43 : Nat) (V.i a), pc (44 : Nat) ((0 : Int) ≤ a ∧ a < (↑(List.length l) : Int)) (V.ptr [V.i (Rc.x0 (foldR l (Int.toNat a))), V.i (Rc.y0 (foldR l (Int.toNat a))), V.i (Rc.x1 (foldR l (Int.toNat a))), V.i (Rc.y1 (foldR l (Int.toNat a))), V.b (Rc.down (foldR l (Int.toNat a)))]), pv (45 : Nat) (V.agg [V.i (Rc.x0 (foldR l (Int.toNat a))), V.i (Rc.y0 (foldR l (Int.toNat a))), V.i (Rc.x1 (foldR l (Int.toNat a))), V.i (Rc.y1 (foldR l (Int.toNat a))), V.b (Rc.down (foldR l (Int.toNat a)))]), pv (46 : Nat) (V.sl (5 : Nat) (List.length l) fun (k : Nat) => Rc.c (foldR l k)), pv (47 : Nat) (V.i b), pc (48 : Nat) ((0 : Int) ≤ b ∧ b < (↑(List.length l) : Int)) (V.ptr [V.i (Rc.x0 (foldR l (Int.toNat b))), V.i (Rc.y0 (foldR l (Int.toNat b))), V.i (Rc.x1 (foldR l (Int.toNat b))), V.i (Rc.y1 (foldR l (Int.toNat b))), V.b (Rc.down (foldR l (Int.toNat b)))]), pv (49 : Nat) (V.agg [V.i (Rc.x0 (foldR l (Int.toNat b))), V.i (Rc.y0 (foldR l (Int.toNat b))), V.i (Rc.x1 (foldR l (Int.toNat b))), V.i (Rc.y1 (foldR l (Int.toNat b))), V.b (Rc.down (foldR l (Int.toNat b)))])] kR kR ⟨oM, oM, tI⟩ ?_
    refine e_call (first := []) (caps := []) (common_ac (foldR l a.toNat) (foldR l b.toNat) (Rc.bd_mono b1 oM) (Rc.bd_mono b2 oM)) kR kR kR kR kR ?_
    refine aops_n hTT (M := []) (n := 5) [pv (41 : Nat) (V.tup [V.i (comW (foldR l (Int.toNat a)) (foldR l (Int.toNat b))), V.i (comH (foldR l (Int.toNat a)) (foldR l (Int.toNat b)))]), pv (51 : Nat) (V.i (comW (foldR l (Int.toNat a)) (foldR l (Int.toNat b)))), pv (52 : Nat) (V.i (comH (foldR l (Int.toNat a)) (foldR l (Int.toNat b)))), pv (10 : Nat) (V.i (comW (foldR l (Int.toNat a)) (foldR l (Int.toNat b)))), pv (11 : Nat) (V.i (comH (foldR l (Int.toNat a)) (foldR l (Int.toNat b))))] kR kR tI ?_
    refine aops_nil ⟨kR, ?_⟩
    refine xt_n ?_
    refine hK _ ?_
    clear hK K
    refine aw_seq_k fun K hK => ?_
    refine aw_seq_k fun K hK => ?_
    refine w_region (n' := 7) kR kR ?_
    refine aops_n hTT (M := []) (n := 4) [pv (53 : Nat) (V.i (comW (foldR l (Int.toNat a)) (foldR l (Int.toNat b)))), pv (54 : Nat) (V.i (comH (foldR l (Int.toNat a)) (foldR l (Int.toNat b)))), pv (55 : Nat) (V.i (min (comW (foldR l (Int.toNat a)) (foldR l (Int.toNat b))) (comH (foldR l (Int.toNat a)) (foldR l (Int.toNat b))))), pv (56 : Nat) (V.b (decide (min (comW (foldR l (Int.toNat a)) (foldR l (Int.toNat b))) (comH (foldR l (Int.toNat a)) (foldR l (Int.toNat b))) ≤ 0)))] kR kR tI ?_
    refine aops_nil ?_
    refine xt_n ?_
    refine hK _ ?_
    clear hK K
    refine w_cond (t := decide (min (comW (foldR l (Int.toNat a)) (foldR l (Int.toNat b))) (comH (foldR l (Int.toNat a)) (foldR l (Int.toNat b))) ≤ 0)) kR (fun c2 => ?_) (fun c2 => ?_)
    · have h4 : comW (foldR l a.toNat) (foldR l b.toNat) ≤ 0 ∨ comH (foldR l a.toNat) (foldR l b.toNat) ≤ 0 := by simp at c2; omega
      refine aw_seq_k fun K hK => ?_
      refine w_region (n' := 8) kR kR ?_
      refine aops_n hTT (M := []) (n := 3) [pv (57 : Nat) (V.agg [V.i (0 : Int), V.i (0 : Int), V.i (0 : Int), V.i (0 : Int), V.b false]), pw ((0 : Nat) + (5 : Nat) ≤ (5 : Nat)) (100006 : Nat) (Ob.box (52 : Nat) [V.i (0 : Int), V.i (0 : Int), V.i (0 : Int), V.i (0 : Int), V.b false]), pv (7 : Nat) (V.i (5 : Int))] kR kR ⟨oM, tI⟩ ?_
      refine aops_nil ?_
      refine xt_n ?_
      refine hK _ ?_
      clear hK K
      refine aw_ret ?_
      refine xt_r ?_
      refine ret_of_le (le_freezeBox (t := (52 : Nat)) (cs := [V.i (0 : Int), V.i (0 : Int), V.i (0 : Int), V.i (0 : Int), V.b false]) 100006 kR kR) ?_
      rw [pockR, pock_3 hE h2 h4, if_neg oM]
      refine ret_pure (v' := V.tup [V.agg [V.i (0 : Int), V.i (0 : Int), V.i (0 : Int), V.i (0 : Int), V.b false], V.i (5 : Int)]) (.inr rfl) kR kR kR
    have h4 : ¬ (comW (foldR l a.toNat) (foldR l b.toNat) ≤ 0 ∨ comH (foldR l a.toNat) (foldR l b.toNat) ≤ 0) := by simp at c2; omega
    have w1 := h4
    obtain ⟨⟨q1, q2⟩, ⟨q3, q4⟩, ⟨q5, q6⟩, q7, q8⟩ := b1
    obtain ⟨⟨r1, r2⟩, ⟨r3, r4⟩, ⟨r5, r6⟩, r7, r8⟩ := b2
    have w2 : comW (foldR l a.toNat) (foldR l b.toNat) ≤ 2147483648 := by unfold comW; omega
    have w3 : comH (foldR l a.toNat) (foldR l b.toNat) ≤ 2147483648 := by unfold comH; omega
    refine aw_skip ?_
    refine xt_n ?_
    refine hK _ ?_
    clear hK K
    refine aw_seq_k fun K hK => ?_
    refine w_regionD (n' := 8) kR kR ?_
    refine aops_n hTT (M := []) (n := 28) [pv (58 : Nat) (V.sl (5 : Nat) (List.length l) fun (k : Nat) => Rc.c (foldR l k)), pv (59 : Nat) (V.i a), pc (60 : Nat) ((0 : Int) ≤ a ∧ a < (↑(List.length l) : Int)) (V.ptr [V.i (Rc.x0 (foldR l (Int.toNat a))), V.i (Rc.y0 (foldR l (Int.toNat a))), V.i (Rc.x1 (foldR l (Int.toNat a))), V.i (Rc.y1 (foldR l (Int.toNat a))), V.b (Rc.down (foldR l (Int.toNat a)))]), pv (61 : Nat) (V.ptr [V.i (Rc.x0 (foldR l (Int.toNat a))), V.i (Rc.y0 (foldR l (Int.toNat a))), V.i (Rc.x1 (foldR l (Int.toNat a))), V.i (Rc.y1 (foldR l (Int.toNat a))), V.b (Rc.down (foldR l (Int.toNat a)))]), pv (62 : Nat) (V.ptr [V.i (Rc.x0 (foldR l (Int.toNat a))), V.i (Rc.y0 (foldR l (Int.toNat a))), V.i (Rc.x1 (foldR l (Int.toNat a))), V.i (Rc.y1 (foldR l (Int.toNat a))), V.b (Rc.down (foldR l (Int.toNat a)))]), pv (63 : Nat) (V.i (Rc.x0 (foldR l (Int.toNat a)))), pv (64 : Nat) (V.sl (5 : Nat) (List.length l) fun (k : Nat) => Rc.c (foldR l k)), pv (65 : Nat) (V.i b), pc (66 : Nat) ((0 : Int) ≤ b ∧ b < (↑(List.length l) : Int)) (V.ptr [V.i (Rc.x0 (foldR l (Int.toNat b))), V.i (Rc.y0 (foldR l (Int.toNat b))), V.i (Rc.x1 (foldR l (Int.toNat b))), V.i (Rc.y1 (foldR l (Int.toNat b))), V.b (Rc.down (foldR l (Int.toNat b)))]), pv (67 : Nat) (V.ptr [V.i (Rc.x0 (foldR l (Int.toNat b))), V.i (Rc.y0 (foldR l (Int.toNat b))), V.i (Rc.x1 (foldR l (Int.toNat b))), V.i (Rc.y1 (foldR l (Int.toNat b))), V.b (Rc.down (foldR l (Int.toNat b)))]), pv (68 : Nat) (V.ptr [V.i (Rc.x0 (foldR l (Int.toNat b))), V.i (Rc.y0 (foldR l (Int.toNat b))), V.i (Rc.x1 (foldR l (Int.toNat b))), V.i (Rc.y1 (foldR l (Int.toNat b))), V.b (Rc.down (foldR l (Int.toNat b)))]), pv (69 : Nat) (V.i (Rc.x0 (foldR l (Int.toNat b)))), pv (70 : Nat) (V.i (max (Rc.x0 (foldR l (Int.toNat a))) (Rc.x0 (foldR l (Int.toNat b))))), pv (71 : Nat) (V.sl (5 : Nat) (List.length l) fun (k : Nat) => Rc.c (foldR l k)), pv (72 : Nat) (V.i a), pc (73 : Nat) ((0 : Int) ≤ a ∧ a < (↑(List.length l) : Int)) (V.ptr [V.i (Rc.x0 (foldR l (Int.toNat a))), V.i (Rc.y0 (foldR l (Int.toNat a))), V.i (Rc.x1 (foldR l (Int.toNat a))), V.i (Rc.y1 (foldR l (Int.toNat a))), V.b (Rc.down (foldR l (Int.toNat a)))]), pv (74 : Nat) (V.ptr [V.i (Rc.x0 (foldR l (Int.toNat a))), V.i (Rc.y0 (foldR l (Int.toNat a))), V.i (Rc.x1 (foldR l (Int.toNat a))), V.i (Rc.y1 (foldR l (Int.toNat a))), V.b (Rc.down (foldR l (Int.toNat a)))]), pv (75 : Nat) (V.ptr [V.i (Rc.y0 (foldR l (Int.toNat a))), V.i (Rc.x1 (foldR l (Int.toNat a))), V.i (Rc.y1 (foldR l (Int.toNat a))), V.b (Rc.down (foldR l (Int.toNat a)))]), pv (76 : Nat) (V.i (Rc.y0 (foldR l (Int.toNat a)))), pv (77 : Nat) (V.sl (5 : Nat) (List.length l) fun (k : Nat) => Rc.c (foldR l k)), pv (78 : Nat) (V.i b), pc (79 : Nat) ((0 : Int) ≤ b ∧ b < (↑(List.length l) : Int)) (V.ptr [V.i (Rc.x0 (foldR l (Int.toNat b))), V.i (Rc.y0 (foldR l (Int.toNat b))), V.i (Rc.x1 (foldR l (Int.toNat b))), V.i (Rc.y1 (foldR l (Int.toNat b))), V.b (Rc.down (foldR l (Int.toNat b)))]), pv (80 : Nat) (V.ptr [V.i (Rc.x0 (foldR l (Int.toNat b))), V.i (Rc.y0 (foldR l (Int.toNat b))), V.i (Rc.x1 (foldR l (Int.toNat b))), V.i (Rc.y1 (foldR l (Int.toNat b))), V.b (Rc.down (foldR l (Int.toNat b)))]), pv (81 : Nat) (V.ptr [V.i (Rc.y0 (foldR l (Int.toNat b))), V.i (Rc.x1 (foldR l (Int.toNat b))), V.i (Rc.y1 (foldR l (Int.toNat b))), V.b (Rc.down (foldR l (Int.toNat b)))]), pv (82 : Nat) (V.i (Rc.y0 (foldR l (Int.toNat b)))), pv (83 : Nat) (V.i (max (Rc.y0 (foldR l (Int.toNat a))) (Rc.y0 (foldR l (Int.toNat b))))), pv (12 : Nat) (V.i (max (Rc.x0 (foldR l (Int.toNat a))) (Rc.x0 (foldR l (Int.toNat b))))), pv (13 : Nat) (V.i (max (Rc.y0 (foldR l (Int.toNat a))) (Rc.y0 (foldR l (Int.toNat b)))))] kR kR ⟨oM, oM, oM, oM, tI⟩ ?_
    refine aops_nil ⟨kR, ?_⟩
    refine xt_n ?_
    refine hK _ ?_
    clear hK K
    refine aw_seq_k fun K hK => ?_
    refine w_region (n' := 9) kR kR ?_
    refine aops_n hTT (M := []) (n := 11) [pv (84 : Nat) (V.i (max (Rc.x0 (foldR l (Int.toNat a))) (Rc.x0 (foldR l (Int.toNat b))))), pv (85 : Nat) (V.i (max (Rc.y0 (foldR l (Int.toNat a))) (Rc.y0 (foldR l (Int.toNat b))))), pv (86 : Nat) (V.i (max (Rc.x0 (foldR l (Int.toNat a))) (Rc.x0 (foldR l (Int.toNat b))))), pv (87 : Nat) (V.i (comW (foldR l (Int.toNat a)) (foldR l (Int.toNat b)))), pc (88 : Nat) ((-9223372036854775808 : Int) ≤ max (Rc.x0 (foldR l (Int.toNat a))) (Rc.x0 (foldR l (Int.toNat b))) + comW (foldR l (Int.toNat a)) (foldR l (Int.toNat b)) ∧ max (Rc.x0 (foldR l (Int.toNat a))) (Rc.x0 (foldR l (Int.toNat b))) + comW (foldR l (Int.toNat a)) (foldR l (Int.toNat b)) ≤ 9223372036854775807) (V.i (max (Rc.x0 (foldR l (Int.toNat a))) (Rc.x0 (foldR l (Int.toNat b))) + comW (foldR l (Int.toNat a)) (foldR l (Int.toNat b)))), pv (89 : Nat) (V.i (max (Rc.y0 (foldR l (Int.toNat a))) (Rc.y0 (foldR l (Int.toNat b))))), pv (90 : Nat) (V.i (comH (foldR l (Int.toNat a)) (foldR l (Int.toNat b)))), pc (91 : Nat) ((-9223372036854775808 : Int) ≤ max (Rc.y0 (foldR l (Int.toNat a))) (Rc.y0 (foldR l (Int.toNat b))) + comH (foldR l (Int.toNat a)) (foldR l (Int.toNat b)) ∧ max (Rc.y0 (foldR l (Int.toNat a))) (Rc.y0 (foldR l (Int.toNat b))) + comH (foldR l (Int.toNat a)) (foldR l (Int.toNat b)) ≤ 9223372036854775807) (V.i (max (Rc.y0 (foldR l (Int.toNat a))) (Rc.y0 (foldR l (Int.toNat b))) + comH (foldR l (Int.toNat a)) (foldR l (Int.toNat b)))), pv (92 : Nat) (V.agg [V.i (max (Rc.x0 (foldR l (Int.toNat a))) (Rc.x0 (foldR l (Int.toNat b)))), V.i (max (Rc.y0 (foldR l (Int.toNat a))) (Rc.y0 (foldR l (Int.toNat b)))), V.i (max (Rc.x0 (foldR l (Int.toNat a))) (Rc.x0 (foldR l (Int.toNat b))) + comW (foldR l (Int.toNat a)) (foldR l (Int.toNat b))), V.i (max (Rc.y0 (foldR l (Int.toNat a))) (Rc.y0 (foldR l (Int.toNat b))) + comH (foldR l (Int.toNat a)) (foldR l (Int.toNat b))), V.b false]), pw ((0 : Nat) + (5 : Nat) ≤ (5 : Nat)) (100006 : Nat) (Ob.box (52 : Nat) [V.i (max (Rc.x0 (foldR l (Int.toNat a))) (Rc.x0 (foldR l (Int.toNat b)))), V.i (max (Rc.y0 (foldR l (Int.toNat a))) (Rc.y0 (foldR l (Int.toNat b)))), V.i (max (Rc.x0 (foldR l (Int.toNat a))) (Rc.x0 (foldR l (Int.toNat b))) + comW (foldR l (Int.toNat a)) (foldR l (Int.toNat b))), V.i (max (Rc.y0 (foldR l (Int.toNat a))) (Rc.y0 (foldR l (Int.toNat b))) + comH (foldR l (Int.toNat a)) (foldR l (Int.toNat b))), V.b false]), pv (7 : Nat) (V.i (0 : Int))] kR kR ⟨oM, oM, oM, tI⟩ ?_
    refine aops_nil ?_
    refine xt_n ?_
    refine hK _ ?_
    clear hK K
    refine aw_ret ?_
    refine ret_of_le (le_freezeBox (t := (52 : Nat)) (cs := [V.i (max (Rc.x0 (foldR l (Int.toNat a))) (Rc.x0 (foldR l (Int.toNat b)))), V.i (max (Rc.y0 (foldR l (Int.toNat a))) (Rc.y0 (foldR l (Int.toNat b)))), V.i (max (Rc.x0 (foldR l (Int.toNat a))) (Rc.x0 (foldR l (Int.toNat b))) + comW (foldR l (Int.toNat a)) (foldR l (Int.toNat b))), V.i (max (Rc.y0 (foldR l (Int.toNat a))) (Rc.y0 (foldR l (Int.toNat b))) + comH (foldR l (Int.toNat a)) (foldR l (Int.toNat b))), V.b false]) 100006 kR kR) ?_
    rw [pockR, pock_4 hE h2 h4, if_pos rfl]
    refine ret_pure (v' := V.tup [V.agg [V.i (max (Rc.x0 (foldR l (Int.toNat a))) (Rc.x0 (foldR l (Int.toNat b)))), V.i (max (Rc.y0 (foldR l (Int.toNat a))) (Rc.y0 (foldR l (Int.toNat b)))), V.i (max (Rc.x0 (foldR l (Int.toNat a))) (Rc.x0 (foldR l (Int.toNat b))) + comW (foldR l (Int.toNat a)) (foldR l (Int.toNat b))), V.i (max (Rc.y0 (foldR l (Int.toNat a))) (Rc.y0 (foldR l (Int.toNat b))) + comH (foldR l (Int.toNat a)) (foldR l (Int.toNat b))), V.b false], V.i (0 : Int)]) (.inr rfl) kR kR kR
  · rw [foldV, if_neg hE] at A
    refine e_call (first := []) (caps := []) (A) kR kR kR kR kR ?_
    refine aops_n hTT (M := []) (n := 5) [pv (14 : Nat) (V.tup [V.nil, V.i (netE l)]), pv (17 : Nat) V.nil, pv (18 : Nat) (V.i (netE l)), pv (8 : Nat) V.nil, pv (9 : Nat) (V.i (netE l))] kR kR tI ?_
    refine aops_nil ?_
    refine xt_n ?_
    refine hK _ ?_
    clear hK K
    refine aw_seq_k fun K hK => ?_
    refine aw_seq_k fun K hK => ?_
    refine w_region (n' := 4) kR kR ?_
    refine aops_n hTT (M := []) (n := 2) [pv (19 : Nat) (V.i (netE l)), pv (20 : Nat) (V.b !decide (netE l = 0))] kR kR tI ?_
    refine aops_nil ?_
    refine xt_n ?_
    refine hK _ ?_
    clear hK K
    refine w_cond (t := !decide (netE l = 0)) kR (fun c1 => ?_) (fun c1 => ?_)
    · refine aw_seq_k fun K hK => ?_
      refine w_region (n' := 5) kR kR ?_
      refine aops_n hTT (M := []) (n := 4) [pv (21 : Nat) (V.agg [V.i (0 : Int), V.i (0 : Int), V.i (0 : Int), V.i (0 : Int), V.b false]), pv (22 : Nat) (V.i (netE l)), pw ((0 : Nat) + (5 : Nat) ≤ (5 : Nat)) (100006 : Nat) (Ob.box (52 : Nat) [V.i (0 : Int), V.i (0 : Int), V.i (0 : Int), V.i (0 : Int), V.b false]), pv (7 : Nat) (V.i (netE l))] kR kR ⟨oM, tI⟩ ?_
      refine aops_nil ?_
      refine xt_n ?_
      refine hK _ ?_
      clear hK K
      refine aw_ret ?_
      refine xt_r ?_
      refine ret_of_le (le_freezeBox (t := (52 : Nat)) (cs := [V.i (0 : Int), V.i (0 : Int), V.i (0 : Int), V.i (0 : Int), V.b false]) 100006 kR kR) ?_
      rw [pockR, pock_1 hE, if_neg hE]
      refine ret_pure (v' := V.tup [V.agg [V.i (0 : Int), V.i (0 : Int), V.i (0 : Int), V.i (0 : Int), V.b false], V.i (netE l)]) (.inr rfl) kR kR kR
    · simp at c1
      exact absurd c1 hE
end Go.Proofs.YtfckkkmacjjmhaaDoor
