/-
  The flat rectangles of a net: the walk of the program's copy, whose checks end by a panic that is recovered. No condition but the length of a list that is in memory.
-/
import Derived.Test.YtfckkkmacjjmhaaDoorAbs35
import Derived.Test.YtfckkkmacjjmhaaDoorSN3
import Derived.Test.YtfckkkmacjjmhaaDoorAbs29
namespace Go.Proofs.YtfckkkmacjjmhaaDoor
open Go.Ab Go.RowKit Go.Dw Go.Shelf

theorem dfOk : DfOk Tryd.prog 82 123 := ⟨(⟨Tryd.func82, rfl, Tryd.ntmps82, by kernel_rfl⟩ : FnOk Tryd.prog 82 Tryd.f82 _ _).call, flatD_idle, flatD_catch⟩
theorem flat_pre (x : Value) (w : World) (Q : Exit → Act → World → Prop) {n : Nat} {rest : Code} {i0 i1 : Nat} {p0 p1 p2 p3 : String} {ty0 ty1 ty2 ty3 : TypeId} {a0 a1 a2 a3 : Array Edge} (hn : 15 < n + 1)
    (h : rest.wpIn Fence.wide 0 Tryd.prog Q ⟨(((#[x] ++ Array.replicate n undef).setIfInBounds 2 (.pointer (some ⟨w.heap.size, 0, none⟩))).setIfInBounds 3 (.pointer (some ⟨w.heap.size + 1, 0, none⟩))).setIfInBounds 15 (.func (.func 82) #[] #[.pointer (some ⟨w.heap.size, 0, none⟩), .pointer (some ⟨w.heap.size + 1, 0, none⟩)]), [dfd 82 w.heap.size (w.heap.size + 1)]⟩
        ((w.alloc (.cells #[.slice none 0 0] 90)).alloc (.cells #[.int .i64 0] 25))) :
    (Code.seq (.region i0 #[⟨some 2, .alloc 90, ty0, p0, a0, none⟩, ⟨some 3, .alloc 25, ty1, p1, a1, none⟩] false)
      (.seq (.region i1 #[⟨some 15, .makeFunc (.func 82) #[] #[.tmp 2, .tmp 3], ty2, p2, a2, none⟩, ⟨none, .defer ⟨.value (.tmp 15), #[], #[]⟩, ty3, p3, a3, none⟩] false) rest)).wpIn Fence.wide 0 Tryd.prog Q ⟨#[x] ++ Array.replicate n undef, []⟩ w := by
  have hs : (#[x] ++ Array.replicate n undef).size = n + 1 := by simp; omega
  generalize #[x] ++ Array.replicate n undef = T at h hs
  have g2 : ∀ (a b : Value), ((T.setIfInBounds 2 a).setIfInBounds 3 b)[2]? = some a := fun a b => by
    rw [Array.getElem?_setIfInBounds, if_neg (by omega), Array.getElem?_setIfInBounds, if_pos rfl, if_pos (by omega)]
  have g3 : ∀ (a b : Value), ((T.setIfInBounds 2 a).setIfInBounds 3 b)[3]? = some b := fun a b => by
    rw [Array.getElem?_setIfInBounds, if_pos rfl, if_pos (by simp; omega)]
  have g15 : ∀ (a b c : Value), (((T.setIfInBounds 2 a).setIfInBounds 3 b).setIfInBounds 15 c)[15]? = some c := fun a b c => by
    rw [Array.getElem?_setIfInBounds, if_pos rfl, if_pos (by simp; omega)]
  refine wpIn_seq (wpIn_region ?_)
  simp [wpOpsIn, Oper.wpIn, go_sem, Exit.then, Act.put, Region.wanted]
  refine wpIn_seq (wpIn_region ?_)
  simp [wpOpsIn, Oper.wpIn, go_sem, Exit.then, Act.put, Region.wanted, Act.eval, g2, g3]
  rw [if_pos (show 15 < T.size by omega)]
  exact h
theorem flat_pre0 (vs : Array Value) (w : World) (Q : Exit → Act → World → Prop) (hv : vs.size = 1) {m : Nat} (hm : m = 154) {rest : Code} {i0 i1 : Nat} {p0 p1 p2 p3 : String} {ty0 ty1 ty2 ty3 : TypeId} {a0 a1 a2 a3 : Array Edge}
    (h : rest.wpIn Fence.wide 0 Tryd.prog Q ⟨(((vs ++ Array.replicate (m - vs.size) undef).setIfInBounds 2 (.pointer (some ⟨w.heap.size, 0, none⟩))).setIfInBounds 3 (.pointer (some ⟨w.heap.size + 1, 0, none⟩))).setIfInBounds 15 (.func (.func 82) #[] #[.pointer (some ⟨w.heap.size, 0, none⟩), .pointer (some ⟨w.heap.size + 1, 0, none⟩)]), [dfd 82 w.heap.size (w.heap.size + 1)]⟩
        ((w.alloc (.cells #[.slice none 0 0] 90)).alloc (.cells #[.int .i64 0] 25))) :
    (Code.seq (.region i0 #[⟨some 2, .alloc 90, ty0, p0, a0, none⟩, ⟨some 3, .alloc 25, ty1, p1, a1, none⟩] false)
      (.seq (.region i1 #[⟨some 15, .makeFunc (.func 82) #[] #[.tmp 2, .tmp 3], ty2, p2, a2, none⟩, ⟨none, .defer ⟨.value (.tmp 15), #[], #[]⟩, ty3, p3, a3, none⟩] false) rest)).wpIn Fence.wide 0 Tryd.prog Q ⟨vs ++ Array.replicate (m - vs.size) undef, []⟩ w := by
  obtain ⟨x, rfl⟩ : ∃ x, vs = #[x] := by
    obtain ⟨vl⟩ := vs
    match vl, hv with
    | [x], _ => exact ⟨x, rfl⟩
  subst hm
  exact flat_pre x w Q (n := 153) (by omega) h
def flatV (l : List Pan) : V := if netE l = 0 then .tup [V.rcs l.length (rcF l), .i 0] else .tup [.nil, .i (netE l)]
set_option maxHeartbeats 4000000 in
set_option maxRecDepth 100000 in
theorem flat_ac (l : List Pan) (hl : l.length ≤ 4611686018427387904) : AC Tryd.prog 63 [V.pans l] (flatV l) [] := by
  refine acd_intro hTT hMX (fn := Tryd.f63) (N := _) ⟨Tryd.func63, rfl, Tryd.ntmps63, by kernel_rfl⟩ (by simp) (ta := 2) (tb := 3) (tf := 15) (t1 := 90) (t2 := 25) (z1 := .nil) (z2 := .i 0) (x1 := .slice none 0 0) (x2 := .int .i64 0) (by simp) (fun _ _ _ => .nil _) (fun _ _ _ => .c _ _) rfl rfl rfl (by kernel_rfl) (by kernel_rfl) dfOk (fun vs w Q hv h => ?_) fun C hF => ?_
  · exact flat_pre0 vs w Q hv Tryd.ntmps63 h
  have hMust := mustOk
  refine aw_seq_k fun K hK => ?_
  refine aw_must hMust hF 8 (by kernel_rfl) rfl (by kernel_rfl) (n' := 2) (by kernel_rfl) ?_
  refine aops_n hTT (M := []) (n := 8) [pv (16 : Nat) (V.sl (5 : Nat) (List.length l) fun (k : Nat) => Pan.c (gpan l k)), pv (17 : Nat) (V.i (↑(List.length l) : Int)), pv (18 : Nat) (V.b (decide ((0 : Int) < (↑(List.length l) : Int)))), pv (19 : Nat) (V.b (decide ((0 : Int) < (↑(List.length l) : Int)))), pc (20 : Nat) ((True ∧ True) ∧ ((decide ((0 : Int) < (↑(List.length l) : Int)) == true) = true → True)) (V.gd (decide ((0 : Int) < (↑(List.length l) : Int)) == true) (V.sl (5 : Nat) (List.length l) fun (k : Nat) => Pan.c (gpan l k))), pc (21 : Nat) ((((decide ((0 : Int) < (↑(List.length l) : Int)) == true) = true → (decide ((0 : Int) < (↑(List.length l) : Int)) == true) = true) ∧ True) ∧ ((decide ((0 : Int) < (↑(List.length l) : Int)) == true) = true → True)) (V.gd (decide ((0 : Int) < (↑(List.length l) : Int)) == true) (V.i (↑(List.length l) : Int))), pc (22 : Nat) ((((decide ((0 : Int) < (↑(List.length l) : Int)) == true) = true → (decide ((0 : Int) < (↑(List.length l) : Int)) == true) = true) ∧ True ∧ True) ∧ ((decide ((0 : Int) < (↑(List.length l) : Int)) == true) = true → True)) (V.gd (decide ((0 : Int) < (↑(List.length l) : Int)) == true) (V.b (decide ((↑(List.length l) : Int) ≤ (12 : Int))))), pc (23 : Nat) ((decide ((0 : Int) < (↑(List.length l) : Int)) = true → (decide ((0 : Int) < (↑(List.length l) : Int)) == true) = true) ∧ True) (V.b (decide ((0 : Int) < (↑(List.length l) : Int)) && decide ((↑(List.length l) : Int) ≤ (12 : Int))))] (by kernel_rfl) (by kernel_rfl) ⟨⟨⟨True.intro, True.intro⟩, (fun _ => True.intro)⟩, ⟨⟨(by (exact fun h => h)), True.intro⟩, (fun _ => True.intro)⟩, ⟨⟨(by (exact fun h => h)), ⟨True.intro, True.intro⟩⟩, (fun _ => True.intro)⟩, ⟨(by (intro h; rw [h]; rfl)), True.intro⟩, True.intro⟩ ?_
  refine aops_nil ?_
  refine ⟨decide ((0 : Int) < (↑(List.length l) : Int)) && decide ((↑(List.length l) : Int) ≤ (12 : Int)), (6 : Int), by kernel_rfl, by kernel_rfl, fun h0 => ?_, fun h0 => ?_⟩
  rotate_left
  · simp at h0
    refine xt_p ?_
    rw [flatV, if_neg (by rw [netE_many (by omega)]; omega), netE_many (by omega)]
    exact .inr ⟨_, _, _, _, _, rfl, rfl, rfl, rfl, rfl, rfl⟩
  simp at h0
  have hne : ¬ (l.length = 0 ∨ 12 < l.length) := by omega
  refine xt_n ?_
  refine hK _ ?_
  clear hK K
  refine aw_seq_k fun K hK => ?_
  refine aw_seq_k fun K hK => ?_
  refine w_region (n' := 3) (by kernel_rfl) (by kernel_rfl) ?_
  refine aops_n hTT (M := []) (n := 3) [pv (25 : Nat) (V.sl (5 : Nat) (List.length l) fun (k : Nat) => Pan.c (gpan l k)), pv (26 : Nat) (V.i (↑(List.length l) : Int)), pv (27 : Nat) (V.i (0 : Int))] (by kernel_rfl) (by kernel_rfl) True.intro ?_
  refine aops_nil ?_
  refine xt_n ?_
  refine hK _ ?_
  clear hK K
  refine aw_block ?_
  refine w_le (le_openIn 500 0 (t := 90) (cs := [.nil]) 95 5 (fun k => (rcF l k).c) (by kernel_rfl) (by kernel_rfl) rfl rfl) ?_
  refine w_loop (ι := Nat) (fun k => [(2, .ref 500 0), (3, .ref 501 0), (25, V.pans l), (26, .i l.length), (27, .i k)]) (fun k => [(500, .box 90 [.own 5]), (501, .box 25 [.i 0]), (5, .row 95 5 k fun j => (rcF l j).c)]) (fun k => k ≤ l.length ∧ fstE (panE l) k = 0) (fun k => l.length - k) 0 ⟨Nat.zero_le _, rfl⟩ ?_ ?_
  · refine le_ren (sl := [(500, Ob.box (90 : Nat) [V.own (5 : Nat)]), (501, Ob.box (25 : Nat) [V.i (0 : Int)]), (5, Ob.row (95 : Nat) (5 : Nat) (0 : Nat) fun (j : Nat) => Rc.c (rcF l j))]) [(5, 300000)] (.cons (by kernel_rfl) (.cons (by kernel_rfl) (.cons (by kernel_rfl) (.cons (by kernel_rfl) (.cons (by kernel_rfl) .nil))))) (.cons ⟨Ob.box (90 : Nat) [V.own (300000 : Nat)], (by kernel_rfl), .box (by kernel_rfl)⟩ (.cons ⟨Ob.box (25 : Nat) [V.i (0 : Int)], (by kernel_rfl), .box (by kernel_rfl)⟩ (.cons ⟨Ob.row (95 : Nat) (5 : Nat) (0 : Nat) fun (k : Nat) => Rc.c (rcF l k), (by kernel_rfl), .row (by kernel_rfl) (fun _ _ => rfl)⟩ .nil))) (by kernel_rfl) (by kernel_rfl)
  rintro k ⟨hk, hE⟩
  refine aw_seq_k fun K hK => ?_
  refine w_region (n' := 2) (by kernel_rfl) (by kernel_rfl) ?_
  refine aops_n hTT (M := []) (n := 1) [pv (28 : Nat) (V.b (decide ((↑k : Int) < (↑(List.length l) : Int))))] (by kernel_rfl) (by kernel_rfl) True.intro ?_
  refine aops_nil ?_
  refine xt_n ?_
  refine hK _ ?_
  clear hK K
  refine aw_seq_k fun K hK => ?_
  refine w_cond (t := decide ((↑k : Int) < (↑(List.length l) : Int))) (by kernel_rfl) (fun c1 => ?_) (fun c1 => ?_)
  · simp at c1
    refine aw_skip ?_
    refine xt_n ?_
    refine hK _ ?_
    clear hK K
    refine aw_seq_k fun K hK => ?_
    refine aw_block ?_
    refine aw_seq_k fun K hK => ?_
    refine w_region (n' := 3) (by kernel_rfl) (by kernel_rfl) ?_
    refine aops_n hTT (M := []) (n := 6) [pv (29 : Nat) (V.i (↑k : Int)), pc (30 : Nat) ((0 : Int) ≤ (↑k : Int) ∧ (↑k : Int) < (↑(List.length l) : Int)) (V.ptr [V.i (Pan.on (gpan l k)), V.i (Pan.edge (gpan l k)), V.i (Pan.off (gpan l k)), V.i (Pan.wide (gpan l k)), V.i (Pan.high (gpan l k))]), pv (31 : Nat) (V.agg [V.i (Pan.on (gpan l k)), V.i (Pan.edge (gpan l k)), V.i (Pan.off (gpan l k)), V.i (Pan.wide (gpan l k)), V.i (Pan.high (gpan l k))]), pn (5 : Nat) (V.ref (200005 : Nat) (0 : Nat)) (200005 : Nat) (Ob.box (54 : Nat) [V.i (0 : Int), V.i (0 : Int), V.i (0 : Int), V.i (0 : Int), V.i (0 : Int)]), pv (4 : Nat) (V.i (↑k : Int)), pw ((0 : Nat) + (5 : Nat) ≤ (5 : Nat)) (200005 : Nat) (Ob.box (54 : Nat) [V.i (Pan.on (gpan l k)), V.i (Pan.edge (gpan l k)), V.i (Pan.off (gpan l k)), V.i (Pan.wide (gpan l k)), V.i (Pan.high (gpan l k))])] (by kernel_rfl) (by kernel_rfl) ⟨(by omega), (by omega), True.intro⟩ ?_
    refine aops_nil ?_
    refine xt_n ?_
    refine hK _ ?_
    clear hK K
    refine aw_seq_k fun K hK => ?_
    refine aw_must hMust hF 10 (by kernel_rfl) rfl (by kernel_rfl) (n' := 4) (by kernel_rfl) ?_
    refine aops_n hTT (M := []) (n := 2) [pv (32 : Nat) (V.ref (200005 : Nat) (3 : Nat)), pc (33 : Nat) ((3 : Nat) ≤ (5 : Nat)) (V.i (Pan.wide (gpan l k)))] (by kernel_rfl) (by kernel_rfl) ⟨(by omega), True.intro⟩ ?_
    refine e_call (first := []) (caps := []) (soutside_ac (gpan l k).wide 1 65536) (by kernel_rfl) (by kernel_rfl) (by kernel_rfl) (by kernel_rfl) (by kernel_rfl) ?_
    refine aops_n hTT (M := []) (n := 4) [pv (35 : Nat) (V.b !(decide (Pan.wide (gpan l k) < (1 : Int)) || decide ((65536 : Int) < Pan.wide (gpan l k)))), pv (36 : Nat) (V.b !(decide (Pan.wide (gpan l k) < (1 : Int)) || decide ((65536 : Int) < Pan.wide (gpan l k)))), pc (37 : Nat) ((True ∧ True) ∧ (((!(decide (Pan.wide (gpan l k) < (1 : Int)) || decide ((65536 : Int) < Pan.wide (gpan l k)))) == true) = true → True)) (V.gd ((!(decide (Pan.wide (gpan l k) < (1 : Int)) || decide ((65536 : Int) < Pan.wide (gpan l k)))) == true) (V.ref (200005 : Nat) (4 : Nat))), pc (38 : Nat) (((((!(decide (Pan.wide (gpan l k) < (1 : Int)) || decide ((65536 : Int) < Pan.wide (gpan l k)))) == true) = true → ((!(decide (Pan.wide (gpan l k) < (1 : Int)) || decide ((65536 : Int) < Pan.wide (gpan l k)))) == true) = true) ∧ True) ∧ (((!(decide (Pan.wide (gpan l k) < (1 : Int)) || decide ((65536 : Int) < Pan.wide (gpan l k)))) == true) = true → (4 : Nat) ≤ (5 : Nat))) (V.gd ((!(decide (Pan.wide (gpan l k) < (1 : Int)) || decide ((65536 : Int) < Pan.wide (gpan l k)))) == true) (V.i (Pan.high (gpan l k))))] (by kernel_rfl) (by kernel_rfl) ⟨⟨⟨True.intro, True.intro⟩, (fun _ => True.intro)⟩, ⟨⟨(by (exact fun h => h)), True.intro⟩, (by (intro _; simp; done))⟩, True.intro⟩ ?_
    refine e_callG 1 (g := (!(decide (Pan.wide (gpan l k) < (1 : Int)) || decide ((65536 : Int) < Pan.wide (gpan l k)))) == true) (first := []) (caps := []) (by kernel_rfl) (fun h => soutside_ac (gpan l k).high 1 65536) (by kernel_rfl) (by kernel_rfl) (by kernel_rfl) (by kernel_rfl) (by kernel_rfl) (by kernel_rfl) ?_
    refine aops_n hTT (M := []) (n := 2) [pc (40 : Nat) (((((!(decide (Pan.wide (gpan l k) < (1 : Int)) || decide ((65536 : Int) < Pan.wide (gpan l k)))) == true) = true → ((!(decide (Pan.wide (gpan l k) < (1 : Int)) || decide ((65536 : Int) < Pan.wide (gpan l k)))) == true) = true) ∧ True) ∧ (((!(decide (Pan.wide (gpan l k) < (1 : Int)) || decide ((65536 : Int) < Pan.wide (gpan l k)))) == true) = true → True)) (V.gd ((!(decide (Pan.wide (gpan l k) < (1 : Int)) || decide ((65536 : Int) < Pan.wide (gpan l k)))) == true) (V.b !(decide (Pan.high (gpan l k) < (1 : Int)) || decide ((65536 : Int) < Pan.high (gpan l k))))), pc (41 : Nat) (((!(decide (Pan.wide (gpan l k) < (1 : Int)) || decide ((65536 : Int) < Pan.wide (gpan l k)))) = true → ((!(decide (Pan.wide (gpan l k) < (1 : Int)) || decide ((65536 : Int) < Pan.wide (gpan l k)))) == true) = true) ∧ True) (V.b (!(decide (Pan.wide (gpan l k) < (1 : Int)) || decide ((65536 : Int) < Pan.wide (gpan l k))) && !(decide (Pan.high (gpan l k) < (1 : Int)) || decide ((65536 : Int) < Pan.high (gpan l k)))))] (by kernel_rfl) (by kernel_rfl) ⟨⟨⟨(by (exact fun h => h)), True.intro⟩, (fun _ => True.intro)⟩, ⟨(by (intro h; rw [h]; rfl)), True.intro⟩, True.intro⟩ ?_
    refine aops_nil ?_
    refine ⟨!(decide (Pan.wide (gpan l k) < (1 : Int)) || decide ((65536 : Int) < Pan.wide (gpan l k))) && !(decide (Pan.high (gpan l k) < (1 : Int)) || decide ((65536 : Int) < Pan.high (gpan l k))), (2 : Int), by kernel_rfl, by kernel_rfl, fun h1 => ?_, fun h1 => ?_⟩
    rotate_left
    · have hs : ¬ (gpan l k).szOk := by unfold Pan.szOk; simp at h1; omega
      have hE2 := netE_pan hne c1 hE (by rw [panE_sz hs]; omega)
      rw [panE_sz hs] at hE2
      refine xt_p ?_
      refine xb_p ?_
      refine xt_p ?_
      refine xt_p ?_
      refine xb_p ?_
      refine xt_p ?_
      rw [flatV, if_neg (by omega), hE2]
      exact .inr ⟨_, _, _, _, _, rfl, rfl, rfl, rfl, rfl, rfl⟩
    have hs : (gpan l k).szOk := by unfold Pan.szOk; simp at h1; omega
    have hsz := hs
    obtain ⟨⟨z1, z2⟩, z3, z4⟩ := hsz
    clear h1
    refine xt_n ?_
    refine hK _ ?_
    clear hK K
    refine aw_seq_k fun K hK => ?_
    refine aw_seq_k fun K hK => ?_
    refine w_region (n' := 5) (by kernel_rfl) (by kernel_rfl) ?_
    refine aops_n hTT (M := []) (n := 2) [pv (43 : Nat) (V.i (↑k : Int)), pv (44 : Nat) (V.b (decide ((↑k : Int) = (0 : Int))))] (by kernel_rfl) (by kernel_rfl) True.intro ?_
    refine aops_nil ?_
    refine xt_n ?_
    refine hK _ ?_
    clear hK K
    refine w_cond (t := decide ((↑k : Int) = (0 : Int))) (by kernel_rfl) (fun c2 => ?_) (fun c2 => ?_)
    · simp at c2
      subst c2
      refine aw_seq_k fun K hK => ?_
      refine aw_must hMust hF 13 (by kernel_rfl) rfl (by kernel_rfl) (n' := 6) (by kernel_rfl) ?_
      refine aops_n hTT (M := []) (n := 13) [pv (45 : Nat) (V.ref (200005 : Nat) (0 : Nat)), pc (46 : Nat) ((0 : Nat) ≤ (5 : Nat)) (V.i (Pan.on (gpan l (0 : Nat)))), pv (47 : Nat) (V.b (decide (Pan.on (gpan l (0 : Nat)) = (-1 : Int)))), pv (48 : Nat) (V.b (decide (Pan.on (gpan l (0 : Nat)) = (-1 : Int)))), pc (49 : Nat) ((True ∧ True) ∧ ((decide (Pan.on (gpan l (0 : Nat)) = (-1 : Int)) == true) = true → True)) (V.gd (decide (Pan.on (gpan l (0 : Nat)) = (-1 : Int)) == true) (V.ref (200005 : Nat) (1 : Nat))), pc (50 : Nat) ((((decide (Pan.on (gpan l (0 : Nat)) = (-1 : Int)) == true) = true → (decide (Pan.on (gpan l (0 : Nat)) = (-1 : Int)) == true) = true) ∧ True) ∧ ((decide (Pan.on (gpan l (0 : Nat)) = (-1 : Int)) == true) = true → (1 : Nat) ≤ (5 : Nat))) (V.gd (decide (Pan.on (gpan l (0 : Nat)) = (-1 : Int)) == true) (V.i (Pan.edge (gpan l (0 : Nat))))), pc (51 : Nat) ((((decide (Pan.on (gpan l (0 : Nat)) = (-1 : Int)) == true) = true → (decide (Pan.on (gpan l (0 : Nat)) = (-1 : Int)) == true) = true) ∧ True ∧ True) ∧ ((decide (Pan.on (gpan l (0 : Nat)) = (-1 : Int)) == true) = true → True)) (V.gd (decide (Pan.on (gpan l (0 : Nat)) = (-1 : Int)) == true) (V.b (decide (Pan.edge (gpan l (0 : Nat)) = (0 : Int))))), pc (52 : Nat) ((decide (Pan.on (gpan l (0 : Nat)) = (-1 : Int)) = true → (decide (Pan.on (gpan l (0 : Nat)) = (-1 : Int)) == true) = true) ∧ True) (V.b (decide (Pan.on (gpan l (0 : Nat)) = (-1 : Int)) && decide (Pan.edge (gpan l (0 : Nat)) = (0 : Int)))), pv (53 : Nat) (V.b (decide (Pan.on (gpan l (0 : Nat)) = (-1 : Int)) && decide (Pan.edge (gpan l (0 : Nat)) = (0 : Int)))), pc (54 : Nat) ((True ∧ True) ∧ (((decide (Pan.on (gpan l (0 : Nat)) = (-1 : Int)) && decide (Pan.edge (gpan l (0 : Nat)) = (0 : Int))) == true) = true → True)) (V.gd ((decide (Pan.on (gpan l (0 : Nat)) = (-1 : Int)) && decide (Pan.edge (gpan l (0 : Nat)) = (0 : Int))) == true) (V.ref (200005 : Nat) (2 : Nat))), pc (55 : Nat) (((((decide (Pan.on (gpan l (0 : Nat)) = (-1 : Int)) && decide (Pan.edge (gpan l (0 : Nat)) = (0 : Int))) == true) = true → ((decide (Pan.on (gpan l (0 : Nat)) = (-1 : Int)) && decide (Pan.edge (gpan l (0 : Nat)) = (0 : Int))) == true) = true) ∧ True) ∧ (((decide (Pan.on (gpan l (0 : Nat)) = (-1 : Int)) && decide (Pan.edge (gpan l (0 : Nat)) = (0 : Int))) == true) = true → (2 : Nat) ≤ (5 : Nat))) (V.gd ((decide (Pan.on (gpan l (0 : Nat)) = (-1 : Int)) && decide (Pan.edge (gpan l (0 : Nat)) = (0 : Int))) == true) (V.i (Pan.off (gpan l (0 : Nat))))), pc (56 : Nat) (((((decide (Pan.on (gpan l (0 : Nat)) = (-1 : Int)) && decide (Pan.edge (gpan l (0 : Nat)) = (0 : Int))) == true) = true → ((decide (Pan.on (gpan l (0 : Nat)) = (-1 : Int)) && decide (Pan.edge (gpan l (0 : Nat)) = (0 : Int))) == true) = true) ∧ True ∧ True) ∧ (((decide (Pan.on (gpan l (0 : Nat)) = (-1 : Int)) && decide (Pan.edge (gpan l (0 : Nat)) = (0 : Int))) == true) = true → True)) (V.gd ((decide (Pan.on (gpan l (0 : Nat)) = (-1 : Int)) && decide (Pan.edge (gpan l (0 : Nat)) = (0 : Int))) == true) (V.b (decide (Pan.off (gpan l (0 : Nat)) = (0 : Int))))), pc (57 : Nat) (((decide (Pan.on (gpan l (0 : Nat)) = (-1 : Int)) && decide (Pan.edge (gpan l (0 : Nat)) = (0 : Int))) = true → ((decide (Pan.on (gpan l (0 : Nat)) = (-1 : Int)) && decide (Pan.edge (gpan l (0 : Nat)) = (0 : Int))) == true) = true) ∧ True) (V.b (decide (Pan.on (gpan l (0 : Nat)) = (-1 : Int)) && decide (Pan.edge (gpan l (0 : Nat)) = (0 : Int)) && decide (Pan.off (gpan l (0 : Nat)) = (0 : Int))))] (by kernel_rfl) (by kernel_rfl) ⟨(by omega), ⟨⟨True.intro, True.intro⟩, (fun _ => True.intro)⟩, ⟨⟨(by (exact fun h => h)), True.intro⟩, (by (intro _; simp; done))⟩, ⟨⟨(by (exact fun h => h)), ⟨True.intro, True.intro⟩⟩, (fun _ => True.intro)⟩, ⟨(by (intro h; rw [h]; rfl)), True.intro⟩, ⟨⟨True.intro, True.intro⟩, (fun _ => True.intro)⟩, ⟨⟨(by (exact fun h => h)), True.intro⟩, (by (intro _; simp; done))⟩, ⟨⟨(by (exact fun h => h)), ⟨True.intro, True.intro⟩⟩, (fun _ => True.intro)⟩, ⟨(by (intro h; rw [h]; rfl)), True.intro⟩, True.intro⟩ ?_
      refine aops_nil ?_
      refine ⟨decide (Pan.on (gpan l (0 : Nat)) = (-1 : Int)) && decide (Pan.edge (gpan l (0 : Nat)) = (0 : Int)) && decide (Pan.off (gpan l (0 : Nat)) = (0 : Int)), (2 : Int), by kernel_rfl, by kernel_rfl, fun h1 => ?_, fun h1 => ?_⟩
      rotate_left
      · have ho : ¬ (gpan l 0).ok0 := by unfold Pan.ok0; simp at h1; omega
        have hE2 := netE_pan hne c1 hE (by rw [panE_0 hs ho]; omega)
        rw [panE_0 hs ho] at hE2
        refine xt_p ?_
        refine xt_p ?_
        refine xb_p ?_
        refine xt_p ?_
        refine xt_p ?_
        refine xb_p ?_
        refine xt_p ?_
        rw [flatV, if_neg (by omega), hE2]
        exact .inr ⟨_, _, _, _, _, rfl, rfl, rfl, rfl, rfl, rfl⟩
      have ho : (gpan l 0).ok0 := by unfold Pan.ok0; simp at h1; omega
      clear h1
      refine xt_n ?_
      refine hK _ ?_
      clear hK K
      refine aw_seq_k fun K hK => ?_
      refine w_region (n' := 7) (by kernel_rfl) (by kernel_rfl) ?_
      refine aops_n hTT (M := []) (n := 10) [pc (59 : Nat) ((0 : Nat) ≤ (1 : Nat)) (V.own (5 : Nat)), pv (60 : Nat) (V.ref (200005 : Nat) (3 : Nat)), pc (61 : Nat) ((3 : Nat) ≤ (5 : Nat)) (V.i (Pan.wide (gpan l (0 : Nat)))), pv (62 : Nat) (V.ref (200005 : Nat) (4 : Nat)), pc (63 : Nat) ((4 : Nat) ≤ (5 : Nat)) (V.i (Pan.high (gpan l (0 : Nat)))), pv (64 : Nat) (V.agg [V.i (0 : Int), V.i (0 : Int), V.i (Pan.wide (gpan l (0 : Nat))), V.i (Pan.high (gpan l (0 : Nat))), V.b false]), pv (65 : Nat) (V.agg [V.i (0 : Int), V.i (0 : Int), V.i (Pan.wide (gpan l (0 : Nat))), V.i (Pan.high (gpan l (0 : Nat))), V.b false]), pv (66 : Nat) (V.sl (5 : Nat) (1 : Nat) fun (i : Nat) => List.take (5 : Nat) (List.drop (i * (5 : Nat)) [V.i (0 : Int), V.i (0 : Int), V.i (Pan.wide (gpan l (0 : Nat))), V.i (Pan.high (gpan l (0 : Nat))), V.b false])), PR.mk (some (67 : Nat)) (some ((0 : Nat) + (1 : Nat) ≤ (1099511627776 : Nat))) (V.own (600067 : Nat)) [((5 : Nat), none), ((600067 : Nat), some (Ob.row (95 : Nat) (5 : Nat) (1 : Nat) (appRow (0 : Nat) (fun (j : Nat) => Rc.c (rcF l j)) fun (i : Nat) => List.take (5 : Nat) (List.drop (i * (5 : Nat)) [V.i (0 : Int), V.i (0 : Int), V.i (Pan.wide (gpan l (0 : Nat))), V.i (Pan.high (gpan l (0 : Nat))), V.b false]))))] false, pw ((0 : Nat) + (1 : Nat) ≤ (1 : Nat)) (500 : Nat) (Ob.box (90 : Nat) [V.own (600067 : Nat)])] (by kernel_rfl) (by kernel_rfl) ⟨(by omega), (by omega), (by omega), (by omega), (by omega), True.intro⟩ ?_
      refine aops_nil ?_
      refine xt_n ?_
      refine hK _ ?_
      clear hK K
      refine aw_exit ?_
      refine xt_x ?_
      refine xb_same ?_
      refine xt_n ?_
      clear hK K
      refine hK _ ?_
      clear hK K
      refine w_region (n' := 8) (by kernel_rfl) (by kernel_rfl) ?_
      refine aops_n hTT (M := []) (n := 2) [pc (122 : Nat) ((-9223372036854775808 : Int) ≤ (↑(0 : Nat) : Int) + (1 : Int) ∧ (↑(0 : Nat) : Int) + (1 : Int) ≤ (9223372036854775807 : Int)) (V.i ((↑(0 : Nat) : Int) + (1 : Int))), pv (27 : Nat) (V.i ((↑(0 : Nat) : Int) + (1 : Int)))] (by kernel_rfl) (by kernel_rfl) ⟨(by omega), True.intro⟩ ?_
      refine aops_nil ?_
      refine xt_n ?_
      refine ⟨1, ⟨by omega, by rw [fstE, if_pos hE]; exact panE_0ok hs ho⟩, ?_, by omega⟩
      refine le_ren (tl := [(2, V.ref (500 : Nat) (0 : Nat)), (3, V.ref (501 : Nat) (0 : Nat)), (25, V.sl (5 : Nat) (List.length l) fun (k : Nat) => Pan.c (gpan l k)), (26, V.i (↑(List.length l) : Int)), (27, V.i (↑(1 : Nat) : Int))]) (sl := [(500, Ob.box (90 : Nat) [V.own (5 : Nat)]), (501, Ob.box (25 : Nat) [V.i (0 : Int)]), (5, Ob.row (95 : Nat) (5 : Nat) (1 : Nat) fun (j : Nat) => Rc.c (rcF l j))]) [(5, 600067)] (.cons (by kernel_rfl) (.cons (by kernel_rfl) (.cons (by kernel_rfl) (.cons (by kernel_rfl) (.cons (by kernel_rfl) .nil))))) (.cons ⟨Ob.box (90 : Nat) [V.own (600067 : Nat)], (by kernel_rfl), .box (by kernel_rfl)⟩ (.cons ⟨Ob.box (25 : Nat) [V.i (0 : Int)], (by kernel_rfl), .box (by kernel_rfl)⟩ (.cons ⟨Ob.row (95 : Nat) (5 : Nat) (1 : Nat) (appRow (0 : Nat) (fun (j : Nat) => Rc.c (rcF l j)) fun (i : Nat) => List.take (5 : Nat) (List.drop (i * (5 : Nat)) [V.i (0 : Int), V.i (0 : Int), V.i (Pan.wide (gpan l (0 : Nat))), V.i (Pan.high (gpan l (0 : Nat))), V.b false])), (by kernel_rfl), .row (by kernel_rfl) ?_⟩ .nil))) (by kernel_rfl) (by kernel_rfl)
      exact appRow_ok (fun _ _ => rfl) (by rw [rcF_zero]; rfl)
    simp at c2
    refine aw_skip ?_
    refine xt_n ?_
    refine hK _ ?_
    clear hK K
    refine aw_seq_k fun K hK => ?_
    refine aw_must hMust hF 25 (by kernel_rfl) rfl (by kernel_rfl) (n' := 6) (by kernel_rfl) ?_
    refine aops_n hTT (M := []) (n := 22) [pv (68 : Nat) (V.ref (200005 : Nat) (0 : Nat)), pc (69 : Nat) ((0 : Nat) ≤ (5 : Nat)) (V.i (Pan.on (gpan l k))), pv (70 : Nat) (V.b (decide ((0 : Int) ≤ Pan.on (gpan l k)))), pv (71 : Nat) (V.b (decide ((0 : Int) ≤ Pan.on (gpan l k)))), pc (72 : Nat) ((True ∧ True) ∧ ((decide ((0 : Int) ≤ Pan.on (gpan l k)) == true) = true → True)) (V.gd (decide ((0 : Int) ≤ Pan.on (gpan l k)) == true) (V.ref (200005 : Nat) (0 : Nat))), pc (73 : Nat) ((((decide ((0 : Int) ≤ Pan.on (gpan l k)) == true) = true → (decide ((0 : Int) ≤ Pan.on (gpan l k)) == true) = true) ∧ True) ∧ ((decide ((0 : Int) ≤ Pan.on (gpan l k)) == true) = true → (0 : Nat) ≤ (5 : Nat))) (V.gd (decide ((0 : Int) ≤ Pan.on (gpan l k)) == true) (V.i (Pan.on (gpan l k)))), pc (74 : Nat) ((True ∧ True) ∧ ((decide ((0 : Int) ≤ Pan.on (gpan l k)) == true) = true → True)) (V.gd (decide ((0 : Int) ≤ Pan.on (gpan l k)) == true) (V.i (↑k : Int))), pc (75 : Nat) ((((decide ((0 : Int) ≤ Pan.on (gpan l k)) == true) = true → (decide ((0 : Int) ≤ Pan.on (gpan l k)) == true) = true) ∧ ((decide ((0 : Int) ≤ Pan.on (gpan l k)) == true) = true → (decide ((0 : Int) ≤ Pan.on (gpan l k)) == true) = true) ∧ True) ∧ ((decide ((0 : Int) ≤ Pan.on (gpan l k)) == true) = true → True)) (V.gd (decide ((0 : Int) ≤ Pan.on (gpan l k)) == true) (V.b (decide (Pan.on (gpan l k) < (↑k : Int))))), pc (76 : Nat) ((decide ((0 : Int) ≤ Pan.on (gpan l k)) = true → (decide ((0 : Int) ≤ Pan.on (gpan l k)) == true) = true) ∧ True) (V.b (decide ((0 : Int) ≤ Pan.on (gpan l k)) && decide (Pan.on (gpan l k) < (↑k : Int)))), pv (77 : Nat) (V.b (decide ((0 : Int) ≤ Pan.on (gpan l k)) && decide (Pan.on (gpan l k) < (↑k : Int)))), pc (78 : Nat) ((True ∧ True) ∧ (((decide ((0 : Int) ≤ Pan.on (gpan l k)) && decide (Pan.on (gpan l k) < (↑k : Int))) == true) = true → True)) (V.gd ((decide ((0 : Int) ≤ Pan.on (gpan l k)) && decide (Pan.on (gpan l k) < (↑k : Int))) == true) (V.ref (200005 : Nat) (1 : Nat))), pc (79 : Nat) (((((decide ((0 : Int) ≤ Pan.on (gpan l k)) && decide (Pan.on (gpan l k) < (↑k : Int))) == true) = true → ((decide ((0 : Int) ≤ Pan.on (gpan l k)) && decide (Pan.on (gpan l k) < (↑k : Int))) == true) = true) ∧ True) ∧ (((decide ((0 : Int) ≤ Pan.on (gpan l k)) && decide (Pan.on (gpan l k) < (↑k : Int))) == true) = true → (1 : Nat) ≤ (5 : Nat))) (V.gd ((decide ((0 : Int) ≤ Pan.on (gpan l k)) && decide (Pan.on (gpan l k) < (↑k : Int))) == true) (V.i (Pan.edge (gpan l k)))), pc (80 : Nat) (((((decide ((0 : Int) ≤ Pan.on (gpan l k)) && decide (Pan.on (gpan l k) < (↑k : Int))) == true) = true → ((decide ((0 : Int) ≤ Pan.on (gpan l k)) && decide (Pan.on (gpan l k) < (↑k : Int))) == true) = true) ∧ True ∧ True) ∧ (((decide ((0 : Int) ≤ Pan.on (gpan l k)) && decide (Pan.on (gpan l k) < (↑k : Int))) == true) = true → True)) (V.gd ((decide ((0 : Int) ≤ Pan.on (gpan l k)) && decide (Pan.on (gpan l k) < (↑k : Int))) == true) (V.b (decide ((0 : Int) ≤ Pan.edge (gpan l k))))), pc (81 : Nat) (((decide ((0 : Int) ≤ Pan.on (gpan l k)) && decide (Pan.on (gpan l k) < (↑k : Int))) = true → ((decide ((0 : Int) ≤ Pan.on (gpan l k)) && decide (Pan.on (gpan l k) < (↑k : Int))) == true) = true) ∧ True) (V.b (decide ((0 : Int) ≤ Pan.on (gpan l k)) && decide (Pan.on (gpan l k) < (↑k : Int)) && decide ((0 : Int) ≤ Pan.edge (gpan l k)))), pv (82 : Nat) (V.b (decide ((0 : Int) ≤ Pan.on (gpan l k)) && decide (Pan.on (gpan l k) < (↑k : Int)) && decide ((0 : Int) ≤ Pan.edge (gpan l k)))), pc (83 : Nat) ((True ∧ True) ∧ (((decide ((0 : Int) ≤ Pan.on (gpan l k)) && decide (Pan.on (gpan l k) < (↑k : Int)) && decide ((0 : Int) ≤ Pan.edge (gpan l k))) == true) = true → True)) (V.gd ((decide ((0 : Int) ≤ Pan.on (gpan l k)) && decide (Pan.on (gpan l k) < (↑k : Int)) && decide ((0 : Int) ≤ Pan.edge (gpan l k))) == true) (V.ref (200005 : Nat) (1 : Nat))), pc (84 : Nat) (((((decide ((0 : Int) ≤ Pan.on (gpan l k)) && decide (Pan.on (gpan l k) < (↑k : Int)) && decide ((0 : Int) ≤ Pan.edge (gpan l k))) == true) = true → ((decide ((0 : Int) ≤ Pan.on (gpan l k)) && decide (Pan.on (gpan l k) < (↑k : Int)) && decide ((0 : Int) ≤ Pan.edge (gpan l k))) == true) = true) ∧ True) ∧ (((decide ((0 : Int) ≤ Pan.on (gpan l k)) && decide (Pan.on (gpan l k) < (↑k : Int)) && decide ((0 : Int) ≤ Pan.edge (gpan l k))) == true) = true → (1 : Nat) ≤ (5 : Nat))) (V.gd ((decide ((0 : Int) ≤ Pan.on (gpan l k)) && decide (Pan.on (gpan l k) < (↑k : Int)) && decide ((0 : Int) ≤ Pan.edge (gpan l k))) == true) (V.i (Pan.edge (gpan l k)))), pc (85 : Nat) (((((decide ((0 : Int) ≤ Pan.on (gpan l k)) && decide (Pan.on (gpan l k) < (↑k : Int)) && decide ((0 : Int) ≤ Pan.edge (gpan l k))) == true) = true → ((decide ((0 : Int) ≤ Pan.on (gpan l k)) && decide (Pan.on (gpan l k) < (↑k : Int)) && decide ((0 : Int) ≤ Pan.edge (gpan l k))) == true) = true) ∧ True ∧ True) ∧ (((decide ((0 : Int) ≤ Pan.on (gpan l k)) && decide (Pan.on (gpan l k) < (↑k : Int)) && decide ((0 : Int) ≤ Pan.edge (gpan l k))) == true) = true → True)) (V.gd ((decide ((0 : Int) ≤ Pan.on (gpan l k)) && decide (Pan.on (gpan l k) < (↑k : Int)) && decide ((0 : Int) ≤ Pan.edge (gpan l k))) == true) (V.b (decide (Pan.edge (gpan l k) ≤ (3 : Int))))), pc (86 : Nat) (((decide ((0 : Int) ≤ Pan.on (gpan l k)) && decide (Pan.on (gpan l k) < (↑k : Int)) && decide ((0 : Int) ≤ Pan.edge (gpan l k))) = true → ((decide ((0 : Int) ≤ Pan.on (gpan l k)) && decide (Pan.on (gpan l k) < (↑k : Int)) && decide ((0 : Int) ≤ Pan.edge (gpan l k))) == true) = true) ∧ True) (V.b (decide ((0 : Int) ≤ Pan.on (gpan l k)) && decide (Pan.on (gpan l k) < (↑k : Int)) && decide ((0 : Int) ≤ Pan.edge (gpan l k)) && decide (Pan.edge (gpan l k) ≤ (3 : Int)))), pv (87 : Nat) (V.b (decide ((0 : Int) ≤ Pan.on (gpan l k)) && decide (Pan.on (gpan l k) < (↑k : Int)) && decide ((0 : Int) ≤ Pan.edge (gpan l k)) && decide (Pan.edge (gpan l k) ≤ (3 : Int)))), pc (88 : Nat) ((True ∧ True) ∧ (((decide ((0 : Int) ≤ Pan.on (gpan l k)) && decide (Pan.on (gpan l k) < (↑k : Int)) && decide ((0 : Int) ≤ Pan.edge (gpan l k)) && decide (Pan.edge (gpan l k) ≤ (3 : Int))) == true) = true → True)) (V.gd ((decide ((0 : Int) ≤ Pan.on (gpan l k)) && decide (Pan.on (gpan l k) < (↑k : Int)) && decide ((0 : Int) ≤ Pan.edge (gpan l k)) && decide (Pan.edge (gpan l k) ≤ (3 : Int))) == true) (V.ref (200005 : Nat) (2 : Nat))), pc (89 : Nat) (((((decide ((0 : Int) ≤ Pan.on (gpan l k)) && decide (Pan.on (gpan l k) < (↑k : Int)) && decide ((0 : Int) ≤ Pan.edge (gpan l k)) && decide (Pan.edge (gpan l k) ≤ (3 : Int))) == true) = true → ((decide ((0 : Int) ≤ Pan.on (gpan l k)) && decide (Pan.on (gpan l k) < (↑k : Int)) && decide ((0 : Int) ≤ Pan.edge (gpan l k)) && decide (Pan.edge (gpan l k) ≤ (3 : Int))) == true) = true) ∧ True) ∧ (((decide ((0 : Int) ≤ Pan.on (gpan l k)) && decide (Pan.on (gpan l k) < (↑k : Int)) && decide ((0 : Int) ≤ Pan.edge (gpan l k)) && decide (Pan.edge (gpan l k) ≤ (3 : Int))) == true) = true → (2 : Nat) ≤ (5 : Nat))) (V.gd ((decide ((0 : Int) ≤ Pan.on (gpan l k)) && decide (Pan.on (gpan l k) < (↑k : Int)) && decide ((0 : Int) ≤ Pan.edge (gpan l k)) && decide (Pan.edge (gpan l k) ≤ (3 : Int))) == true) (V.i (Pan.off (gpan l k))))] (by kernel_rfl) (by kernel_rfl) ⟨(by omega), ⟨⟨True.intro, True.intro⟩, (fun _ => True.intro)⟩, ⟨⟨(by (exact fun h => h)), True.intro⟩, (by (intro _; simp; done))⟩, ⟨⟨True.intro, True.intro⟩, (fun _ => True.intro)⟩, ⟨⟨(by (exact fun h => h)), ⟨(by (exact fun h => h)), True.intro⟩⟩, (fun _ => True.intro)⟩, ⟨(by (intro h; rw [h]; rfl)), True.intro⟩, ⟨⟨True.intro, True.intro⟩, (fun _ => True.intro)⟩, ⟨⟨(by (exact fun h => h)), True.intro⟩, (by (intro _; simp; done))⟩, ⟨⟨(by (exact fun h => h)), ⟨True.intro, True.intro⟩⟩, (fun _ => True.intro)⟩, ⟨(by (intro h; rw [h]; rfl)), True.intro⟩, ⟨⟨True.intro, True.intro⟩, (fun _ => True.intro)⟩, ⟨⟨(by (exact fun h => h)), True.intro⟩, (by (intro _; simp; done))⟩, ⟨⟨(by (exact fun h => h)), ⟨True.intro, True.intro⟩⟩, (fun _ => True.intro)⟩, ⟨(by (intro h; rw [h]; rfl)), True.intro⟩, ⟨⟨True.intro, True.intro⟩, (fun _ => True.intro)⟩, ⟨⟨(by (exact fun h => h)), True.intro⟩, (by (intro _; simp; done))⟩, True.intro⟩ ?_
    refine e_callG 1 (g := (decide ((0 : Int) ≤ Pan.on (gpan l k)) && decide (Pan.on (gpan l k) < (↑k : Int)) && decide ((0 : Int) ≤ Pan.edge (gpan l k)) && decide (Pan.edge (gpan l k) ≤ (3 : Int))) == true) (first := []) (caps := []) (by kernel_rfl) (fun h => soutside_ac (gpan l k).off (-65536) 65536) (by kernel_rfl) (by kernel_rfl) (by kernel_rfl) (by kernel_rfl) (by kernel_rfl) (by kernel_rfl) ?_
    refine aops_n hTT (M := []) (n := 2) [pc (91 : Nat) (((((decide ((0 : Int) ≤ Pan.on (gpan l k)) && decide (Pan.on (gpan l k) < (↑k : Int)) && decide ((0 : Int) ≤ Pan.edge (gpan l k)) && decide (Pan.edge (gpan l k) ≤ (3 : Int))) == true) = true → ((decide ((0 : Int) ≤ Pan.on (gpan l k)) && decide (Pan.on (gpan l k) < (↑k : Int)) && decide ((0 : Int) ≤ Pan.edge (gpan l k)) && decide (Pan.edge (gpan l k) ≤ (3 : Int))) == true) = true) ∧ True) ∧ (((decide ((0 : Int) ≤ Pan.on (gpan l k)) && decide (Pan.on (gpan l k) < (↑k : Int)) && decide ((0 : Int) ≤ Pan.edge (gpan l k)) && decide (Pan.edge (gpan l k) ≤ (3 : Int))) == true) = true → True)) (V.gd ((decide ((0 : Int) ≤ Pan.on (gpan l k)) && decide (Pan.on (gpan l k) < (↑k : Int)) && decide ((0 : Int) ≤ Pan.edge (gpan l k)) && decide (Pan.edge (gpan l k) ≤ (3 : Int))) == true) (V.b !(decide (Pan.off (gpan l k) < (-65536 : Int)) || decide ((65536 : Int) < Pan.off (gpan l k))))), pc (92 : Nat) (((decide ((0 : Int) ≤ Pan.on (gpan l k)) && decide (Pan.on (gpan l k) < (↑k : Int)) && decide ((0 : Int) ≤ Pan.edge (gpan l k)) && decide (Pan.edge (gpan l k) ≤ (3 : Int))) = true → ((decide ((0 : Int) ≤ Pan.on (gpan l k)) && decide (Pan.on (gpan l k) < (↑k : Int)) && decide ((0 : Int) ≤ Pan.edge (gpan l k)) && decide (Pan.edge (gpan l k) ≤ (3 : Int))) == true) = true) ∧ True) (V.b (decide ((0 : Int) ≤ Pan.on (gpan l k)) && decide (Pan.on (gpan l k) < (↑k : Int)) && decide ((0 : Int) ≤ Pan.edge (gpan l k)) && decide (Pan.edge (gpan l k) ≤ (3 : Int)) && !(decide (Pan.off (gpan l k) < (-65536 : Int)) || decide ((65536 : Int) < Pan.off (gpan l k)))))] (by kernel_rfl) (by kernel_rfl) ⟨⟨⟨(by (exact fun h => h)), True.intro⟩, (fun _ => True.intro)⟩, ⟨(by (intro h; rw [h]; rfl)), True.intro⟩, True.intro⟩ ?_
    refine aops_nil ?_
    refine ⟨decide ((0 : Int) ≤ Pan.on (gpan l k)) && decide (Pan.on (gpan l k) < (↑k : Int)) && decide ((0 : Int) ≤ Pan.edge (gpan l k)) && decide (Pan.edge (gpan l k) ≤ (3 : Int)) && !(decide (Pan.off (gpan l k) < (-65536 : Int)) || decide ((65536 : Int) < Pan.off (gpan l k))), (2 : Int), by kernel_rfl, by kernel_rfl, fun h1 => ?_, fun h1 => ?_⟩
    rotate_left
    · have ho : ¬ (gpan l k).okI k := by unfold Pan.okI; simp at h1; omega
      have hE2 := netE_pan hne c1 hE (by rw [panE_I (by omega) hs ho]; omega)
      rw [panE_I (by omega) hs ho] at hE2
      refine xt_p ?_
      refine xb_p ?_
      refine xt_p ?_
      refine xt_p ?_
      refine xb_p ?_
      refine xt_p ?_
      rw [flatV, if_neg (by omega), hE2]
      exact .inr ⟨_, _, _, _, _, rfl, rfl, rfl, rfl, rfl, rfl⟩
    have ho : (gpan l k).okI k := by unfold Pan.okI; simp at h1; omega
    have ho2 := ho
    obtain ⟨⟨o1, o2⟩, ⟨o3, o4⟩, o5⟩ := ho2
    clear h1
    have hall : ∀ j, j < k → (gpan l j).szOk ∧ (0 < j → (gpan l j).okI j) := fun j hj => by
      obtain ⟨p1, _, p3⟩ := panE_inv (fstE_ok.1 hE j hj)
      exact ⟨p1, fun h => (p3 h).1⟩
    have hall2 : ∀ j, j ≤ k → (gpan l j).szOk ∧ (0 < j → (gpan l j).okI j) := fun j hj => by
      by_cases he : j = k
      · subst he; exact ⟨hs, fun _ => ho⟩
      · exact hall j (by omega)
    have hon : (gpan l k).on.toNat < k := by omega
    have b1 : (rcF l (gpan l k).on.toNat).bd 1703936 := Rc.bd_mono (rcF_bd _ fun j hj => hall2 j (by omega)) (by omega)
    have b2 : (rcF l k).bd 1703936 := Rc.bd_mono (rcF_bd k hall2) (by omega)
    have A1 := hang_ac _ _ (Rc.bd_mono b1 (by omega)) hs o5
    rw [← rcF_succ l (by omega) hon] at A1
    have A2 := common_ac _ _ (Rc.bd_mono b2 (by omega)) (Rc.bd_mono b1 (by omega))
    rw [comW_comm, comH_comm] at A2
    refine xt_n ?_
    refine hK _ ?_
    clear hK K
    refine aw_seq_k fun K hK => ?_
    refine w_regionD (n' := 7) (by kernel_rfl) (by kernel_rfl) ?_
    refine aops_n hTT (M := []) (n := 6) [pc (94 : Nat) ((0 : Nat) ≤ (1 : Nat)) (V.own (5 : Nat)), pv (95 : Nat) (V.ref (200005 : Nat) (0 : Nat)), pc (96 : Nat) ((0 : Nat) ≤ (5 : Nat)) (V.i (Pan.on (gpan l k))), pc (97 : Nat) ((0 : Int) ≤ Pan.on (gpan l k) ∧ Pan.on (gpan l k) < (↑k : Int)) (V.oel (5 : Nat) (5 : Nat) (Int.toNat (Pan.on (gpan l k))) (0 : Nat)), pc (98 : Nat) (Int.toNat (Pan.on (gpan l k)) < k ∧ (0 : Nat) ≤ (5 : Nat)) (V.agg [V.i (Rc.x0 (rcF l (Int.toNat (Pan.on (gpan l k))))), V.i (Rc.y0 (rcF l (Int.toNat (Pan.on (gpan l k))))), V.i (Rc.x1 (rcF l (Int.toNat (Pan.on (gpan l k))))), V.i (Rc.y1 (rcF l (Int.toNat (Pan.on (gpan l k))))), V.b (Rc.down (rcF l (Int.toNat (Pan.on (gpan l k)))))]), pc (99 : Nat) ((0 : Nat) ≤ (5 : Nat)) (V.agg [V.i (Pan.on (gpan l k)), V.i (Pan.edge (gpan l k)), V.i (Pan.off (gpan l k)), V.i (Pan.wide (gpan l k)), V.i (Pan.high (gpan l k))])] (by kernel_rfl) (by kernel_rfl) ⟨(by omega), (by omega), (by omega), (by omega), (by omega), True.intro⟩ ?_
    refine e_call (first := []) (caps := []) (A1) (by kernel_rfl) (by kernel_rfl) (by kernel_rfl) (by kernel_rfl) (by kernel_rfl) ?_
    refine aops_n hTT (M := []) (n := 2) [pn (6 : Nat) (V.ref (600006 : Nat) (0 : Nat)) (600006 : Nat) (Ob.box (95 : Nat) [V.i (0 : Int), V.i (0 : Int), V.i (0 : Int), V.i (0 : Int), V.b false]), pw ((0 : Nat) + (5 : Nat) ≤ (5 : Nat)) (600006 : Nat) (Ob.box (95 : Nat) [V.i (Rc.x0 (rcF l k)), V.i (Rc.y0 (rcF l k)), V.i (Rc.x1 (rcF l k)), V.i (Rc.y1 (rcF l k)), V.b (Rc.down (rcF l k))])] (by kernel_rfl) (by kernel_rfl) ⟨(by omega), True.intro⟩ ?_
    refine aops_nil ⟨by kernel_rfl, ?_⟩
    refine xt_n ?_
    refine hK _ ?_
    clear hK K
    refine aw_seq_k fun K hK => ?_
    refine w_regionD (n' := 8) (by kernel_rfl) (by kernel_rfl) ?_
    refine aops_n hTT (M := []) (n := 6) [pc (102 : Nat) ((0 : Nat) ≤ (5 : Nat)) (V.agg [V.i (Rc.x0 (rcF l k)), V.i (Rc.y0 (rcF l k)), V.i (Rc.x1 (rcF l k)), V.i (Rc.y1 (rcF l k)), V.b (Rc.down (rcF l k))]), pc (103 : Nat) ((0 : Nat) ≤ (1 : Nat)) (V.own (5 : Nat)), pv (104 : Nat) (V.ref (200005 : Nat) (0 : Nat)), pc (105 : Nat) ((0 : Nat) ≤ (5 : Nat)) (V.i (Pan.on (gpan l k))), pc (106 : Nat) ((0 : Int) ≤ Pan.on (gpan l k) ∧ Pan.on (gpan l k) < (↑k : Int)) (V.oel (5 : Nat) (5 : Nat) (Int.toNat (Pan.on (gpan l k))) (0 : Nat)), pc (107 : Nat) (Int.toNat (Pan.on (gpan l k)) < k ∧ (0 : Nat) ≤ (5 : Nat)) (V.agg [V.i (Rc.x0 (rcF l (Int.toNat (Pan.on (gpan l k))))), V.i (Rc.y0 (rcF l (Int.toNat (Pan.on (gpan l k))))), V.i (Rc.x1 (rcF l (Int.toNat (Pan.on (gpan l k))))), V.i (Rc.y1 (rcF l (Int.toNat (Pan.on (gpan l k))))), V.b (Rc.down (rcF l (Int.toNat (Pan.on (gpan l k)))))])] (by kernel_rfl) (by kernel_rfl) ⟨(by omega), (by omega), (by omega), (by omega), (by omega), True.intro⟩ ?_
    refine e_call (first := []) (caps := []) (A2) (by kernel_rfl) (by kernel_rfl) (by kernel_rfl) (by kernel_rfl) (by kernel_rfl) ?_
    refine aops_n hTT (M := []) (n := 5) [pv (101 : Nat) (V.tup [V.i (comW (rcF l (Int.toNat (Pan.on (gpan l k)))) (rcF l k)), V.i (comH (rcF l (Int.toNat (Pan.on (gpan l k)))) (rcF l k))]), pv (109 : Nat) (V.i (comW (rcF l (Int.toNat (Pan.on (gpan l k)))) (rcF l k))), pv (110 : Nat) (V.i (comH (rcF l (Int.toNat (Pan.on (gpan l k)))) (rcF l k))), pv (7 : Nat) (V.i (comW (rcF l (Int.toNat (Pan.on (gpan l k)))) (rcF l k))), pv (8 : Nat) (V.i (comH (rcF l (Int.toNat (Pan.on (gpan l k)))) (rcF l k)))] (by kernel_rfl) (by kernel_rfl) True.intro ?_
    refine aops_nil ⟨by kernel_rfl, ?_⟩
    refine xt_n ?_
    refine hK _ ?_
    clear hK K
    refine aw_seq_k fun K hK => ?_
    refine aw_must hMust hF 6 (by kernel_rfl) rfl (by kernel_rfl) (n' := 9) (by kernel_rfl) ?_
    refine aops_n hTT (M := []) (n := 6) [pv (111 : Nat) (V.i (comW (rcF l (Int.toNat (Pan.on (gpan l k)))) (rcF l k))), pv (112 : Nat) (V.b (decide ((0 : Int) < comW (rcF l (Int.toNat (Pan.on (gpan l k)))) (rcF l k)))), pv (113 : Nat) (V.b (decide ((0 : Int) < comW (rcF l (Int.toNat (Pan.on (gpan l k)))) (rcF l k)))), pc (114 : Nat) ((True ∧ True) ∧ ((decide ((0 : Int) < comW (rcF l (Int.toNat (Pan.on (gpan l k)))) (rcF l k)) == false) = true → True)) (V.gd (decide ((0 : Int) < comW (rcF l (Int.toNat (Pan.on (gpan l k)))) (rcF l k)) == false) (V.i (comH (rcF l (Int.toNat (Pan.on (gpan l k)))) (rcF l k)))), pc (115 : Nat) ((((decide ((0 : Int) < comW (rcF l (Int.toNat (Pan.on (gpan l k)))) (rcF l k)) == false) = true → (decide ((0 : Int) < comW (rcF l (Int.toNat (Pan.on (gpan l k)))) (rcF l k)) == false) = true) ∧ True ∧ True) ∧ ((decide ((0 : Int) < comW (rcF l (Int.toNat (Pan.on (gpan l k)))) (rcF l k)) == false) = true → True)) (V.gd (decide ((0 : Int) < comW (rcF l (Int.toNat (Pan.on (gpan l k)))) (rcF l k)) == false) (V.b (decide ((0 : Int) < comH (rcF l (Int.toNat (Pan.on (gpan l k)))) (rcF l k))))), pc (116 : Nat) (True ∧ (decide ((0 : Int) < comW (rcF l (Int.toNat (Pan.on (gpan l k)))) (rcF l k)) = false → (decide ((0 : Int) < comW (rcF l (Int.toNat (Pan.on (gpan l k)))) (rcF l k)) == false) = true)) (V.b (decide ((0 : Int) < comW (rcF l (Int.toNat (Pan.on (gpan l k)))) (rcF l k)) || decide ((0 : Int) < comH (rcF l (Int.toNat (Pan.on (gpan l k)))) (rcF l k))))] (by kernel_rfl) (by kernel_rfl) ⟨⟨⟨True.intro, True.intro⟩, (fun _ => True.intro)⟩, ⟨⟨(by (exact fun h => h)), ⟨True.intro, True.intro⟩⟩, (fun _ => True.intro)⟩, ⟨True.intro, (by (intro h; rw [h]; rfl))⟩, True.intro⟩ ?_
    refine aops_nil ?_
    refine ⟨decide ((0 : Int) < comW (rcF l (Int.toNat (Pan.on (gpan l k)))) (rcF l k)) || decide ((0 : Int) < comH (rcF l (Int.toNat (Pan.on (gpan l k)))) (rcF l k)), (5 : Int), by kernel_rfl, by kernel_rfl, fun h1 => ?_, fun h1 => ?_⟩
    rotate_left
    · have ht : comW (rcF l (gpan l k).on.toNat) (rcF l k) ≤ 0 ∧ comH (rcF l (gpan l k).on.toNat) (rcF l k) ≤ 0 := by simp at h1; omega
      have hE2 := netE_pan hne c1 hE (by rw [panE_T (by omega) hs ho ht]; omega)
      rw [panE_T (by omega) hs ho ht] at hE2
      refine xt_p ?_
      refine xb_p ?_
      refine xt_p ?_
      refine xt_p ?_
      refine xb_p ?_
      refine xt_p ?_
      rw [flatV, if_neg (by omega), hE2]
      exact .inr ⟨_, _, _, _, _, rfl, rfl, rfl, rfl, rfl, rfl⟩
    have ht : ¬ (comW (rcF l (gpan l k).on.toNat) (rcF l k) ≤ 0 ∧ comH (rcF l (gpan l k).on.toNat) (rcF l k) ≤ 0) := by simp at h1; omega
    clear h1
    refine xt_n ?_
    refine hK _ ?_
    clear hK K
    refine w_region (n' := 10) (by kernel_rfl) (by kernel_rfl) ?_
    refine aops_n hTT (M := []) (n := 5) [pc (118 : Nat) ((0 : Nat) ≤ (1 : Nat)) (V.own (5 : Nat)), pc (119 : Nat) ((0 : Nat) ≤ (5 : Nat)) (V.agg [V.i (Rc.x0 (rcF l k)), V.i (Rc.y0 (rcF l k)), V.i (Rc.x1 (rcF l k)), V.i (Rc.y1 (rcF l k)), V.b (Rc.down (rcF l k))]), pv (120 : Nat) (V.sl (5 : Nat) (1 : Nat) fun (i : Nat) => List.take (5 : Nat) (List.drop (i * (5 : Nat)) [V.i (Rc.x0 (rcF l k)), V.i (Rc.y0 (rcF l k)), V.i (Rc.x1 (rcF l k)), V.i (Rc.y1 (rcF l k)), V.b (Rc.down (rcF l k))])), PR.mk (some (121 : Nat)) (some (k + (1 : Nat) ≤ (1099511627776 : Nat))) (V.own (900121 : Nat)) [((5 : Nat), none), ((900121 : Nat), some (Ob.row (95 : Nat) (5 : Nat) (k + (1 : Nat)) (appRow k (fun (j : Nat) => Rc.c (rcF l j)) fun (i : Nat) => List.take (5 : Nat) (List.drop (i * (5 : Nat)) [V.i (Rc.x0 (rcF l k)), V.i (Rc.y0 (rcF l k)), V.i (Rc.x1 (rcF l k)), V.i (Rc.y1 (rcF l k)), V.b (Rc.down (rcF l k))]))))] false, pw ((0 : Nat) + (1 : Nat) ≤ (1 : Nat)) (500 : Nat) (Ob.box (90 : Nat) [V.own (900121 : Nat)])] (by kernel_rfl) (by kernel_rfl) ⟨(by omega), (by omega), (by omega), (by omega), True.intro⟩ ?_
    refine aops_nil ?_
    refine xb_n ?_
    refine xt_n ?_
    refine hK _ ?_
    clear hK K
    refine w_region (n' := 11) (by kernel_rfl) (by kernel_rfl) ?_
    refine aops_n hTT (M := []) (n := 2) [pc (122 : Nat) ((-9223372036854775808 : Int) ≤ (↑k : Int) + (1 : Int) ∧ (↑k : Int) + (1 : Int) ≤ (9223372036854775807 : Int)) (V.i ((↑k : Int) + (1 : Int))), pv (27 : Nat) (V.i ((↑k : Int) + (1 : Int)))] (by kernel_rfl) (by kernel_rfl) ⟨(by omega), True.intro⟩ ?_
    refine aops_nil ?_
    refine xt_n ?_
    refine ⟨k + 1, ⟨by omega, by rw [fstE, if_pos hE]; exact panE_ok (by omega) hs ho ht⟩, ?_, by omega⟩
    refine le_ren (tl := [(2, V.ref (500 : Nat) (0 : Nat)), (3, V.ref (501 : Nat) (0 : Nat)), (25, V.sl (5 : Nat) (List.length l) fun (k : Nat) => Pan.c (gpan l k)), (26, V.i (↑(List.length l) : Int)), (27, V.i (↑(k + (1 : Nat)) : Int))]) (sl := [(500, Ob.box (90 : Nat) [V.own (5 : Nat)]), (501, Ob.box (25 : Nat) [V.i (0 : Int)]), (5, Ob.row (95 : Nat) (5 : Nat) (k + (1 : Nat)) fun (j : Nat) => Rc.c (rcF l j))]) [(5, 900121)] (.cons (by kernel_rfl) (.cons (by kernel_rfl) (.cons (by kernel_rfl) (.cons (by kernel_rfl) (.cons (by kernel_rfl) .nil))))) (.cons ⟨Ob.box (90 : Nat) [V.own (900121 : Nat)], (by kernel_rfl), .box (by kernel_rfl)⟩ (.cons ⟨Ob.box (25 : Nat) [V.i (0 : Int)], (by kernel_rfl), .box (by kernel_rfl)⟩ (.cons ⟨Ob.row (95 : Nat) (5 : Nat) (k + (1 : Nat)) (appRow k (fun (j : Nat) => Rc.c (rcF l j)) fun (i : Nat) => List.take (5 : Nat) (List.drop (i * (5 : Nat)) [V.i (Rc.x0 (rcF l k)), V.i (Rc.y0 (rcF l k)), V.i (Rc.x1 (rcF l k)), V.i (Rc.y1 (rcF l k)), V.b (Rc.down (rcF l k))])), (by kernel_rfl), .row (by kernel_rfl) ?_⟩ .nil))) (by kernel_rfl) (by kernel_rfl)
    exact appRow_ok (fun _ _ => rfl) rfl
  simp at c1
  obtain rfl : k = l.length := by omega
  refine aw_exit ?_
  refine xt_x ?_
  refine xt_x ?_
  refine xb_same ?_
  refine xt_n ?_
  clear hK K
  refine hK _ ?_
  clear hK K
  refine aw_seq_k fun K hK => ?_
  refine aw_seq_k fun K hK => ?_
  refine w_region (n' := 3) (by kernel_rfl) (by kernel_rfl) ?_
  refine aops_n hTT (M := []) (n := 3) [pc (123 : Nat) ((0 : Nat) ≤ (1 : Nat)) (V.own (5 : Nat)), pv (124 : Nat) (V.i (↑(List.length l) : Int)), pv (125 : Nat) (V.i (0 : Int))] (by kernel_rfl) (by kernel_rfl) ⟨(by omega), True.intro⟩ ?_
  refine aops_nil ?_
  refine xt_n ?_
  refine hK _ ?_
  clear hK K
  refine aw_block ?_
  refine w_le (le_freezeIn 5 (e := (95 : Nat)) (sz := (5 : Nat)) (n := List.length l) (n' := l.length) (row := fun (j : Nat) => Rc.c (rcF l j)) (row' := (fun j => (rcF l j).c)) (by kernel_rfl) (fun _ => rfl) ?_ ?_) ?_
  · rfl
  · exact fun _ _ => rfl
  have hbd : ∀ i, i < l.length → (rcF l i).bd 1703936 := fun i hi => Rc.bd_mono (rcF_bd i fun j hj => by
    obtain ⟨p1, _, p3⟩ := panE_inv (fstE_ok.1 hE j (by omega))
    exact ⟨p1, fun h => (p3 h).1⟩) (by omega)
  refine w_loop (ι := Nat) (fun k => [(2, .ref 500 0), (3, .ref 501 0), (123, V.rcs l.length (rcF l)), (124, .i l.length), (125, .i k)]) (fun k => [(500, .box 90 [V.rcs l.length (rcF l)]), (501, .box 25 [.i 0])]) (fun k => k ≤ l.length ∧ ∀ i j, j < i → i < k → ¬ lapB l i j) (fun k => l.length - k) 0 ⟨Nat.zero_le _, fun i j _ hi => by omega⟩ ?_ ?_
  · refine le_ren (sl := [(500, Ob.box (90 : Nat) [V.sl (5 : Nat) (List.length l) fun (k : Nat) => Rc.c (rcF l k)]), (501, Ob.box (25 : Nat) [V.i (0 : Int)])]) [] (.cons (by kernel_rfl) (.cons (by kernel_rfl) (.cons (by kernel_rfl) (.cons (by kernel_rfl) (.cons (by kernel_rfl) .nil))))) (.cons ⟨Ob.box (90 : Nat) [V.sl (5 : Nat) (List.length l) fun (j : Nat) => Rc.c (rcF l j)], (by kernel_rfl), .box (by kernel_rfl)⟩ (.cons ⟨Ob.box (25 : Nat) [V.i (0 : Int)], (by kernel_rfl), .box (by kernel_rfl)⟩ .nil)) (by kernel_rfl) (by kernel_rfl)
  rintro i ⟨hi, hL⟩
  refine aw_seq_k fun K hK => ?_
  refine w_region (n' := 2) (by kernel_rfl) (by kernel_rfl) ?_
  refine aops_n hTT (M := []) (n := 1) [pv (126 : Nat) (V.b (decide ((↑i : Int) < (↑(List.length l) : Int))))] (by kernel_rfl) (by kernel_rfl) True.intro ?_
  refine aops_nil ?_
  refine xt_n ?_
  refine hK _ ?_
  clear hK K
  refine aw_seq_k fun K hK => ?_
  refine w_cond (t := decide ((↑i : Int) < (↑(List.length l) : Int))) (by kernel_rfl) (fun c1 => ?_) (fun c1 => ?_)
  · simp at c1
    refine aw_skip ?_
    refine xt_n ?_
    refine hK _ ?_
    clear hK K
    refine aw_seq_k fun K hK => ?_
    refine aw_block ?_
    refine aw_seq_k fun K hK => ?_
    refine w_region (n' := 3) (by kernel_rfl) (by kernel_rfl) ?_
    refine aops_n hTT (M := []) (n := 6) [pv (127 : Nat) (V.i (↑i : Int)), pc (128 : Nat) ((0 : Int) ≤ (↑i : Int) ∧ (↑i : Int) < (↑(List.length l) : Int)) (V.ptr [V.i (Rc.x0 (rcF l i)), V.i (Rc.y0 (rcF l i)), V.i (Rc.x1 (rcF l i)), V.i (Rc.y1 (rcF l i)), V.b (Rc.down (rcF l i))]), pv (129 : Nat) (V.agg [V.i (Rc.x0 (rcF l i)), V.i (Rc.y0 (rcF l i)), V.i (Rc.x1 (rcF l i)), V.i (Rc.y1 (rcF l i)), V.b (Rc.down (rcF l i))]), pn (10 : Nat) (V.ref (200010 : Nat) (0 : Nat)) (200010 : Nat) (Ob.box (95 : Nat) [V.i (0 : Int), V.i (0 : Int), V.i (0 : Int), V.i (0 : Int), V.b false]), pv (9 : Nat) (V.i (↑i : Int)), pw ((0 : Nat) + (5 : Nat) ≤ (5 : Nat)) (200010 : Nat) (Ob.box (95 : Nat) [V.i (Rc.x0 (rcF l i)), V.i (Rc.y0 (rcF l i)), V.i (Rc.x1 (rcF l i)), V.i (Rc.y1 (rcF l i)), V.b (Rc.down (rcF l i))])] (by kernel_rfl) (by kernel_rfl) ⟨(by omega), (by omega), True.intro⟩ ?_
    refine aops_nil ?_
    refine xt_n ?_
    refine hK _ ?_
    clear hK K
    refine aw_seq_k fun K hK => ?_
    refine w_region (n' := 4) (by kernel_rfl) (by kernel_rfl) ?_
    refine aops_n hTT (M := []) (n := 5) [pc (130 : Nat) ((0 : Nat) ≤ (1 : Nat)) (V.sl (5 : Nat) (List.length l) fun (k : Nat) => Rc.c (rcF l k)), pv (131 : Nat) (V.i (↑i : Int)), pc (132 : Nat) ((0 : Int) ≤ (0 : Int) ∧ (0 : Int) ≤ (↑i : Int) ∧ (↑i : Int) ≤ (↑(List.length l) : Int)) (V.sl (5 : Nat) (i - (0 : Nat)) fun (i : Nat) => Rc.c (rcF l (i + (0 : Nat)))), pv (133 : Nat) (V.i (↑(i - (0 : Nat)) : Int)), pv (134 : Nat) (V.i (0 : Int))] (by kernel_rfl) (by kernel_rfl) ⟨(by omega), ⟨(by omega), (by omega)⟩, True.intro⟩ ?_
    refine aops_nil ?_
    refine xt_n ?_
    refine hK _ ?_
    clear hK K
    refine aw_block ?_
    refine w_loop (ι := Nat) (fun k => [(2, .ref 500 0), (3, .ref 501 0), (10, .ref 10 0), (123, V.rcs l.length (rcF l)), (124, .i l.length), (125, .i i), (132, V.rcs i (rcF l)), (133, .i i), (134, .i k)]) (fun k => [(500, .box 90 [V.rcs l.length (rcF l)]), (501, .box 25 [.i 0]), (10, .box 95 (rcF l i).c)]) (fun k => k ≤ i ∧ ∀ j, j < k → ¬ lapB l i j) (fun k => i - k) 0 ⟨Nat.zero_le _, fun j hj => by omega⟩ ?_ ?_
    · refine le_ren (sl := [(500, Ob.box (90 : Nat) [V.sl (5 : Nat) (List.length l) fun (k : Nat) => Rc.c (rcF l k)]), (501, Ob.box (25 : Nat) [V.i (0 : Int)]), (10, Ob.box (95 : Nat) [V.i (Rc.x0 (rcF l i)), V.i (Rc.y0 (rcF l i)), V.i (Rc.x1 (rcF l i)), V.i (Rc.y1 (rcF l i)), V.b (Rc.down (rcF l i))])]) [(10, 200010)] (.cons (by kernel_rfl) (.cons (by kernel_rfl) (.cons (by kernel_rfl) (.cons (by kernel_rfl) (.cons (by kernel_rfl) (.cons (by kernel_rfl) (.cons (by kernel_rfl) (.cons (by kernel_rfl) (.cons (by kernel_rfl) .nil))))))))) (.cons ⟨Ob.box (90 : Nat) [V.sl (5 : Nat) (List.length l) fun (k : Nat) => Rc.c (rcF l k)], (by kernel_rfl), .box (by kernel_rfl)⟩ (.cons ⟨Ob.box (25 : Nat) [V.i (0 : Int)], (by kernel_rfl), .box (by kernel_rfl)⟩ (.cons ⟨Ob.box (95 : Nat) [V.i (Rc.x0 (rcF l i)), V.i (Rc.y0 (rcF l i)), V.i (Rc.x1 (rcF l i)), V.i (Rc.y1 (rcF l i)), V.b (Rc.down (rcF l i))], (by kernel_rfl), .box (by kernel_rfl)⟩ .nil))) (by kernel_rfl) (by kernel_rfl)
    rintro k ⟨hk, hM⟩
    refine aw_seq_k fun K hK => ?_
    refine w_region (n' := 2) (by kernel_rfl) (by kernel_rfl) ?_
    refine aops_n hTT (M := []) (n := 1) [pv (135 : Nat) (V.b (decide ((↑k : Int) < (↑i : Int))))] (by kernel_rfl) (by kernel_rfl) True.intro ?_
    refine aops_nil ?_
    refine xt_n ?_
    refine hK _ ?_
    clear hK K
    refine aw_seq_k fun K hK => ?_
    refine w_cond (t := decide ((↑k : Int) < (↑i : Int))) (by kernel_rfl) (fun c2 => ?_) (fun c2 => ?_)
    · simp at c2
      refine aw_skip ?_
      refine xt_n ?_
      refine hK _ ?_
      clear hK K
      refine aw_seq_k fun K hK => ?_
      refine aw_block ?_
      refine aw_seq_k fun K hK => ?_
      refine w_region (n' := 3) (by kernel_rfl) (by kernel_rfl) ?_
      refine aops_n hTT (M := []) (n := 4) [pc (136 : Nat) ((0 : Int) ≤ (↑k : Int) ∧ (↑k : Int) < (↑i : Int)) (V.ptr [V.i (Rc.x0 (rcF l k)), V.i (Rc.y0 (rcF l k)), V.i (Rc.x1 (rcF l k)), V.i (Rc.y1 (rcF l k)), V.b (Rc.down (rcF l k))]), pv (137 : Nat) (V.agg [V.i (Rc.x0 (rcF l k)), V.i (Rc.y0 (rcF l k)), V.i (Rc.x1 (rcF l k)), V.i (Rc.y1 (rcF l k)), V.b (Rc.down (rcF l k))]), pn (12 : Nat) (V.ref (200012 : Nat) (0 : Nat)) (200012 : Nat) (Ob.box (95 : Nat) [V.i (0 : Int), V.i (0 : Int), V.i (0 : Int), V.i (0 : Int), V.b false]), pw ((0 : Nat) + (5 : Nat) ≤ (5 : Nat)) (200012 : Nat) (Ob.box (95 : Nat) [V.i (Rc.x0 (rcF l k)), V.i (Rc.y0 (rcF l k)), V.i (Rc.x1 (rcF l k)), V.i (Rc.y1 (rcF l k)), V.b (Rc.down (rcF l k))])] (by kernel_rfl) (by kernel_rfl) ⟨(by omega), (by omega), True.intro⟩ ?_
      refine aops_nil ?_
      refine xt_n ?_
      refine hK _ ?_
      clear hK K
      refine aw_seq_k fun K hK => ?_
      refine w_region (n' := 4) (by kernel_rfl) (by kernel_rfl) ?_
      refine aops_n hTT (M := []) (n := 2) [pc (139 : Nat) ((0 : Nat) ≤ (5 : Nat)) (V.agg [V.i (Rc.x0 (rcF l i)), V.i (Rc.y0 (rcF l i)), V.i (Rc.x1 (rcF l i)), V.i (Rc.y1 (rcF l i)), V.b (Rc.down (rcF l i))]), pc (140 : Nat) ((0 : Nat) ≤ (5 : Nat)) (V.agg [V.i (Rc.x0 (rcF l k)), V.i (Rc.y0 (rcF l k)), V.i (Rc.x1 (rcF l k)), V.i (Rc.y1 (rcF l k)), V.b (Rc.down (rcF l k))])] (by kernel_rfl) (by kernel_rfl) ⟨(by omega), (by omega), True.intro⟩ ?_
      refine e_call (first := []) (caps := []) (common_ac _ _ (Rc.bd_mono (hbd i c1) (by omega)) (Rc.bd_mono (hbd k (by omega)) (by omega))) (by kernel_rfl) (by kernel_rfl) (by kernel_rfl) (by kernel_rfl) (by kernel_rfl) ?_
      refine aops_n hTT (M := []) (n := 5) [pv (138 : Nat) (V.tup [V.i (comW (rcF l i) (rcF l k)), V.i (comH (rcF l i) (rcF l k))]), pv (142 : Nat) (V.i (comW (rcF l i) (rcF l k))), pv (143 : Nat) (V.i (comH (rcF l i) (rcF l k))), pv (13 : Nat) (V.i (comW (rcF l i) (rcF l k))), pv (14 : Nat) (V.i (comH (rcF l i) (rcF l k)))] (by kernel_rfl) (by kernel_rfl) True.intro ?_
      refine aops_nil ?_
      refine xt_n ?_
      refine hK _ ?_
      clear hK K
      refine aw_must hMust hF 6 (by kernel_rfl) rfl (by kernel_rfl) (n' := 5) (by kernel_rfl) ?_
      refine aops_n hTT (M := []) (n := 6) [pv (144 : Nat) (V.i (comW (rcF l i) (rcF l k))), pv (145 : Nat) (V.b (decide (comW (rcF l i) (rcF l k) ≤ (0 : Int)))), pv (146 : Nat) (V.b (decide (comW (rcF l i) (rcF l k) ≤ (0 : Int)))), pc (147 : Nat) ((True ∧ True) ∧ ((decide (comW (rcF l i) (rcF l k) ≤ (0 : Int)) == false) = true → True)) (V.gd (decide (comW (rcF l i) (rcF l k) ≤ (0 : Int)) == false) (V.i (comH (rcF l i) (rcF l k)))), pc (148 : Nat) ((((decide (comW (rcF l i) (rcF l k) ≤ (0 : Int)) == false) = true → (decide (comW (rcF l i) (rcF l k) ≤ (0 : Int)) == false) = true) ∧ True ∧ True) ∧ ((decide (comW (rcF l i) (rcF l k) ≤ (0 : Int)) == false) = true → True)) (V.gd (decide (comW (rcF l i) (rcF l k) ≤ (0 : Int)) == false) (V.b (decide (comH (rcF l i) (rcF l k) ≤ (0 : Int))))), pc (149 : Nat) (True ∧ (decide (comW (rcF l i) (rcF l k) ≤ (0 : Int)) = false → (decide (comW (rcF l i) (rcF l k) ≤ (0 : Int)) == false) = true)) (V.b (decide (comW (rcF l i) (rcF l k) ≤ (0 : Int)) || decide (comH (rcF l i) (rcF l k) ≤ (0 : Int))))] (by kernel_rfl) (by kernel_rfl) ⟨⟨⟨True.intro, True.intro⟩, (fun _ => True.intro)⟩, ⟨⟨(by (exact fun h => h)), ⟨True.intro, True.intro⟩⟩, (fun _ => True.intro)⟩, ⟨True.intro, (by (intro h; rw [h]; rfl))⟩, True.intro⟩ ?_
      refine aops_nil ?_
      refine ⟨decide (comW (rcF l i) (rcF l k) ≤ (0 : Int)) || decide (comH (rcF l i) (rcF l k) ≤ (0 : Int)), (20 : Int), by kernel_rfl, by kernel_rfl, fun h1 => ?_, fun h1 => ?_⟩
      rotate_left
      · have hl : lapB l i k := by unfold lapB; simp at h1; omega
        have hE2 := netE_lap hne hE c2 c1 hl
        refine xb_p ?_
        refine xt_p ?_
        refine xt_p ?_
        refine xb_p ?_
        refine xb_p ?_
        refine xt_p ?_
        refine xt_p ?_
        refine xb_p ?_
        refine xt_p ?_
        rw [flatV, if_neg (by omega), hE2]
        exact .inr ⟨_, _, _, _, _, rfl, rfl, rfl, rfl, rfl, rfl⟩
      have hl : ¬ lapB l i k := by unfold lapB; simp at h1; omega
      clear h1
      refine xb_n ?_
      refine xt_n ?_
      refine hK _ ?_
      clear hK K
      refine w_region (n' := 6) (by kernel_rfl) (by kernel_rfl) ?_
      refine aops_n hTT (M := []) (n := 2) [pc (151 : Nat) ((-9223372036854775808 : Int) ≤ (↑k : Int) + (1 : Int) ∧ (↑k : Int) + (1 : Int) ≤ (9223372036854775807 : Int)) (V.i ((↑k : Int) + (1 : Int))), pv (134 : Nat) (V.i ((↑k : Int) + (1 : Int)))] (by kernel_rfl) (by kernel_rfl) ⟨(by omega), True.intro⟩ ?_
      refine aops_nil ?_
      refine xt_n ?_
      refine ⟨k + 1, ⟨by omega, fun j hj => ?_⟩, by refine le_ren (sl := [(500, Ob.box (90 : Nat) [V.sl (5 : Nat) (List.length l) fun (k : Nat) => Rc.c (rcF l k)]), (501, Ob.box (25 : Nat) [V.i (0 : Int)]), (10, Ob.box (95 : Nat) [V.i (Rc.x0 (rcF l i)), V.i (Rc.y0 (rcF l i)), V.i (Rc.x1 (rcF l i)), V.i (Rc.y1 (rcF l i)), V.b (Rc.down (rcF l i))])]) [(10, 10)] (.cons (by kernel_rfl) (.cons (by kernel_rfl) (.cons (by kernel_rfl) (.cons (by kernel_rfl) (.cons (by kernel_rfl) (.cons (by kernel_rfl) (.cons (by kernel_rfl) (.cons (by kernel_rfl) (.cons (by kernel_rfl) .nil))))))))) (.cons ⟨Ob.box (90 : Nat) [V.sl (5 : Nat) (List.length l) fun (k : Nat) => Rc.c (rcF l k)], (by kernel_rfl), .box (by kernel_rfl)⟩ (.cons ⟨Ob.box (25 : Nat) [V.i (0 : Int)], (by kernel_rfl), .box (by kernel_rfl)⟩ (.cons ⟨Ob.box (95 : Nat) [V.i (Rc.x0 (rcF l i)), V.i (Rc.y0 (rcF l i)), V.i (Rc.x1 (rcF l i)), V.i (Rc.y1 (rcF l i)), V.b (Rc.down (rcF l i))], (by kernel_rfl), .box (by kernel_rfl)⟩ .nil))) (by kernel_rfl) (by kernel_rfl), by omega⟩
      by_cases he : j = k
      · subst he; exact hl
      · exact hM j (by omega)
    simp at c2
    obtain rfl : k = i := by omega
    refine aw_exit ?_
    refine xt_x ?_
    refine xt_x ?_
    refine xb_same ?_
    refine xb_n ?_
    refine xt_n ?_
    clear hK K
    refine hK _ ?_
    clear hK K
    refine w_region (n' := 3) (by kernel_rfl) (by kernel_rfl) ?_
    refine aops_n hTT (M := []) (n := 2) [pc (152 : Nat) ((-9223372036854775808 : Int) ≤ (↑k : Int) + (1 : Int) ∧ (↑k : Int) + (1 : Int) ≤ (9223372036854775807 : Int)) (V.i ((↑k : Int) + (1 : Int))), pv (125 : Nat) (V.i ((↑k : Int) + (1 : Int)))] (by kernel_rfl) (by kernel_rfl) ⟨(by omega), True.intro⟩ ?_
    refine aops_nil ?_
    refine xt_n ?_
    refine ⟨k + 1, ⟨by omega, fun a b hb ha => ?_⟩, by refine le_ren (sl := [(500, Ob.box (90 : Nat) [V.sl (5 : Nat) (List.length l) fun (k : Nat) => Rc.c (rcF l k)]), (501, Ob.box (25 : Nat) [V.i (0 : Int)])]) [] (.cons (by kernel_rfl) (.cons (by kernel_rfl) (.cons (by kernel_rfl) (.cons (by kernel_rfl) (.cons (by kernel_rfl) .nil))))) (.cons ⟨Ob.box (90 : Nat) [V.sl (5 : Nat) (List.length l) fun (k : Nat) => Rc.c (rcF l k)], (by kernel_rfl), .box (by kernel_rfl)⟩ (.cons ⟨Ob.box (25 : Nat) [V.i (0 : Int)], (by kernel_rfl), .box (by kernel_rfl)⟩ .nil)) (by kernel_rfl) (by kernel_rfl), by omega⟩
    by_cases he : a = k
    · subst he; exact hM b (by omega)
    · exact hL a b hb (by omega)
  simp at c1
  obtain rfl : i = l.length := by omega
  refine aw_exit ?_
  refine xt_x ?_
  refine xt_x ?_
  refine xb_same ?_
  refine xt_n ?_
  clear hK K
  refine hK _ ?_
  clear hK K
  refine aw_seq_k fun K hK => ?_
  refine w_region (n' := 3) (by kernel_rfl) (by kernel_rfl) ?_
  refine aops_n hTT (M := []) (n := 3) [pc (153 : Nat) ((0 : Nat) ≤ (1 : Nat)) (V.sl (5 : Nat) (List.length l) fun (k : Nat) => Rc.c (rcF l k)), pw ((0 : Nat) + (1 : Nat) ≤ (1 : Nat)) (500 : Nat) (Ob.box (90 : Nat) [V.sl (5 : Nat) (List.length l) fun (k : Nat) => Rc.c (rcF l k)]), pw ((0 : Nat) + (1 : Nat) ≤ (1 : Nat)) (501 : Nat) (Ob.box (25 : Nat) [V.i (0 : Int)])] (by kernel_rfl) (by kernel_rfl) ⟨(by omega), (by omega), (by omega), True.intro⟩ ?_
  refine aops_nil ?_
  refine xt_n ?_
  refine hK _ ?_
  clear hK K
  refine aw_ret ?_
  have hE2 := netE_ok hne hE hL
  rw [flatV, if_pos hE2]
  refine .inl ⟨.inr rfl, ?_⟩
  refine ret_of_le (le_freezeBox (t := (90 : Nat)) (cs := [V.sl (5 : Nat) (List.length l) fun (k : Nat) => Rc.c (rcF l k)]) 500 (by kernel_rfl) (by kernel_rfl)) ?_
  refine ret_of_le (le_freezeBox (t := (25 : Nat)) (cs := [V.i (0 : Int)]) 501 (by kernel_rfl) (by kernel_rfl)) ?_
  refine ret_pure (v' := V.tup [V.sl (5 : Nat) (List.length l) fun (k : Nat) => Rc.c (rcF l k), V.i (0 : Int)]) (.inr rfl) (by kernel_rfl) (by kernel_rfl) (by kernel_rfl)
end Go.Proofs.YtfckkkmacjjmhaaDoor
