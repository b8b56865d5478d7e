/-
  SleeveEnough: the walk of the law. No condition.
-/
import Derived.Test.YtfckkkmacjjmhaaDoorSR3
import Derived.Test.YtfckkkmacjjmhaaDoorSN9
import Derived.Test.YtfckkkmacjjmhaaDoorMC
namespace Go.Proofs.YtfckkkmacjjmhaaDoor
open Go.Ab Go.RowKit Go.Dw Go.Shelf

theorem chk_ok {c : List Int} {n : Int} (h : CO c) (hl : c.length ≤ 8) (hn : 1 ≤ n ∧ n ≤ 64) : chkC c n 0 = 0 := by
  refine chkC_4 (by omega) (fun i hi => ?_) ?_
  · have := h.gi hi
    simp [copB, outB]; omega
  · simp [outB]; omega
theorem plc_le_sum {c : List Int} (h : CO c) {s : Int} (hs : 1 ≤ s) {k : Nat} (hk : k < c.length) : ∀ m, m ≤ c.length → k < m → plc (gi c k) s ≤ plcS c s m
  | 0, _, h => by omega
  | m + 1, hm, hkm => by
    have hb := plcS_bd h hs m (by omega)
    have hp := plc_pos (h.gi (i := m) (by omega)).1 hs
    rw [plcS]
    by_cases he : k = m
    · subst he; omega
    · have := plc_le_sum h hs hk m (by omega) (by omega); omega
theorem isC_ints (c : List Int) : ∀ (i : Nat) (u : V), u ∈ [V.i (gi c i)] → u.isC = true := fun i u hu => by
  simp only [List.mem_singleton] at hu
  subst hu; rfl
theorem RunO_ac (c : List Int) (slots : Int) (hl : c.length ≤ 4611686018427387904) : AM Tryd.prog 21 [.own 500, .i slots] [.row 2 1 c.length fun j => [.i (gi c j)]] (.tup [.i (runS c slots), V.ints (runL c slots), .i (runE c slots)]) [none] [] :=
  (Run_ac c slots hl).row 2 (sz := 1) (n := c.length) (row := fun j => [.i (gi c j)]) rfl rfl (by simp) rfl (fun _ _ => rfl) (fun _ => rfl)
theorem plcS_sum {c : List Int} {s : Int} : ∀ m, m ≤ c.length → plcS c s m = ((c.take m).map fun n => plc n s).sum
  | 0, _ => by simp [plcS]
  | m + 1, h => by
    rw [plcS, plcS_sum m (by omega), List.take_succ_eq_append_getElem (by omega), List.map_append, List.sum_append]
    simp [gi, List.getD_eq_getElem?_getD, List.getElem?_eq_getElem (show m < c.length by omega)]
theorem less_row {c : List Int} {k : Nat} (hk : k < c.length) (X : Nat → List V) (i : Nat) (_ : i < 0 + (k - 0) + (c.length - (k + 1))) :
    appRow (0 + (k - 0)) (appRow 0 X fun i => [V.i (gi c (i + 0))]) (fun i => [V.i (gi c (i + (k + 1)))]) i = [V.i (gi (c.take k ++ c.drop (k + 1)) i)] := by
  unfold appRow
  by_cases h : i < k
  · rw [if_pos (by omega), if_neg (by omega)]
    simp only [gi, List.getD_eq_getElem?_getD, List.getElem?_append, List.length_take, Nat.min_eq_left (Nat.le_of_lt hk), if_pos h, List.getElem?_take, Nat.sub_zero, Nat.add_zero]
  · rw [if_neg (by omega)]
    simp only [gi, List.getD_eq_getElem?_getD, List.getElem?_append, List.length_take, Nat.min_eq_left (Nat.le_of_lt hk), if_neg h, List.getElem?_drop]
    rw [show i - (0 + (k - 0)) + (k + 1) = k + 1 + (i - k) by omega]
theorem more_set {c : List Int} {k : Nat} (hk : k < c.length) (m : Int) (i : Nat) : (if i = k then [V.i (gi c k + m)] else [V.i (gi c i)]) = [V.i (gi (c.set k (gi c k + m)) i)] := by
  by_cases h : i = k
  · subst h
    rw [if_pos rfl]
    simp only [gi, List.getD_eq_getElem?_getD, List.getElem?_set, hk, if_true]
    rw [List.getElem?_eq_getElem hk]
    rfl
  · rw [if_neg h]
    simp [gi, List.getD_eq_getElem?_getD, List.getElem?_set, Ne.symm h]
theorem plcS_le {c d : List Int} {s : Int} (hs : 1 ≤ s) (h : ∀ i, gi c i ≤ gi d i) : ∀ m, plcS c s m ≤ plcS d s m
  | 0 => Int.le_refl _
  | m + 1 => by
    have := plcS_le hs h m
    have := plc_mono_n hs (h m)
    rw [plcS, plcS]; omega
theorem more_run {c : List Int} {n F m : Int} {k : Nat} (h : ∀ x ∈ c, 1 ≤ x ∧ x ≤ 65536) (h8 : c.length ≤ 8) (hn : 1 ≤ n ∧ n ≤ 64) (hl : (c.length : Int) ≤ n) (hk : k < c.length) (hm : 0 ≤ m ∧ m ≤ 65535) (hr : IsRun c n F ∧ F ≤ 1048576) :
    runE (c.set k (gi c k + m)) n = 0 ∧ F ≤ runS (c.set k (gi c k + m)) n := by
  have hlen : (c.set k (gi c k + m)).length = c.length := by simp
  have hco : CO c := fun x hx => by have := h x hx; omega
  have hgk : gi c k ≤ 65536 := by
    have := (h _ (List.getElem_mem hk)).2
    simpa [gi, List.getD_eq_getElem?_getD, List.getElem?_eq_getElem hk] using this
  have hg1 := (hco.gi hk).1
  have hco2 : CO (c.set k (gi c k + m)) := fun x hx => by
    rcases List.mem_or_eq_of_mem_set hx with hx | rfl
    · exact hco x hx
    · omega
  obtain ⟨e1, e2, _⟩ := runS_3 (c := c.set k (gi c k + m)) (slots := n) (chk_ok hco2 (by omega) hn) (by omega)
  refine ⟨e1, ?_⟩
  rw [e2]
  have hr2 := (fewN_spec (slots := n) hco2 (by omega) (by omega)).1
  by_cases hx : fewN (c.set k (gi c k + m)) n < F
  · exfalso
    have h1 := hr.1.least _ hr2.pos hx
    have h2 := hr2.ok
    have h3 := plcS_le (c := c) (d := c.set k (gi c k + m)) hr2.pos (fun i => by
      have := more_set hk m i
      by_cases h : i = k
      · subst h; rw [if_pos rfl] at this; simp at this; omega
      · rw [if_neg h] at this; simp at this; omega) c.length
    rw [hlen] at h2
    omega
  · omega
theorem less_run {c : List Int} {n F : Int} {k : Nat} (h : CO c) (h8 : c.length ≤ 8) (hn : 1 ≤ n ∧ n ≤ 64) (hl : (c.length : Int) ≤ n) (hk : k < c.length) (hr : IsRun c n F ∧ F ≤ 1048576) :
    runE (c.take k ++ c.drop (k + 1)) n = 0 ∧ runS (c.take k ++ c.drop (k + 1)) n ≤ F := by
  have hlen : (c.take k ++ c.drop (k + 1)).length = c.length - 1 := by simp; omega
  have hco : CO (c.take k ++ c.drop (k + 1)) := fun x hx => by
    rcases List.mem_append.1 hx with hx | hx
    · exact h x (List.mem_of_mem_take hx)
    · exact h x (List.mem_of_mem_drop hx)
  obtain ⟨e1, e2, _⟩ := runS_3 (c := c.take k ++ c.drop (k + 1)) (slots := n) (chk_ok hco (by omega) hn) (by omega)
  refine ⟨e1, ?_⟩
  rw [e2]
  by_cases h0 : (c.take k ++ c.drop (k + 1)).length = 0
  · rw [fewN_nil h0]; have := hr.1.pos; omega
  have hr2 := (fewN_spec (slots := n) hco (by omega) h0).1
  by_cases hx : F < fewN (c.take k ++ c.drop (k + 1)) n
  · exfalso
    have h1 := hr2.least F hr.1.pos hx
    have h2 := hr.1.ok
    rw [plcS_sum _ (Nat.le_refl _), List.take_length] at h1 h2
    have hs : c = c.take k ++ c[k] :: c.drop (k + 1) := by simp
    have hp : 1 ≤ plc c[k] F := plc_pos (h _ (List.getElem_mem hk)).1 hr.1.pos
    rw [hs, List.map_append, List.map_cons, List.sum_append, List.sum_cons] at h2
    rw [List.map_append, List.sum_append] at h1
    omega
  · omega
set_option maxHeartbeats 4000000 in
set_option maxRecDepth 100000 in
theorem enough_law (l : List Int) (sl wh mo wi : Int) (hl : l.length ≤ 4611686018427387904) (hu : ∀ x ∈ l, 0 ≤ x ∧ x ≤ 65535) (hs : 0 ≤ sl ∧ sl ≤ 255) (hw : 0 ≤ wh ∧ wh ≤ 255) (hm : 0 ≤ mo ∧ mo ≤ 65535) (hwi : 0 ≤ wi ∧ wi ≤ 255) :
    AC Tryd.prog 7 [V.u16s l, .c (.int .u8 sl), .c (.int .u8 wh), .c (.int .u16 mo), .c (.int .u8 wi)] (.b true) [] := by
  refine ac_intro hTT hMX (fn := Tryd.f7) (N := _) ⟨Tryd.func7, rfl, Tryd.ntmps7, by kernel_rfl⟩ (by simp) fun C hC hF => ?_
  refine aw_seq_k fun K hK => ?_
  refine w_region (n' := 2) (by kernel_rfl) (by kernel_rfl) ?_
  refine aops_n hTT (M := []) (n := 1) [pv (10 : Nat) (V.b false)] (by kernel_rfl) (by kernel_rfl) True.intro ?_
  refine aops_nil ?_
  refine xt_n ?_
  refine hK _ ?_
  clear hK K
  refine aw_seq_k fun K hK => ?_
  refine w_region (n' := 3) (by kernel_rfl) (by kernel_rfl) ?_
  refine aops_n hTT (M := []) (n := 1) [pv (25 : Nat) (V.sl (1 : Nat) (List.length l) fun (k : Nat) => [V.c (Value.int IntKind.u16 (gi l k))])] (by kernel_rfl) (by kernel_rfl) True.intro ?_
  refine e_callO (first := []) (caps := []) (k := 200026) (v' := V.own (200026 : Nat)) (ob' := Ob.row (2 : Nat) (1 : Nat) (List.length (cpL l (8 : Nat))) fun (i : Nat) => V.renL (callG (2 : Nat) (some 26)) [V.i (gi (cpL l (8 : Nat)) i)]) (copies_ac l hl hu) (by kernel_rfl) (by kernel_rfl) (by kernel_rfl) (by kernel_rfl) (by kernel_rfl) (by kernel_rfl) (by kernel_rfl) ?_
  have hc := cpL_ok (m := 8) hu
  have h8 : (cpL l 8).length ≤ 8 := by rw [cpL_len]; omega
  generalize cpL l 8 = c at hc h8 ⊢
  have hn : 1 ≤ 1 + sl.tmod 64 ∧ 1 + sl.tmod 64 ≤ 64 := by rw [Int.tmod_eq_emod_of_nonneg hs.1]; omega
  have hco : CO c := fun x hx => by have := hc x hx; omega
  refine aops_n hTT (M := []) (n := 1) [pv (11 : Nat) (V.own (200026 : Nat))] (by kernel_rfl) (by kernel_rfl) True.intro ?_
  refine aops_nil ?_
  refine xt_n ?_
  refine hK _ ?_
  clear hK K
  refine aw_seq_k fun K hK => ?_
  refine w_region (n' := 4) (by kernel_rfl) (by kernel_rfl) ?_
  refine aops_n hTT (M := []) (n := 5) [pv (27 : Nat) (V.c (Value.int IntKind.u8 sl)), pc (28 : Nat) ((-9223372036854775808 : Int) ≤ sl ∧ sl ≤ (9223372036854775807 : Int)) (V.i sl), pc (29 : Nat) ((64 : Int) ≠ (0 : Int)) (V.i (Int.tmod sl (64 : Int))), pc (30 : Nat) ((-9223372036854775808 : Int) ≤ (1 : Int) + Int.tmod sl (64 : Int) ∧ (1 : Int) + Int.tmod sl (64 : Int) ≤ (9223372036854775807 : Int)) (V.i ((1 : Int) + Int.tmod sl (64 : Int))), pv (12 : Nat) (V.i ((1 : Int) + Int.tmod sl (64 : Int)))] (by kernel_rfl) (by kernel_rfl) ⟨(by omega), (by omega), (by omega), True.intro⟩ ?_
  refine aops_nil ?_
  refine xt_n ?_
  refine hK _ ?_
  clear hK K
  refine aw_seq_k fun K hK => ?_
  refine w_region (n' := 5) (by kernel_rfl) (by kernel_rfl) ?_
  refine aops_n hTT (M := []) (n := 2) [pv (32 : Nat) (V.own (200026 : Nat)), pv (33 : Nat) (V.i ((1 : Int) + Int.tmod sl (64 : Int)))] (by kernel_rfl) (by kernel_rfl) True.intro ?_
  generalize 1 + sl.tmod 64 = n at hn ⊢
  have hk0 : chkC c n 0 = 0 := chk_ok hco h8 hn
  by_cases h1 : n < c.length
  · refine aops_callR [200026] (first := []) (caps := []) (ins' := [Ob.row (2 : Nat) (1 : Nat) (List.length c) fun (i : Nat) => V.renL (callG (2 : Nat) (some (26 : Tmp))) [V.i (gi c i)]]) (v' := V.tup [V.i (0 : Int), V.nil, V.i (14 : Int)]) (δ := []) (kp := [200026]) (Run1K_ac c n (by omega) hk0 h1) (by kernel_rfl) (by kernel_rfl) (by kernel_rfl) (by kernel_rfl) (by kernel_rfl) (by kernel_rfl) (by kernel_rfl) rfl (by kernel_rfl) (by kernel_rfl) ⟨(fun _ _ => rfl), True.intro⟩ (by kernel_rfl) (by kernel_rfl) (by kernel_rfl) ?_
    refine aops_n hTT (M := []) (n := 7) [pv (31 : Nat) (V.tup [V.i (0 : Int), V.nil, V.i (14 : Int)]), pv (35 : Nat) (V.i (0 : Int)), pv (36 : Nat) V.nil, pv (37 : Nat) (V.i (14 : Int)), pv (13 : Nat) (V.i (0 : Int)), pv (14 : Nat) V.nil, pv (15 : Nat) (V.i (14 : Int))] (by kernel_rfl) (by kernel_rfl) True.intro ?_
    refine aops_nil ?_
    refine xt_n ?_
    refine hK _ ?_
    clear hK K
    refine aw_seq_k fun K hK => ?_
    refine aw_seq_k fun K hK => ?_
    refine w_region (n' := 6) (by kernel_rfl) (by kernel_rfl) ?_
    refine aops_n hTT (M := []) (n := 4) [pv (38 : Nat) (V.own (200026 : Nat)), pv (39 : Nat) (V.i (↑(List.length c) : Int)), pv (40 : Nat) (V.i n), pv (41 : Nat) (V.b (decide (n < (↑(List.length c) : Int))))] (by kernel_rfl) (by kernel_rfl) True.intro ?_
    refine aops_nil ?_
    refine xt_n ?_
    refine hK _ ?_
    clear hK K
    refine w_cond (t := decide (n < (↑(List.length c) : Int))) (by kernel_rfl) (fun c1 => ?_) (fun c1 => ?_)
    · refine aw_seq_k fun K hK => ?_
      refine w_region (n' := 7) (by kernel_rfl) (by kernel_rfl) ?_
      refine aops_n hTT (M := []) (n := 12) [pv (42 : Nat) (V.i (14 : Int)), pv (43 : Nat) (V.b true), pv (44 : Nat) (V.b true), pc (45 : Nat) ((True ∧ True) ∧ ((true == true) = true → True)) (V.gd (true == true) (V.i (0 : Int))), pc (46 : Nat) ((((true == true) = true → (true == true) = true) ∧ True ∧ True) ∧ ((true == true) = true → True)) (V.gd (true == true) (V.b true)), pc (47 : Nat) ((true = true → (true == true) = true) ∧ True) (V.b true), pv (48 : Nat) (V.b true), pc (49 : Nat) ((True ∧ True) ∧ ((true == true) = true → True)) (V.gd (true == true) V.nil), pc (50 : Nat) ((((true == true) = true → (true == true) = true) ∧ True) ∧ ((true == true) = true → True)) (V.gd (true == true) (V.i (0 : Int))), pc (51 : Nat) ((((true == true) = true → (true == true) = true) ∧ True ∧ True) ∧ ((true == true) = true → True)) (V.gd (true == true) (V.b true)), pc (52 : Nat) ((true = true → (true == true) = true) ∧ True) (V.b true), pv (53 : Nat) (V.b true)] (by kernel_rfl) (by kernel_rfl) ⟨⟨⟨True.intro, True.intro⟩, (fun _ => True.intro)⟩, ⟨⟨(by (exact fun h => h)), ⟨True.intro, True.intro⟩⟩, (fun _ => True.intro)⟩, ⟨(by (exact fun h => h)), True.intro⟩, ⟨⟨True.intro, True.intro⟩, (fun _ => True.intro)⟩, ⟨⟨(by (exact fun h => h)), True.intro⟩, (fun _ => True.intro)⟩, ⟨⟨(by (exact fun h => h)), ⟨True.intro, True.intro⟩⟩, (fun _ => True.intro)⟩, ⟨(by (exact fun h => h)), True.intro⟩, True.intro⟩ ?_
      refine e_callG 0 (g := true == true) (first := []) (caps := []) (by kernel_rfl) (fun h => sWorks_ac) (by kernel_rfl) (by kernel_rfl) (by kernel_rfl) (by kernel_rfl) (by kernel_rfl) (by kernel_rfl) ?_
      refine aops_n hTT (M := []) (n := 2) [pc (55 : Nat) ((true = true → (true == true) = true) ∧ True) (V.b true), pv (10 : Nat) (V.b true)] (by kernel_rfl) (by kernel_rfl) ⟨⟨(by (exact fun h => h)), True.intro⟩, True.intro⟩ ?_
      refine aops_nil ?_
      refine xt_n ?_
      refine hK _ ?_
      clear hK K
      refine aw_ret ?_
      refine xt_r ?_
      refine ret_pure (v' := V.b true) (.inr rfl) (by kernel_rfl) (by kernel_rfl) (by kernel_rfl)
    simp at c1; omega
  have hfew : ∀ n', 1 ≤ n' → n' ≤ 64 → chkC c n' 0 = 0 := fun n' a b => chk_ok hco h8 ⟨a, b⟩
  by_cases h0 : c.length = 0
  · obtain rfl := List.length_eq_zero_iff.1 h0
    refine aops_callR [200026] (first := []) (caps := []) (ins' := [Ob.row (2 : Nat) (1 : Nat) (0 : Nat) fun (i : Nat) => V.renL (callG (2 : Nat) (some (26 : Tmp))) [V.i (gi [] i)]]) (v' := V.tup [V.i (0 : Int), V.nil, V.i (0 : Int)]) (δ := []) (kp := [200026]) (Run2K_ac n hk0) (by kernel_rfl) (by kernel_rfl) (by kernel_rfl) (by kernel_rfl) (by kernel_rfl) (by kernel_rfl) (by kernel_rfl) rfl (by kernel_rfl) (by kernel_rfl) ⟨(fun _ _ => rfl), True.intro⟩ (by kernel_rfl) (by kernel_rfl) (by kernel_rfl) ?_
    refine aops_n hTT (M := []) (n := 7) [pv (31 : Nat) (V.tup [V.i (0 : Int), V.nil, V.i (0 : Int)]), pv (35 : Nat) (V.i (0 : Int)), pv (36 : Nat) V.nil, pv (37 : Nat) (V.i (0 : Int)), pv (13 : Nat) (V.i (0 : Int)), pv (14 : Nat) V.nil, pv (15 : Nat) (V.i (0 : Int))] (by kernel_rfl) (by kernel_rfl) True.intro ?_
    refine aops_nil ?_
    refine xt_n ?_
    refine hK _ ?_
    clear hK K
    refine aw_seq_k fun K hK => ?_
    refine aw_seq_k fun K hK => ?_
    refine w_region (n' := 6) (by kernel_rfl) (by kernel_rfl) ?_
    refine aops_n hTT (M := []) (n := 4) [pv (38 : Nat) (V.own (200026 : Nat)), pv (39 : Nat) (V.i (↑(0 : Nat) : Int)), pv (40 : Nat) (V.i n), pv (41 : Nat) (V.b (decide (n < (↑(0 : Nat) : Int))))] (by kernel_rfl) (by kernel_rfl) True.intro ?_
    refine aops_nil ?_
    refine xt_n ?_
    refine hK _ ?_
    clear hK K
    refine w_cond (t := decide (n < (↑(0 : Nat) : Int))) (by kernel_rfl) (fun c1 => ?_) (fun c1 => ?_)
    · simp at c1; omega
    refine aw_skip ?_
    refine xt_n ?_
    refine hK _ ?_
    clear hK K
    refine aw_seq_k fun K hK => ?_
    refine aw_seq_k fun K hK => ?_
    refine w_region (n' := 7) (by kernel_rfl) (by kernel_rfl) ?_
    refine aops_n hTT (M := []) (n := 17) [pv (56 : Nat) (V.i (0 : Int)), pv (57 : Nat) (V.b false), pv (58 : Nat) (V.b false), pc (59 : Nat) ((True ∧ True) ∧ ((false == false) = true → True)) (V.gd (false == false) V.nil), pc (60 : Nat) ((((false == false) = true → (false == false) = true) ∧ True) ∧ ((false == false) = true → True)) (V.gd (false == false) (V.i (0 : Int))), pc (61 : Nat) ((True ∧ True) ∧ ((false == false) = true → True)) (V.gd (false == false) (V.own (200026 : Nat))), pc (62 : Nat) ((((false == false) = true → (false == false) = true) ∧ True) ∧ ((false == false) = true → True)) (V.gd (false == false) (V.i (↑(0 : Nat) : Int))), pc (63 : Nat) ((((false == false) = true → (false == false) = true) ∧ ((false == false) = true → (false == false) = true) ∧ True) ∧ ((false == false) = true → True)) (V.gd (false == false) (V.b false)), pc (64 : Nat) (True ∧ (false = false → (false == false) = true)) (V.b false), pv (65 : Nat) (V.b false), pc (66 : Nat) ((True ∧ True) ∧ ((false == false) = true → True)) (V.gd (false == false) (V.i (0 : Int))), pc (67 : Nat) ((((false == false) = true → (false == false) = true) ∧ True ∧ True) ∧ ((false == false) = true → True)) (V.gd (false == false) (V.b true)), pc (68 : Nat) ((True ∧ True) ∧ ((false == false) = true → True)) (V.gd (false == false) (V.own (200026 : Nat))), pc (69 : Nat) ((((false == false) = true → (false == false) = true) ∧ True) ∧ ((false == false) = true → True)) (V.gd (false == false) (V.i (↑(0 : Nat) : Int))), pc (70 : Nat) ((((false == false) = true → (false == false) = true) ∧ True ∧ True) ∧ ((false == false) = true → True)) (V.gd (false == false) (V.b true)), pc (71 : Nat) ((((false == false) = true → (false == false) = true) ∧ ((false == false) = true → (false == false) = true) ∧ True) ∧ ((false == false) = true → True)) (V.gd (false == false) (V.b !true == true)), pc (72 : Nat) (True ∧ (false = false → (false == false) = true)) (V.b !true == true)] (by kernel_rfl) (by kernel_rfl) ⟨⟨⟨True.intro, True.intro⟩, (fun _ => True.intro)⟩, ⟨⟨(by (exact fun h => h)), True.intro⟩, (fun _ => True.intro)⟩, ⟨⟨True.intro, True.intro⟩, (fun _ => True.intro)⟩, ⟨⟨(by (exact fun h => h)), True.intro⟩, (fun _ => True.intro)⟩, ⟨⟨(by (exact fun h => h)), ⟨(by (exact fun h => h)), True.intro⟩⟩, (fun _ => True.intro)⟩, ⟨True.intro, (by (intro h; rw [h]; rfl))⟩, ⟨⟨True.intro, True.intro⟩, (fun _ => True.intro)⟩, ⟨⟨(by (exact fun h => h)), ⟨True.intro, True.intro⟩⟩, (fun _ => True.intro)⟩, ⟨⟨True.intro, True.intro⟩, (fun _ => True.intro)⟩, ⟨⟨(by (exact fun h => h)), True.intro⟩, (fun _ => True.intro)⟩, ⟨⟨(by (exact fun h => h)), ⟨True.intro, True.intro⟩⟩, (fun _ => True.intro)⟩, ⟨⟨(by (exact fun h => h)), ⟨(by (exact fun h => h)), True.intro⟩⟩, (fun _ => True.intro)⟩, ⟨True.intro, (by (intro h; rw [h]; rfl))⟩, True.intro⟩ ?_
    refine aops_nil ?_
    refine xt_n ?_
    refine hK _ ?_
    clear hK K
    refine w_cond (t := !true == true) (by kernel_rfl) (fun c2 => ?_) (fun c2 => ?_)
    · simp at c2
    refine aw_skip ?_
    refine xt_n ?_
    refine hK _ ?_
    clear hK K
    refine aw_seq_k fun K hK => ?_
    refine w_region (n' := 8) (by kernel_rfl) (by kernel_rfl) ?_
    refine aops_n hTT (M := []) (n := 1) [pv (16 : Nat) (V.i (0 : Int))] (by kernel_rfl) (by kernel_rfl) True.intro ?_
    refine aops_nil ?_
    refine xt_n ?_
    refine hK _ ?_
    clear hK K
    refine aw_seq_k fun K hK => ?_
    refine aw_seq_k fun K hK => ?_
    refine w_region (n' := 9) (by kernel_rfl) (by kernel_rfl) ?_
    refine aops_n hTT (M := []) (n := 1) [pv (17 : Nat) (V.i (0 : Int))] (by kernel_rfl) (by kernel_rfl) True.intro ?_
    refine aops_nil ?_
    refine xt_n ?_
    refine hK _ ?_
    clear hK K
    refine aw_block ?_
    refine w_loop (ι := Unit) (fun _ => [(2, .c (.int .u8 wh)), (3, .c (.int .u16 mo)), (4, .c (.int .u8 wi)), (11, .own 11), (12, .i n), (13, .i 0), (14, .nil), (16, .i 0), (17, .i 0)]) (fun _ => [(11, .row 2 1 0 fun k => [.i (gi [] k)])]) (fun _ => True) (fun _ => 0) () trivial ?_ ?_
    · refine le_ren (sl := [(11, Ob.row (2 : Nat) (1 : Nat) (0 : Nat) fun (k : Nat) => [V.i (gi [] k)])]) [(11, 200026)] (.cons (by kernel_rfl) (.cons (by kernel_rfl) (.cons (by kernel_rfl) (.cons (by kernel_rfl) (.cons (by kernel_rfl) (.cons (by kernel_rfl) (.cons (by kernel_rfl) (.cons (by kernel_rfl) (.cons (by kernel_rfl) .nil))))))))) (.cons ⟨Ob.row (2 : Nat) (1 : Nat) (0 : Nat) fun (i : Nat) => V.renL (callG (2 : Nat) (some (26 : Tmp))) [V.i (gi [] i)], (by kernel_rfl), .row (by kernel_rfl) (fun _ _ => rfl)⟩ .nil) (by kernel_rfl) (by kernel_rfl)
    rintro _ _
    refine aw_seq_k fun K hK => ?_
    refine aw_seq_k fun K hK => ?_
    refine w_region (n' := 2) (by kernel_rfl) (by kernel_rfl) ?_
    refine aops_n hTT (M := []) (n := 4) [pv (73 : Nat) (V.i (0 : Int)), pv (74 : Nat) (V.own (11 : Nat)), pv (75 : Nat) (V.i (↑(0 : Nat) : Int)), pv (76 : Nat) (V.b false)] (by kernel_rfl) (by kernel_rfl) True.intro ?_
    refine aops_nil ?_
    refine xt_n ?_
    refine hK _ ?_
    clear hK K
    refine w_false (t := false) (by kernel_rfl) rfl ?_
    refine aw_exit ?_
    refine xt_x ?_
    refine xt_x ?_
    refine xb_same ?_
    refine xt_n ?_
    clear hK K
    refine hK _ ?_
    clear hK K
    refine aw_seq_k fun K hK => ?_
    refine aw_seq_k fun K hK => ?_
    refine w_region (n' := 3) (by kernel_rfl) (by kernel_rfl) ?_
    refine aops_n hTT (M := []) (n := 12) [pv (125 : Nat) (V.i (0 : Int)), pv (126 : Nat) (V.i n), pv (127 : Nat) (V.b (decide (n < (0 : Int)))), pv (128 : Nat) (V.b (decide (n < (0 : Int)))), pc (129 : Nat) ((True ∧ True) ∧ ((decide (n < (0 : Int)) == false) = true → True)) (V.gd (decide (n < (0 : Int)) == false) (V.own (11 : Nat))), pc (130 : Nat) ((((decide (n < (0 : Int)) == false) = true → (decide (n < (0 : Int)) == false) = true) ∧ True) ∧ ((decide (n < (0 : Int)) == false) = true → True)) (V.gd (decide (n < (0 : Int)) == false) (V.i (↑(0 : Nat) : Int))), pc (131 : Nat) ((((decide (n < (0 : Int)) == false) = true → (decide (n < (0 : Int)) == false) = true) ∧ True ∧ True) ∧ ((decide (n < (0 : Int)) == false) = true → True)) (V.gd (decide (n < (0 : Int)) == false) (V.b false)), pc (132 : Nat) ((((decide (n < (0 : Int)) == false) = true → (decide (n < (0 : Int)) == false) = true) ∧ True) ∧ ((decide (n < (0 : Int)) == false) = true → True)) (V.gd (decide (n < (0 : Int)) == false) (V.b false)), pc (133 : Nat) ((True ∧ True) ∧ ((decide (n < (0 : Int)) == false && false == true) = true → True)) (V.gd (decide (n < (0 : Int)) == false && false == true) (V.own (11 : Nat))), pc (134 : Nat) ((True ∧ True) ∧ ((decide (n < (0 : Int)) == false && false == true) = true → True)) (V.gd (decide (n < (0 : Int)) == false && false == true) (V.i n)), pc (135 : Nat) ((True ∧ True) ∧ ((decide (n < (0 : Int)) == false && false == true) = true → True)) (V.gd (decide (n < (0 : Int)) == false && false == true) (V.i (0 : Int))), pc (136 : Nat) ((((decide (n < (0 : Int)) == false && false == true) = true → (decide (n < (0 : Int)) == false && false == true) = true) ∧ True ∧ True) ∧ ((decide (n < (0 : Int)) == false && false == true) = true → (-9223372036854775808 : Int) ≤ (0 : Int) - (1 : Int) ∧ (0 : Int) - (1 : Int) ≤ (9223372036854775807 : Int))) (V.gd (decide (n < (0 : Int)) == false && false == true) (V.i ((0 : Int) - (1 : Int))))] (by kernel_rfl) (by kernel_rfl) ⟨⟨⟨True.intro, True.intro⟩, (fun _ => True.intro)⟩, ⟨⟨(by (exact fun h => h)), True.intro⟩, (fun _ => True.intro)⟩, ⟨⟨(by (exact fun h => h)), ⟨True.intro, True.intro⟩⟩, (fun _ => True.intro)⟩, ⟨⟨(by (exact fun h => h)), True.intro⟩, (fun _ => True.intro)⟩, ⟨⟨True.intro, True.intro⟩, (fun _ => True.intro)⟩, ⟨⟨True.intro, True.intro⟩, (fun _ => True.intro)⟩, ⟨⟨True.intro, True.intro⟩, (fun _ => True.intro)⟩, ⟨⟨(by (exact fun h => h)), ⟨True.intro, True.intro⟩⟩, (by (intro _; simp; done))⟩, True.intro⟩ ?_
    refine aops_callRG 3 [11] (g := decide (n < (0 : Int)) == false && false == true) (first := []) (caps := []) (ins' := [Ob.row (2 : Nat) (1 : Nat) (0 : Nat) fun (k : Nat) => [V.i (gi [] k)]]) (v' := V.b (enB [] n ((0 : Int) - (1 : Int)))) (kp := [11]) (by kernel_rfl) (fun h => EnoughK_ac [] n (0 - 1) hco (by simp) (by omega)) rfl (by kernel_rfl) (by kernel_rfl) (by kernel_rfl) (by kernel_rfl) (by kernel_rfl) rfl (by kernel_rfl) (by kernel_rfl) ⟨(fun _ _ => rfl), True.intro⟩ (by kernel_rfl) (by kernel_rfl) (by kernel_rfl) ?_
    refine aops_n hTT (M := []) (n := 2) [pc (138 : Nat) (((decide (n < (0 : Int)) == false) = true → (decide (n < (0 : Int)) == false) = true) ∧ ((decide (n < (0 : Int)) == false) = true → false = true → (decide (n < (0 : Int)) == false && false == true) = true) ∧ ((decide (n < (0 : Int)) == false) = true → True)) (V.gd (decide (n < (0 : Int)) == false) (V.b false)), pc (139 : Nat) (True ∧ (decide (n < (0 : Int)) = false → (decide (n < (0 : Int)) == false) = true)) (V.b (decide (n < (0 : Int)) && true))] (by kernel_rfl) (by kernel_rfl) ⟨⟨(by (exact fun h => h)), ⟨(by (intro _; simp; done)), (fun _ => True.intro)⟩⟩, ⟨True.intro, (by (intro h; rw [h]; rfl))⟩, True.intro⟩ ?_
    refine aops_nil ?_
    refine xt_n ?_
    refine hK _ ?_
    clear hK K
    refine w_cond (t := decide (n < (0 : Int)) && true) (by kernel_rfl) (fun c3 => ?_) (fun c3 => ?_)
    · simp at c3; omega
    refine aw_skip ?_
    refine xt_n ?_
    refine hK _ ?_
    clear hK K
    refine aw_seq_k fun K hK => ?_
    refine w_region (n' := 4) (by kernel_rfl) (by kernel_rfl) ?_
    refine aops_n hTT (M := []) (n := 6) [pv (141 : Nat) (V.own (11 : Nat)), pv (142 : Nat) (V.i n), pv (143 : Nat) (V.c (Value.int IntKind.u8 wi)), pc (144 : Nat) ((-9223372036854775808 : Int) ≤ wi ∧ wi ≤ (9223372036854775807 : Int)) (V.i wi), pc (145 : Nat) ((-9223372036854775808 : Int) ≤ n + wi ∧ n + wi ≤ (9223372036854775807 : Int)) (V.i (n + wi)), pv (146 : Nat) (V.i (min (64 : Int) (n + wi)))] (by kernel_rfl) (by kernel_rfl) ⟨(by omega), (by omega), True.intro⟩ ?_
    refine aops_callR [11] (first := []) (caps := []) (ins' := [Ob.row (2 : Nat) (1 : Nat) (0 : Nat) fun (k : Nat) => [V.i (gi [] k)]]) (v' := V.tup [V.i (0 : Int), V.nil, V.i (0 : Int)]) (δ := []) (kp := [11]) (Run2K_ac (min 64 (n + wi)) (hfew _ (by omega) (by omega))) (by kernel_rfl) (by kernel_rfl) (by kernel_rfl) (by kernel_rfl) (by kernel_rfl) (by kernel_rfl) (by kernel_rfl) rfl (by kernel_rfl) (by kernel_rfl) ⟨(fun _ _ => rfl), True.intro⟩ (by kernel_rfl) (by kernel_rfl) (by kernel_rfl) ?_
    refine aops_n hTT (M := []) (n := 7) [pv (140 : Nat) (V.tup [V.i (0 : Int), V.nil, V.i (0 : Int)]), pv (148 : Nat) (V.i (0 : Int)), pv (149 : Nat) V.nil, pv (150 : Nat) (V.i (0 : Int)), pv (18 : Nat) (V.i (0 : Int)), pv (19 : Nat) V.nil, pv (15 : Nat) (V.i (0 : Int))] (by kernel_rfl) (by kernel_rfl) True.intro ?_
    refine aops_nil ?_
    refine xt_n ?_
    refine hK _ ?_
    clear hK K
    refine aw_seq_k fun K hK => ?_
    refine aw_seq_k fun K hK => ?_
    refine w_region (n' := 5) (by kernel_rfl) (by kernel_rfl) ?_
    refine aops_n hTT (M := []) (n := 7) [pv (151 : Nat) (V.i (0 : Int)), pv (152 : Nat) (V.b false), pv (153 : Nat) (V.b false), pc (154 : Nat) ((True ∧ True) ∧ ((false == false) = true → True)) (V.gd (false == false) (V.i (0 : Int))), pc (155 : Nat) ((True ∧ True) ∧ ((false == false) = true → True)) (V.gd (false == false) (V.i (0 : Int))), pc (156 : Nat) ((((false == false) = true → (false == false) = true) ∧ ((false == false) = true → (false == false) = true) ∧ True) ∧ ((false == false) = true → True)) (V.gd (false == false) (V.b false)), pc (157 : Nat) (True ∧ (false = false → (false == false) = true)) (V.b false)] (by kernel_rfl) (by kernel_rfl) ⟨⟨⟨True.intro, True.intro⟩, (fun _ => True.intro)⟩, ⟨⟨True.intro, True.intro⟩, (fun _ => True.intro)⟩, ⟨⟨(by (exact fun h => h)), ⟨(by (exact fun h => h)), True.intro⟩⟩, (fun _ => True.intro)⟩, ⟨True.intro, (by (intro h; rw [h]; rfl))⟩, True.intro⟩ ?_
    refine aops_nil ?_
    refine xt_n ?_
    refine hK _ ?_
    clear hK K
    refine w_false (t := false) (by kernel_rfl) rfl ?_
    refine aw_skip ?_
    refine xt_n ?_
    refine hK _ ?_
    clear hK K
    refine aw_seq_k fun K hK => ?_
    refine aw_seq_k fun K hK => ?_
    refine w_region (n' := 6) (by kernel_rfl) (by kernel_rfl) ?_
    refine aops_n hTT (M := []) (n := 3) [pv (158 : Nat) (V.own (11 : Nat)), pv (159 : Nat) (V.i (↑(0 : Nat) : Int)), pv (160 : Nat) (V.b true)] (by kernel_rfl) (by kernel_rfl) True.intro ?_
    refine aops_nil ?_
    refine xt_n ?_
    refine hK _ ?_
    clear hK K
    refine w_true (t := true) (by kernel_rfl) rfl ?_
    refine aw_seq_k fun K hK => ?_
    refine w_region (n' := 7) (by kernel_rfl) (by kernel_rfl) ?_
    refine e_call (first := []) (caps := []) (sWorks_ac) (by kernel_rfl) (by kernel_rfl) (by kernel_rfl) (by kernel_rfl) (by kernel_rfl) ?_
    refine aops_n hTT (M := []) (n := 1) [pv (10 : Nat) (V.b true)] (by kernel_rfl) (by kernel_rfl) True.intro ?_
    refine aops_nil ?_
    refine xt_n ?_
    refine hK _ ?_
    clear hK K
    refine aw_ret ?_
    refine xt_r ?_
    refine ret_pure (v' := V.b true) (.inr rfl) (by kernel_rfl) (by kernel_rfl) (by kernel_rfl)
  refine aops_callR [200026] (first := []) (caps := []) (ins' := [Ob.row (2 : Nat) (1 : Nat) (List.length c) fun (i : Nat) => V.renL (callG (2 : Nat) (some (26 : Tmp))) [V.i (gi c i)]]) (v' := V.tup [V.i (fewN c n), V.own (400034 : Nat), V.i (0 : Int)]) (δ := [(400034, Option.some (Ob.row (2 : Nat) (1 : Nat) (List.length c) fun (i : Nat) => V.renL (nameG (4 : Nat) (some 34) [(200026 : Nat)]) [V.i (plc (gi c i) (fewN c n))]))]) (kp := [200026]) (Run3K_ac c n (by omega) hk0 h1 h0) (by kernel_rfl) (by kernel_rfl) (by kernel_rfl) (by kernel_rfl) (by kernel_rfl) (by kernel_rfl) (by kernel_rfl) rfl (by kernel_rfl) (by kernel_rfl) ⟨(fun _ _ => rfl), True.intro⟩ (by kernel_rfl) (by kernel_rfl) (by kernel_rfl) ?_
  have hr := fewN_spec (slots := n) hco (by omega) h0
  have hp := hr.1.pos
  have hq := hr.2
  generalize hF : fewN c n = F at hr hp hq
  refine aops_n hTT (M := []) (n := 7) [pv (31 : Nat) (V.tup [V.i F, V.own (400034 : Nat), V.i (0 : Int)]), pv (35 : Nat) (V.i F), pv (36 : Nat) (V.own (400034 : Nat)), pv (37 : Nat) (V.i (0 : Int)), pv (13 : Nat) (V.i F), pv (14 : Nat) (V.own (400034 : Nat)), pv (15 : Nat) (V.i (0 : Int))] (by kernel_rfl) (by kernel_rfl) True.intro ?_
  refine aops_nil ?_
  refine xt_n ?_
  refine hK _ ?_
  clear hK K
  refine aw_seq_k fun K hK => ?_
  refine aw_seq_k fun K hK => ?_
  refine w_region (n' := 6) (by kernel_rfl) (by kernel_rfl) ?_
  refine aops_n hTT (M := []) (n := 4) [pv (38 : Nat) (V.own (200026 : Nat)), pv (39 : Nat) (V.i (↑(List.length c) : Int)), pv (40 : Nat) (V.i n), pv (41 : Nat) (V.b (decide (n < (↑(List.length c) : Int))))] (by kernel_rfl) (by kernel_rfl) True.intro ?_
  refine aops_nil ?_
  refine xt_n ?_
  refine hK _ ?_
  clear hK K
  refine w_cond (t := decide (n < (↑(List.length c) : Int))) (by kernel_rfl) (fun c1 => ?_) (fun c1 => ?_)
  · simp at c1; omega
  refine aw_skip ?_
  refine xt_n ?_
  refine hK _ ?_
  clear hK K
  refine aw_seq_k fun K hK => ?_
  refine aw_seq_k fun K hK => ?_
  refine w_region (n' := 7) (by kernel_rfl) (by kernel_rfl) ?_
  refine aops_n hTT (M := []) (n := 17) [pv (56 : Nat) (V.i (0 : Int)), pv (57 : Nat) (V.b false), pv (58 : Nat) (V.b false), pc (59 : Nat) ((True ∧ True) ∧ ((false == false) = true → True)) (V.gd (false == false) (V.own (400034 : Nat))), pc (60 : Nat) ((((false == false) = true → (false == false) = true) ∧ True) ∧ ((false == false) = true → True)) (V.gd (false == false) (V.i (↑(List.length c) : Int))), pc (61 : Nat) ((True ∧ True) ∧ ((false == false) = true → True)) (V.gd (false == false) (V.own (200026 : Nat))), pc (62 : Nat) ((((false == false) = true → (false == false) = true) ∧ True) ∧ ((false == false) = true → True)) (V.gd (false == false) (V.i (↑(List.length c) : Int))), pc (63 : Nat) ((((false == false) = true → (false == false) = true) ∧ ((false == false) = true → (false == false) = true) ∧ True) ∧ ((false == false) = true → True)) (V.gd (false == false) (V.b !decide ((↑(List.length c) : Int) = (↑(List.length c) : Int)))), pc (64 : Nat) (True ∧ (false = false → (false == false) = true)) (V.b !decide ((↑(List.length c) : Int) = (↑(List.length c) : Int))), pv (65 : Nat) (V.b !decide ((↑(List.length c) : Int) = (↑(List.length c) : Int))), pc (66 : Nat) ((True ∧ True) ∧ (((!decide ((↑(List.length c) : Int) = (↑(List.length c) : Int))) == false) = true → True)) (V.gd ((!decide ((↑(List.length c) : Int) = (↑(List.length c) : Int))) == false) (V.i F)), pc (67 : Nat) (((((!decide ((↑(List.length c) : Int) = (↑(List.length c) : Int))) == false) = true → ((!decide ((↑(List.length c) : Int) = (↑(List.length c) : Int))) == false) = true) ∧ True ∧ True) ∧ (((!decide ((↑(List.length c) : Int) = (↑(List.length c) : Int))) == false) = true → True)) (V.gd ((!decide ((↑(List.length c) : Int) = (↑(List.length c) : Int))) == false) (V.b (decide (F = (0 : Int))))), pc (68 : Nat) ((True ∧ True) ∧ (((!decide ((↑(List.length c) : Int) = (↑(List.length c) : Int))) == false) = true → True)) (V.gd ((!decide ((↑(List.length c) : Int) = (↑(List.length c) : Int))) == false) (V.own (200026 : Nat))), pc (69 : Nat) (((((!decide ((↑(List.length c) : Int) = (↑(List.length c) : Int))) == false) = true → ((!decide ((↑(List.length c) : Int) = (↑(List.length c) : Int))) == false) = true) ∧ True) ∧ (((!decide ((↑(List.length c) : Int) = (↑(List.length c) : Int))) == false) = true → True)) (V.gd ((!decide ((↑(List.length c) : Int) = (↑(List.length c) : Int))) == false) (V.i (↑(List.length c) : Int))), pc (70 : Nat) (((((!decide ((↑(List.length c) : Int) = (↑(List.length c) : Int))) == false) = true → ((!decide ((↑(List.length c) : Int) = (↑(List.length c) : Int))) == false) = true) ∧ True ∧ True) ∧ (((!decide ((↑(List.length c) : Int) = (↑(List.length c) : Int))) == false) = true → True)) (V.gd ((!decide ((↑(List.length c) : Int) = (↑(List.length c) : Int))) == false) (V.b (decide ((↑(List.length c) : Int) = (0 : Int))))), pc (71 : Nat) (((((!decide ((↑(List.length c) : Int) = (↑(List.length c) : Int))) == false) = true → ((!decide ((↑(List.length c) : Int) = (↑(List.length c) : Int))) == false) = true) ∧ (((!decide ((↑(List.length c) : Int) = (↑(List.length c) : Int))) == false) = true → ((!decide ((↑(List.length c) : Int) = (↑(List.length c) : Int))) == false) = true) ∧ True) ∧ (((!decide ((↑(List.length c) : Int) = (↑(List.length c) : Int))) == false) = true → True)) (V.gd ((!decide ((↑(List.length c) : Int) = (↑(List.length c) : Int))) == false) (V.b !decide (F = (0 : Int)) == decide ((↑(List.length c) : Int) = (0 : Int)))), pc (72 : Nat) (True ∧ ((!decide ((↑(List.length c) : Int) = (↑(List.length c) : Int))) = false → ((!decide ((↑(List.length c) : Int) = (↑(List.length c) : Int))) == false) = true)) (V.b (!decide ((↑(List.length c) : Int) = (↑(List.length c) : Int)) || !decide (F = (0 : Int)) == decide ((↑(List.length c) : Int) = (0 : Int))))] (by kernel_rfl) (by kernel_rfl) ⟨⟨⟨True.intro, True.intro⟩, (fun _ => True.intro)⟩, ⟨⟨(by (exact fun h => h)), True.intro⟩, (fun _ => True.intro)⟩, ⟨⟨True.intro, True.intro⟩, (fun _ => True.intro)⟩, ⟨⟨(by (exact fun h => h)), True.intro⟩, (fun _ => True.intro)⟩, ⟨⟨(by (exact fun h => h)), ⟨(by (exact fun h => h)), True.intro⟩⟩, (fun _ => True.intro)⟩, ⟨True.intro, (by (intro h; rw [h]; rfl))⟩, ⟨⟨True.intro, True.intro⟩, (fun _ => True.intro)⟩, ⟨⟨(by (exact fun h => h)), ⟨True.intro, True.intro⟩⟩, (fun _ => True.intro)⟩, ⟨⟨True.intro, True.intro⟩, (fun _ => True.intro)⟩, ⟨⟨(by (exact fun h => h)), True.intro⟩, (fun _ => True.intro)⟩, ⟨⟨(by (exact fun h => h)), ⟨True.intro, True.intro⟩⟩, (fun _ => True.intro)⟩, ⟨⟨(by (exact fun h => h)), ⟨(by (exact fun h => h)), True.intro⟩⟩, (fun _ => True.intro)⟩, ⟨True.intro, (by (intro h; rw [h]; rfl))⟩, True.intro⟩ ?_
  refine aops_nil ?_
  refine xt_n ?_
  refine hK _ ?_
  clear hK K
  have hne : c ≠ [] := fun h => h0 (by rw [h]; rfl)
  refine w_cond (t := !decide ((↑(List.length c) : Int) = (↑(List.length c) : Int)) || !decide (F = (0 : Int)) == decide ((↑(List.length c) : Int) = (0 : Int))) (by kernel_rfl) (fun c2 => ?_) (fun c2 => ?_)
  · simp [hne] at c2; omega
  refine aw_skip ?_
  refine xt_n ?_
  refine hK _ ?_
  clear hK K
  refine aw_seq_k fun K hK => ?_
  refine w_region (n' := 8) (by kernel_rfl) (by kernel_rfl) ?_
  refine aops_n hTT (M := []) (n := 1) [pv (16 : Nat) (V.i (0 : Int))] (by kernel_rfl) (by kernel_rfl) True.intro ?_
  refine aops_nil ?_
  refine xt_n ?_
  refine hK _ ?_
  clear hK K
  refine aw_seq_k fun K hK => ?_
  refine aw_seq_k fun K hK => ?_
  refine w_region (n' := 9) (by kernel_rfl) (by kernel_rfl) ?_
  refine aops_n hTT (M := []) (n := 1) [pv (17 : Nat) (V.i (0 : Int))] (by kernel_rfl) (by kernel_rfl) True.intro ?_
  refine aops_nil ?_
  refine xt_n ?_
  refine hK _ ?_
  clear hK K
  refine aw_block ?_
  refine w_loop (ι := Nat) (fun k => [(2, .c (.int .u8 wh)), (3, .c (.int .u16 mo)), (4, .c (.int .u8 wi)), (11, .own 11), (12, .i n), (13, .i F), (14, .own 14), (16, .i (plcS c F k)), (17, .i k)]) (fun _ => [(11, .row 2 1 c.length fun k => [.i (gi c k)]), (14, .row 2 1 c.length fun k => [.i (plc (gi c k) F)])]) (fun k => k ≤ c.length) (fun k => c.length - k) 0 (Nat.zero_le _) ?_ ?_
  · refine le_ren (sl := [(11, Ob.row (2 : Nat) (1 : Nat) (List.length c) fun (k : Nat) => [V.i (gi c k)]), (14, Ob.row (2 : Nat) (1 : Nat) (List.length c) fun (k : Nat) => [V.i (plc (gi c k) F)])]) [(11, 200026), (14, 400034)] (.cons (by kernel_rfl) (.cons (by kernel_rfl) (.cons (by kernel_rfl) (.cons (by kernel_rfl) (.cons (by kernel_rfl) (.cons (by kernel_rfl) (.cons (by kernel_rfl) (.cons (by kernel_rfl) (.cons (by kernel_rfl) .nil))))))))) (.cons ⟨Ob.row (2 : Nat) (1 : Nat) (List.length c) fun (i : Nat) => V.renL (callG (2 : Nat) (some (26 : Tmp))) [V.i (gi c i)], (by kernel_rfl), .row (by kernel_rfl) (fun _ _ => rfl)⟩ (.cons ⟨Ob.row (2 : Nat) (1 : Nat) (List.length c) fun (i : Nat) => V.renL (nameG (4 : Nat) (some (34 : Tmp)) [(200026 : Nat)]) [V.i (plc (gi c i) F)], (by kernel_rfl), .row (by kernel_rfl) (fun _ _ => rfl)⟩ .nil)) (by kernel_rfl) (by kernel_rfl)
  intro k hk
  refine aw_seq_k fun K hK => ?_
  refine aw_seq_k fun K hK => ?_
  refine w_region (n' := 2) (by kernel_rfl) (by kernel_rfl) ?_
  refine aops_n hTT (M := []) (n := 4) [pv (73 : Nat) (V.i (↑k : Int)), pv (74 : Nat) (V.own (11 : Nat)), pv (75 : Nat) (V.i (↑(List.length c) : Int)), pv (76 : Nat) (V.b (decide ((↑k : Int) < (↑(List.length c) : Int))))] (by kernel_rfl) (by kernel_rfl) True.intro ?_
  refine aops_nil ?_
  refine xt_n ?_
  refine hK _ ?_
  clear hK K
  refine w_cond (t := decide ((↑k : Int) < (↑(List.length c) : Int))) (by kernel_rfl) (fun c3 => ?_) (fun c3 => ?_)
  · simp at c3
    have q1 := plc_pos (hco.gi c3).1 hp
    have q2 := (plc_iff (n := gi c k) (q := plc (gi c k) F) hp).1 (Int.le_refl _)
    have q3 : (plc (gi c k) F - 1) * F < gi c k := by
      have := (plc_iff (n := gi c k) (q := plc (gi c k) F - 1) hp)
      omega
    have q4 := plc_le_sum hco hp c3 c.length (Nat.le_refl _) c3
    have q5 : plc (gi c k) F * F = (plc (gi c k) F - 1) * F + F := by rw [Int.sub_mul]; omega
    have q6 : 0 ≤ (plc (gi c k) F - 1) * F := Int.mul_nonneg (by omega) (by omega)
    have q7 := (hco.gi c3).2
    have q8 := hr.1.ok
    have q9 := plcS_bd hco hp k hk
    refine aw_skip ?_
    refine xt_n ?_
    refine hK _ ?_
    clear hK K
    refine aw_seq_k fun K hK => ?_
    refine aw_block ?_
    refine aw_seq_k fun K hK => ?_
    refine aw_seq_k fun K hK => ?_
    refine w_regionD (n' := 3) (by kernel_rfl) (by kernel_rfl) ?_
    refine aops_n hTT (M := []) (n := 40) [pv (79 : Nat) (V.own (14 : Nat)), pv (80 : Nat) (V.i (↑k : Int)), pc (81 : Nat) ((0 : Int) ≤ (↑k : Int) ∧ (↑k : Int) < (↑(List.length c) : Int)) (V.oel (14 : Nat) (1 : Nat) k (0 : Nat)), pc (82 : Nat) (k < List.length c ∧ (0 : Nat) ≤ (1 : Nat)) (V.i (plc (gi c k) F)), pv (83 : Nat) (V.b (decide (plc (gi c k) F < (1 : Int)))), pv (84 : Nat) (V.b (decide (plc (gi c k) F < (1 : Int)))), pc (85 : Nat) ((True ∧ True) ∧ ((decide (plc (gi c k) F < (1 : Int)) == false) = true → True)) (V.gd (decide (plc (gi c k) F < (1 : Int)) == false) (V.own (14 : Nat))), pc (86 : Nat) ((True ∧ True) ∧ ((decide (plc (gi c k) F < (1 : Int)) == false) = true → True)) (V.gd (decide (plc (gi c k) F < (1 : Int)) == false) (V.i (↑k : Int))), pc (87 : Nat) ((((decide (plc (gi c k) F < (1 : Int)) == false) = true → (decide (plc (gi c k) F < (1 : Int)) == false) = true) ∧ ((decide (plc (gi c k) F < (1 : Int)) == false) = true → (decide (plc (gi c k) F < (1 : Int)) == false) = true) ∧ True) ∧ ((decide (plc (gi c k) F < (1 : Int)) == false) = true → (0 : Int) ≤ (↑k : Int) ∧ (↑k : Int) < (↑(List.length c) : Int))) (V.gd (decide (plc (gi c k) F < (1 : Int)) == false) (V.oel (14 : Nat) (1 : Nat) k (0 : Nat))), pc (88 : Nat) ((((decide (plc (gi c k) F < (1 : Int)) == false) = true → (decide (plc (gi c k) F < (1 : Int)) == false) = true) ∧ True) ∧ ((decide (plc (gi c k) F < (1 : Int)) == false) = true → k < List.length c ∧ (0 : Nat) ≤ (1 : Nat))) (V.gd (decide (plc (gi c k) F < (1 : Int)) == false) (V.i (plc (gi c k) F))), pc (89 : Nat) ((True ∧ True) ∧ ((decide (plc (gi c k) F < (1 : Int)) == false) = true → True)) (V.gd (decide (plc (gi c k) F < (1 : Int)) == false) (V.i n)), pc (90 : Nat) ((((decide (plc (gi c k) F < (1 : Int)) == false) = true → (decide (plc (gi c k) F < (1 : Int)) == false) = true) ∧ ((decide (plc (gi c k) F < (1 : Int)) == false) = true → (decide (plc (gi c k) F < (1 : Int)) == false) = true) ∧ True) ∧ ((decide (plc (gi c k) F < (1 : Int)) == false) = true → True)) (V.gd (decide (plc (gi c k) F < (1 : Int)) == false) (V.b (decide (n < plc (gi c k) F)))), pc (91 : Nat) (True ∧ (decide (plc (gi c k) F < (1 : Int)) = false → (decide (plc (gi c k) F < (1 : Int)) == false) = true)) (V.b (decide (plc (gi c k) F < (1 : Int)) || decide (n < plc (gi c k) F))), pv (92 : Nat) (V.b (decide (plc (gi c k) F < (1 : Int)) || decide (n < plc (gi c k) F))), pc (93 : Nat) ((True ∧ True) ∧ (((decide (plc (gi c k) F < (1 : Int)) || decide (n < plc (gi c k) F)) == false) = true → True)) (V.gd ((decide (plc (gi c k) F < (1 : Int)) || decide (n < plc (gi c k) F)) == false) (V.own (14 : Nat))), pc (94 : Nat) ((True ∧ True) ∧ (((decide (plc (gi c k) F < (1 : Int)) || decide (n < plc (gi c k) F)) == false) = true → True)) (V.gd ((decide (plc (gi c k) F < (1 : Int)) || decide (n < plc (gi c k) F)) == false) (V.i (↑k : Int))), pc (95 : Nat) (((((decide (plc (gi c k) F < (1 : Int)) || decide (n < plc (gi c k) F)) == false) = true → ((decide (plc (gi c k) F < (1 : Int)) || decide (n < plc (gi c k) F)) == false) = true) ∧ (((decide (plc (gi c k) F < (1 : Int)) || decide (n < plc (gi c k) F)) == false) = true → ((decide (plc (gi c k) F < (1 : Int)) || decide (n < plc (gi c k) F)) == false) = true) ∧ True) ∧ (((decide (plc (gi c k) F < (1 : Int)) || decide (n < plc (gi c k) F)) == false) = true → (0 : Int) ≤ (↑k : Int) ∧ (↑k : Int) < (↑(List.length c) : Int))) (V.gd ((decide (plc (gi c k) F < (1 : Int)) || decide (n < plc (gi c k) F)) == false) (V.oel (14 : Nat) (1 : Nat) k (0 : Nat))), pc (96 : Nat) (((((decide (plc (gi c k) F < (1 : Int)) || decide (n < plc (gi c k) F)) == false) = true → ((decide (plc (gi c k) F < (1 : Int)) || decide (n < plc (gi c k) F)) == false) = true) ∧ True) ∧ (((decide (plc (gi c k) F < (1 : Int)) || decide (n < plc (gi c k) F)) == false) = true → k < List.length c ∧ (0 : Nat) ≤ (1 : Nat))) (V.gd ((decide (plc (gi c k) F < (1 : Int)) || decide (n < plc (gi c k) F)) == false) (V.i (plc (gi c k) F))), pc (97 : Nat) ((True ∧ True) ∧ (((decide (plc (gi c k) F < (1 : Int)) || decide (n < plc (gi c k) F)) == false) = true → True)) (V.gd ((decide (plc (gi c k) F < (1 : Int)) || decide (n < plc (gi c k) F)) == false) (V.i F)), pc (98 : Nat) (((((decide (plc (gi c k) F < (1 : Int)) || decide (n < plc (gi c k) F)) == false) = true → ((decide (plc (gi c k) F < (1 : Int)) || decide (n < plc (gi c k) F)) == false) = true) ∧ (((decide (plc (gi c k) F < (1 : Int)) || decide (n < plc (gi c k) F)) == false) = true → ((decide (plc (gi c k) F < (1 : Int)) || decide (n < plc (gi c k) F)) == false) = true) ∧ True) ∧ (((decide (plc (gi c k) F < (1 : Int)) || decide (n < plc (gi c k) F)) == false) = true → (-9223372036854775808 : Int) ≤ plc (gi c k) F * F ∧ plc (gi c k) F * F ≤ (9223372036854775807 : Int))) (V.gd ((decide (plc (gi c k) F < (1 : Int)) || decide (n < plc (gi c k) F)) == false) (V.i (plc (gi c k) F * F))), pc (99 : Nat) ((True ∧ True) ∧ (((decide (plc (gi c k) F < (1 : Int)) || decide (n < plc (gi c k) F)) == false) = true → True)) (V.gd ((decide (plc (gi c k) F < (1 : Int)) || decide (n < plc (gi c k) F)) == false) (V.own (11 : Nat))), pc (100 : Nat) ((True ∧ True) ∧ (((decide (plc (gi c k) F < (1 : Int)) || decide (n < plc (gi c k) F)) == false) = true → True)) (V.gd ((decide (plc (gi c k) F < (1 : Int)) || decide (n < plc (gi c k) F)) == false) (V.i (↑k : Int))), pc (101 : Nat) (((((decide (plc (gi c k) F < (1 : Int)) || decide (n < plc (gi c k) F)) == false) = true → ((decide (plc (gi c k) F < (1 : Int)) || decide (n < plc (gi c k) F)) == false) = true) ∧ (((decide (plc (gi c k) F < (1 : Int)) || decide (n < plc (gi c k) F)) == false) = true → ((decide (plc (gi c k) F < (1 : Int)) || decide (n < plc (gi c k) F)) == false) = true) ∧ True) ∧ (((decide (plc (gi c k) F < (1 : Int)) || decide (n < plc (gi c k) F)) == false) = true → (0 : Int) ≤ (↑k : Int) ∧ (↑k : Int) < (↑(List.length c) : Int))) (V.gd ((decide (plc (gi c k) F < (1 : Int)) || decide (n < plc (gi c k) F)) == false) (V.oel (11 : Nat) (1 : Nat) k (0 : Nat))), pc (102 : Nat) (((((decide (plc (gi c k) F < (1 : Int)) || decide (n < plc (gi c k) F)) == false) = true → ((decide (plc (gi c k) F < (1 : Int)) || decide (n < plc (gi c k) F)) == false) = true) ∧ True) ∧ (((decide (plc (gi c k) F < (1 : Int)) || decide (n < plc (gi c k) F)) == false) = true → k < List.length c ∧ (0 : Nat) ≤ (1 : Nat))) (V.gd ((decide (plc (gi c k) F < (1 : Int)) || decide (n < plc (gi c k) F)) == false) (V.i (gi c k))), pc (103 : Nat) (((((decide (plc (gi c k) F < (1 : Int)) || decide (n < plc (gi c k) F)) == false) = true → ((decide (plc (gi c k) F < (1 : Int)) || decide (n < plc (gi c k) F)) == false) = true) ∧ (((decide (plc (gi c k) F < (1 : Int)) || decide (n < plc (gi c k) F)) == false) = true → ((decide (plc (gi c k) F < (1 : Int)) || decide (n < plc (gi c k) F)) == false) = true) ∧ True) ∧ (((decide (plc (gi c k) F < (1 : Int)) || decide (n < plc (gi c k) F)) == false) = true → True)) (V.gd ((decide (plc (gi c k) F < (1 : Int)) || decide (n < plc (gi c k) F)) == false) (V.b (decide (plc (gi c k) F * F < gi c k)))), pc (104 : Nat) (True ∧ ((decide (plc (gi c k) F < (1 : Int)) || decide (n < plc (gi c k) F)) = false → ((decide (plc (gi c k) F < (1 : Int)) || decide (n < plc (gi c k) F)) == false) = true)) (V.b (decide (plc (gi c k) F < (1 : Int)) || decide (n < plc (gi c k) F) || decide (plc (gi c k) F * F < gi c k))), pv (105 : Nat) (V.b (decide (plc (gi c k) F < (1 : Int)) || decide (n < plc (gi c k) F) || decide (plc (gi c k) F * F < gi c k))), pc (106 : Nat) ((True ∧ True) ∧ (((decide (plc (gi c k) F < (1 : Int)) || decide (n < plc (gi c k) F) || decide (plc (gi c k) F * F < gi c k)) == false) = true → True)) (V.gd ((decide (plc (gi c k) F < (1 : Int)) || decide (n < plc (gi c k) F) || decide (plc (gi c k) F * F < gi c k)) == false) (V.own (14 : Nat))), pc (107 : Nat) ((True ∧ True) ∧ (((decide (plc (gi c k) F < (1 : Int)) || decide (n < plc (gi c k) F) || decide (plc (gi c k) F * F < gi c k)) == false) = true → True)) (V.gd ((decide (plc (gi c k) F < (1 : Int)) || decide (n < plc (gi c k) F) || decide (plc (gi c k) F * F < gi c k)) == false) (V.i (↑k : Int))), pc (108 : Nat) (((((decide (plc (gi c k) F < (1 : Int)) || decide (n < plc (gi c k) F) || decide (plc (gi c k) F * F < gi c k)) == false) = true → ((decide (plc (gi c k) F < (1 : Int)) || decide (n < plc (gi c k) F) || decide (plc (gi c k) F * F < gi c k)) == false) = true) ∧ (((decide (plc (gi c k) F < (1 : Int)) || decide (n < plc (gi c k) F) || decide (plc (gi c k) F * F < gi c k)) == false) = true → ((decide (plc (gi c k) F < (1 : Int)) || decide (n < plc (gi c k) F) || decide (plc (gi c k) F * F < gi c k)) == false) = true) ∧ True) ∧ (((decide (plc (gi c k) F < (1 : Int)) || decide (n < plc (gi c k) F) || decide (plc (gi c k) F * F < gi c k)) == false) = true → (0 : Int) ≤ (↑k : Int) ∧ (↑k : Int) < (↑(List.length c) : Int))) (V.gd ((decide (plc (gi c k) F < (1 : Int)) || decide (n < plc (gi c k) F) || decide (plc (gi c k) F * F < gi c k)) == false) (V.oel (14 : Nat) (1 : Nat) k (0 : Nat))), pc (109 : Nat) (((((decide (plc (gi c k) F < (1 : Int)) || decide (n < plc (gi c k) F) || decide (plc (gi c k) F * F < gi c k)) == false) = true → ((decide (plc (gi c k) F < (1 : Int)) || decide (n < plc (gi c k) F) || decide (plc (gi c k) F * F < gi c k)) == false) = true) ∧ True) ∧ (((decide (plc (gi c k) F < (1 : Int)) || decide (n < plc (gi c k) F) || decide (plc (gi c k) F * F < gi c k)) == false) = true → k < List.length c ∧ (0 : Nat) ≤ (1 : Nat))) (V.gd ((decide (plc (gi c k) F < (1 : Int)) || decide (n < plc (gi c k) F) || decide (plc (gi c k) F * F < gi c k)) == false) (V.i (plc (gi c k) F))), pc (110 : Nat) (((((decide (plc (gi c k) F < (1 : Int)) || decide (n < plc (gi c k) F) || decide (plc (gi c k) F * F < gi c k)) == false) = true → ((decide (plc (gi c k) F < (1 : Int)) || decide (n < plc (gi c k) F) || decide (plc (gi c k) F * F < gi c k)) == false) = true) ∧ True ∧ True) ∧ (((decide (plc (gi c k) F < (1 : Int)) || decide (n < plc (gi c k) F) || decide (plc (gi c k) F * F < gi c k)) == false) = true → (-9223372036854775808 : Int) ≤ plc (gi c k) F - (1 : Int) ∧ plc (gi c k) F - (1 : Int) ≤ (9223372036854775807 : Int))) (V.gd ((decide (plc (gi c k) F < (1 : Int)) || decide (n < plc (gi c k) F) || decide (plc (gi c k) F * F < gi c k)) == false) (V.i (plc (gi c k) F - (1 : Int)))), pc (111 : Nat) ((True ∧ True) ∧ (((decide (plc (gi c k) F < (1 : Int)) || decide (n < plc (gi c k) F) || decide (plc (gi c k) F * F < gi c k)) == false) = true → True)) (V.gd ((decide (plc (gi c k) F < (1 : Int)) || decide (n < plc (gi c k) F) || decide (plc (gi c k) F * F < gi c k)) == false) (V.i F)), pc (112 : Nat) (((((decide (plc (gi c k) F < (1 : Int)) || decide (n < plc (gi c k) F) || decide (plc (gi c k) F * F < gi c k)) == false) = true → ((decide (plc (gi c k) F < (1 : Int)) || decide (n < plc (gi c k) F) || decide (plc (gi c k) F * F < gi c k)) == false) = true) ∧ (((decide (plc (gi c k) F < (1 : Int)) || decide (n < plc (gi c k) F) || decide (plc (gi c k) F * F < gi c k)) == false) = true → ((decide (plc (gi c k) F < (1 : Int)) || decide (n < plc (gi c k) F) || decide (plc (gi c k) F * F < gi c k)) == false) = true) ∧ True) ∧ (((decide (plc (gi c k) F < (1 : Int)) || decide (n < plc (gi c k) F) || decide (plc (gi c k) F * F < gi c k)) == false) = true → (-9223372036854775808 : Int) ≤ (plc (gi c k) F - (1 : Int)) * F ∧ (plc (gi c k) F - (1 : Int)) * F ≤ (9223372036854775807 : Int))) (V.gd ((decide (plc (gi c k) F < (1 : Int)) || decide (n < plc (gi c k) F) || decide (plc (gi c k) F * F < gi c k)) == false) (V.i ((plc (gi c k) F - (1 : Int)) * F))), pc (113 : Nat) ((True ∧ True) ∧ (((decide (plc (gi c k) F < (1 : Int)) || decide (n < plc (gi c k) F) || decide (plc (gi c k) F * F < gi c k)) == false) = true → True)) (V.gd ((decide (plc (gi c k) F < (1 : Int)) || decide (n < plc (gi c k) F) || decide (plc (gi c k) F * F < gi c k)) == false) (V.own (11 : Nat))), pc (114 : Nat) ((True ∧ True) ∧ (((decide (plc (gi c k) F < (1 : Int)) || decide (n < plc (gi c k) F) || decide (plc (gi c k) F * F < gi c k)) == false) = true → True)) (V.gd ((decide (plc (gi c k) F < (1 : Int)) || decide (n < plc (gi c k) F) || decide (plc (gi c k) F * F < gi c k)) == false) (V.i (↑k : Int))), pc (115 : Nat) (((((decide (plc (gi c k) F < (1 : Int)) || decide (n < plc (gi c k) F) || decide (plc (gi c k) F * F < gi c k)) == false) = true → ((decide (plc (gi c k) F < (1 : Int)) || decide (n < plc (gi c k) F) || decide (plc (gi c k) F * F < gi c k)) == false) = true) ∧ (((decide (plc (gi c k) F < (1 : Int)) || decide (n < plc (gi c k) F) || decide (plc (gi c k) F * F < gi c k)) == false) = true → ((decide (plc (gi c k) F < (1 : Int)) || decide (n < plc (gi c k) F) || decide (plc (gi c k) F * F < gi c k)) == false) = true) ∧ True) ∧ (((decide (plc (gi c k) F < (1 : Int)) || decide (n < plc (gi c k) F) || decide (plc (gi c k) F * F < gi c k)) == false) = true → (0 : Int) ≤ (↑k : Int) ∧ (↑k : Int) < (↑(List.length c) : Int))) (V.gd ((decide (plc (gi c k) F < (1 : Int)) || decide (n < plc (gi c k) F) || decide (plc (gi c k) F * F < gi c k)) == false) (V.oel (11 : Nat) (1 : Nat) k (0 : Nat))), pc (116 : Nat) (((((decide (plc (gi c k) F < (1 : Int)) || decide (n < plc (gi c k) F) || decide (plc (gi c k) F * F < gi c k)) == false) = true → ((decide (plc (gi c k) F < (1 : Int)) || decide (n < plc (gi c k) F) || decide (plc (gi c k) F * F < gi c k)) == false) = true) ∧ True) ∧ (((decide (plc (gi c k) F < (1 : Int)) || decide (n < plc (gi c k) F) || decide (plc (gi c k) F * F < gi c k)) == false) = true → k < List.length c ∧ (0 : Nat) ≤ (1 : Nat))) (V.gd ((decide (plc (gi c k) F < (1 : Int)) || decide (n < plc (gi c k) F) || decide (plc (gi c k) F * F < gi c k)) == false) (V.i (gi c k))), pc (117 : Nat) (((((decide (plc (gi c k) F < (1 : Int)) || decide (n < plc (gi c k) F) || decide (plc (gi c k) F * F < gi c k)) == false) = true → ((decide (plc (gi c k) F < (1 : Int)) || decide (n < plc (gi c k) F) || decide (plc (gi c k) F * F < gi c k)) == false) = true) ∧ (((decide (plc (gi c k) F < (1 : Int)) || decide (n < plc (gi c k) F) || decide (plc (gi c k) F * F < gi c k)) == false) = true → ((decide (plc (gi c k) F < (1 : Int)) || decide (n < plc (gi c k) F) || decide (plc (gi c k) F * F < gi c k)) == false) = true) ∧ True) ∧ (((decide (plc (gi c k) F < (1 : Int)) || decide (n < plc (gi c k) F) || decide (plc (gi c k) F * F < gi c k)) == false) = true → True)) (V.gd ((decide (plc (gi c k) F < (1 : Int)) || decide (n < plc (gi c k) F) || decide (plc (gi c k) F * F < gi c k)) == false) (V.b (decide (gi c k ≤ (plc (gi c k) F - (1 : Int)) * F)))), pc (118 : Nat) (True ∧ ((decide (plc (gi c k) F < (1 : Int)) || decide (n < plc (gi c k) F) || decide (plc (gi c k) F * F < gi c k)) = false → ((decide (plc (gi c k) F < (1 : Int)) || decide (n < plc (gi c k) F) || decide (plc (gi c k) F * F < gi c k)) == false) = true)) (V.b (decide (plc (gi c k) F < (1 : Int)) || decide (n < plc (gi c k) F) || decide (plc (gi c k) F * F < gi c k) || decide (gi c k ≤ (plc (gi c k) F - (1 : Int)) * F)))] (by kernel_rfl) (by kernel_rfl) ⟨(by omega), (by omega), ⟨⟨True.intro, True.intro⟩, (fun _ => True.intro)⟩, ⟨⟨True.intro, True.intro⟩, (fun _ => True.intro)⟩, ⟨⟨(by (exact fun h => h)), ⟨(by (exact fun h => h)), True.intro⟩⟩, (by (intro hg; simp at hg; omega))⟩, ⟨⟨(by (exact fun h => h)), True.intro⟩, (by (intro hg; simp at hg; omega))⟩, ⟨⟨True.intro, True.intro⟩, (fun _ => True.intro)⟩, ⟨⟨(by (exact fun h => h)), ⟨(by (exact fun h => h)), True.intro⟩⟩, (fun _ => True.intro)⟩, ⟨True.intro, (by (intro h; rw [h]; rfl))⟩, ⟨⟨True.intro, True.intro⟩, (fun _ => True.intro)⟩, ⟨⟨True.intro, True.intro⟩, (fun _ => True.intro)⟩, ⟨⟨(by (exact fun h => h)), ⟨(by (exact fun h => h)), True.intro⟩⟩, (by (intro hg; simp at hg; omega))⟩, ⟨⟨(by (exact fun h => h)), True.intro⟩, (by (intro hg; simp at hg; omega))⟩, ⟨⟨True.intro, True.intro⟩, (fun _ => True.intro)⟩, ⟨⟨(by (exact fun h => h)), ⟨(by (exact fun h => h)), True.intro⟩⟩, (by (intro hg; simp at hg; omega))⟩, ⟨⟨True.intro, True.intro⟩, (fun _ => True.intro)⟩, ⟨⟨True.intro, True.intro⟩, (fun _ => True.intro)⟩, ⟨⟨(by (exact fun h => h)), ⟨(by (exact fun h => h)), True.intro⟩⟩, (by (intro hg; simp at hg; omega))⟩, ⟨⟨(by (exact fun h => h)), True.intro⟩, (by (intro hg; simp at hg; omega))⟩, ⟨⟨(by (exact fun h => h)), ⟨(by (exact fun h => h)), True.intro⟩⟩, (fun _ => True.intro)⟩, ⟨True.intro, (by (intro h; rw [h]; rfl))⟩, ⟨⟨True.intro, True.intro⟩, (fun _ => True.intro)⟩, ⟨⟨True.intro, True.intro⟩, (fun _ => True.intro)⟩, ⟨⟨(by (exact fun h => h)), ⟨(by (exact fun h => h)), True.intro⟩⟩, (by (intro hg; simp at hg; omega))⟩, ⟨⟨(by (exact fun h => h)), True.intro⟩, (by (intro hg; simp at hg; omega))⟩, ⟨⟨(by (exact fun h => h)), ⟨True.intro, True.intro⟩⟩, (by (intro hg; simp at hg; omega))⟩, ⟨⟨True.intro, True.intro⟩, (fun _ => True.intro)⟩, ⟨⟨(by (exact fun h => h)), ⟨(by (exact fun h => h)), True.intro⟩⟩, (by (intro hg; simp at hg; omega))⟩, ⟨⟨True.intro, True.intro⟩, (fun _ => True.intro)⟩, ⟨⟨True.intro, True.intro⟩, (fun _ => True.intro)⟩, ⟨⟨(by (exact fun h => h)), ⟨(by (exact fun h => h)), True.intro⟩⟩, (by (intro hg; simp at hg; omega))⟩, ⟨⟨(by (exact fun h => h)), True.intro⟩, (by (intro hg; simp at hg; omega))⟩, ⟨⟨(by (exact fun h => h)), ⟨(by (exact fun h => h)), True.intro⟩⟩, (fun _ => True.intro)⟩, ⟨True.intro, (by (intro h; rw [h]; rfl))⟩, True.intro⟩ ?_
    refine aops_nil ⟨by kernel_rfl, ?_⟩
    refine xt_n ?_
    refine hK _ ?_
    clear hK K
    refine w_cond (t := decide (plc (gi c k) F < (1 : Int)) || decide (n < plc (gi c k) F) || decide (plc (gi c k) F * F < gi c k) || decide (gi c k ≤ (plc (gi c k) F - (1 : Int)) * F)) (by kernel_rfl) (fun c4 => ?_) (fun c4 => ?_)
    · simp at c4; omega
    refine aw_skip ?_
    refine xt_n ?_
    refine hK _ ?_
    clear hK K
    refine w_region (n' := 4) (by kernel_rfl) (by kernel_rfl) ?_
    refine aops_n hTT (M := []) (n := 7) [pv (119 : Nat) (V.i (plcS c F k)), pv (120 : Nat) (V.own (14 : Nat)), pv (121 : Nat) (V.i (↑k : Int)), pc (122 : Nat) ((0 : Int) ≤ (↑k : Int) ∧ (↑k : Int) < (↑(List.length c) : Int)) (V.oel (14 : Nat) (1 : Nat) k (0 : Nat)), pc (123 : Nat) (k < List.length c ∧ (0 : Nat) ≤ (1 : Nat)) (V.i (plc (gi c k) F)), pc (124 : Nat) ((-9223372036854775808 : Int) ≤ plcS c F k + plc (gi c k) F ∧ plcS c F k + plc (gi c k) F ≤ (9223372036854775807 : Int)) (V.i (plcS c F k + plc (gi c k) F)), pv (16 : Nat) (V.i (plcS c F k + plc (gi c k) F))] (by kernel_rfl) (by kernel_rfl) ⟨(by omega), (by omega), (by omega), True.intro⟩ ?_
    refine aops_nil ?_
    refine xb_n ?_
    refine xt_n ?_
    refine hK _ ?_
    clear hK K
    refine w_region (n' := 5) (by kernel_rfl) (by kernel_rfl) ?_
    refine aops_n hTT (M := []) (n := 3) [pv (77 : Nat) (V.i (↑k : Int)), pc (78 : Nat) ((-9223372036854775808 : Int) ≤ (↑k : Int) + (1 : Int) ∧ (↑k : Int) + (1 : Int) ≤ (9223372036854775807 : Int)) (V.i ((↑k : Int) + (1 : Int))), pv (17 : Nat) (V.i ((↑k : Int) + (1 : Int)))] (by kernel_rfl) (by kernel_rfl) ⟨(by omega), True.intro⟩ ?_
    refine aops_nil ?_
    refine xt_n ?_
    refine ⟨k + 1, by omega, by refine le_ren (sl := [(11, Ob.row (2 : Nat) (1 : Nat) (List.length c) fun (k : Nat) => [V.i (gi c k)]), (14, Ob.row (2 : Nat) (1 : Nat) (List.length c) fun (k : Nat) => [V.i (plc (gi c k) F)])]) [(11, 11), (14, 14)] (.cons (by kernel_rfl) (.cons (by kernel_rfl) (.cons (by kernel_rfl) (.cons (by kernel_rfl) (.cons (by kernel_rfl) (.cons (by kernel_rfl) (.cons (by kernel_rfl) (.cons (by kernel_rfl) (.cons (by kernel_rfl) .nil))))))))) (.cons ⟨Ob.row (2 : Nat) (1 : Nat) (List.length c) fun (k : Nat) => [V.i (gi c k)], (by kernel_rfl), .row (by kernel_rfl) (fun _ _ => rfl)⟩ (.cons ⟨Ob.row (2 : Nat) (1 : Nat) (List.length c) fun (k : Nat) => [V.i (plc (gi c k) F)], (by kernel_rfl), .row (by kernel_rfl) (fun _ _ => rfl)⟩ .nil)) (by kernel_rfl) (by kernel_rfl), by omega⟩
  simp at c3
  obtain rfl : k = c.length := by omega
  have q8 := hr.1.ok
  have hE : enB c n (F - 1) = false := by
    unfold enB
    split
    · exact decide_eq_false h0
    · exact decide_eq_false (by have := hr.1.least (F - 1) (by omega) (by omega); omega)
  refine aw_exit ?_
  refine xt_x ?_
  refine xt_x ?_
  refine xb_same ?_
  refine xt_n ?_
  clear hK K
  refine hK _ ?_
  clear hK K
  refine aw_seq_k fun K hK => ?_
  refine aw_seq_k fun K hK => ?_
  refine w_region (n' := 3) (by kernel_rfl) (by kernel_rfl) ?_
  refine aops_n hTT (M := []) (n := 12) [pv (125 : Nat) (V.i (plcS c F (List.length c))), pv (126 : Nat) (V.i n), pv (127 : Nat) (V.b (decide (n < plcS c F (List.length c)))), pv (128 : Nat) (V.b (decide (n < plcS c F (List.length c)))), pc (129 : Nat) ((True ∧ True) ∧ ((decide (n < plcS c F (List.length c)) == false) = true → True)) (V.gd (decide (n < plcS c F (List.length c)) == false) (V.own (11 : Nat))), pc (130 : Nat) ((((decide (n < plcS c F (List.length c)) == false) = true → (decide (n < plcS c F (List.length c)) == false) = true) ∧ True) ∧ ((decide (n < plcS c F (List.length c)) == false) = true → True)) (V.gd (decide (n < plcS c F (List.length c)) == false) (V.i (↑(List.length c) : Int))), pc (131 : Nat) ((((decide (n < plcS c F (List.length c)) == false) = true → (decide (n < plcS c F (List.length c)) == false) = true) ∧ True ∧ True) ∧ ((decide (n < plcS c F (List.length c)) == false) = true → True)) (V.gd (decide (n < plcS c F (List.length c)) == false) (V.b (decide ((0 : Int) < (↑(List.length c) : Int))))), pc (132 : Nat) ((((decide (n < plcS c F (List.length c)) == false) = true → (decide (n < plcS c F (List.length c)) == false) = true) ∧ True) ∧ ((decide (n < plcS c F (List.length c)) == false) = true → True)) (V.gd (decide (n < plcS c F (List.length c)) == false) (V.b (decide ((0 : Int) < (↑(List.length c) : Int))))), pc (133 : Nat) ((True ∧ True) ∧ ((decide (n < plcS c F (List.length c)) == false && decide ((0 : Int) < (↑(List.length c) : Int)) == true) = true → True)) (V.gd (decide (n < plcS c F (List.length c)) == false && decide ((0 : Int) < (↑(List.length c) : Int)) == true) (V.own (11 : Nat))), pc (134 : Nat) ((True ∧ True) ∧ ((decide (n < plcS c F (List.length c)) == false && decide ((0 : Int) < (↑(List.length c) : Int)) == true) = true → True)) (V.gd (decide (n < plcS c F (List.length c)) == false && decide ((0 : Int) < (↑(List.length c) : Int)) == true) (V.i n)), pc (135 : Nat) ((True ∧ True) ∧ ((decide (n < plcS c F (List.length c)) == false && decide ((0 : Int) < (↑(List.length c) : Int)) == true) = true → True)) (V.gd (decide (n < plcS c F (List.length c)) == false && decide ((0 : Int) < (↑(List.length c) : Int)) == true) (V.i F)), pc (136 : Nat) ((((decide (n < plcS c F (List.length c)) == false && decide ((0 : Int) < (↑(List.length c) : Int)) == true) = true → (decide (n < plcS c F (List.length c)) == false && decide ((0 : Int) < (↑(List.length c) : Int)) == true) = true) ∧ True ∧ True) ∧ ((decide (n < plcS c F (List.length c)) == false && decide ((0 : Int) < (↑(List.length c) : Int)) == true) = true → (-9223372036854775808 : Int) ≤ F - (1 : Int) ∧ F - (1 : Int) ≤ (9223372036854775807 : Int))) (V.gd (decide (n < plcS c F (List.length c)) == false && decide ((0 : Int) < (↑(List.length c) : Int)) == true) (V.i (F - (1 : Int))))] (by kernel_rfl) (by kernel_rfl) ⟨⟨⟨True.intro, True.intro⟩, (fun _ => True.intro)⟩, ⟨⟨(by (exact fun h => h)), True.intro⟩, (fun _ => True.intro)⟩, ⟨⟨(by (exact fun h => h)), ⟨True.intro, True.intro⟩⟩, (fun _ => True.intro)⟩, ⟨⟨(by (exact fun h => h)), True.intro⟩, (fun _ => True.intro)⟩, ⟨⟨True.intro, True.intro⟩, (fun _ => True.intro)⟩, ⟨⟨True.intro, True.intro⟩, (fun _ => True.intro)⟩, ⟨⟨True.intro, True.intro⟩, (fun _ => True.intro)⟩, ⟨⟨(by (exact fun h => h)), ⟨True.intro, True.intro⟩⟩, (by (intro hg; simp at hg; omega))⟩, True.intro⟩ ?_
  refine aops_callRG 3 [11] (g := decide (n < plcS c F (List.length c)) == false && decide ((0 : Int) < (↑(List.length c) : Int)) == true) (first := []) (caps := []) (ins' := [Ob.row (2 : Nat) (1 : Nat) (List.length c) fun (k : Nat) => [V.i (gi c k)]]) (v' := V.b (enB c n (F - (1 : Int)))) (kp := [11]) (by kernel_rfl) (fun h => EnoughK_ac c n (F - 1) hco (by omega) (by omega)) rfl (by kernel_rfl) (by kernel_rfl) (by kernel_rfl) (by kernel_rfl) (by kernel_rfl) rfl (by kernel_rfl) (by kernel_rfl) ⟨(fun _ _ => rfl), True.intro⟩ (by kernel_rfl) (by kernel_rfl) (by kernel_rfl) ?_
  rw [hE]
  refine aops_n hTT (M := []) (n := 2) [pc (138 : Nat) (((decide (n < plcS c F (List.length c)) == false) = true → (decide (n < plcS c F (List.length c)) == false) = true) ∧ ((decide (n < plcS c F (List.length c)) == false) = true → decide ((0 : Int) < (↑(List.length c) : Int)) = true → (decide (n < plcS c F (List.length c)) == false && decide ((0 : Int) < (↑(List.length c) : Int)) == true) = true) ∧ ((decide (n < plcS c F (List.length c)) == false) = true → True)) (V.gd (decide (n < plcS c F (List.length c)) == false) (V.b (decide ((0 : Int) < (↑(List.length c) : Int)) && false))), pc (139 : Nat) (True ∧ (decide (n < plcS c F (List.length c)) = false → (decide (n < plcS c F (List.length c)) == false) = true)) (V.b (decide (n < plcS c F (List.length c)) || decide ((0 : Int) < (↑(List.length c) : Int)) && false))] (by kernel_rfl) (by kernel_rfl) ⟨⟨(by (exact fun h => h)), ⟨(by (simp; omega)), (fun _ => True.intro)⟩⟩, ⟨True.intro, (by (intro h; rw [h]; rfl))⟩, True.intro⟩ ?_
  refine aops_nil ?_
  refine xt_n ?_
  refine hK _ ?_
  clear hK K
  refine w_cond (t := decide (n < plcS c F (List.length c)) || decide ((0 : Int) < (↑(List.length c) : Int)) && false) (by kernel_rfl) (fun c4 => ?_) (fun c4 => ?_)
  · simp at c4; omega
  have hn2 : 1 ≤ min 64 (n + wi) ∧ min 64 (n + wi) ≤ 64 := by omega
  have hr2 := fewN_spec (slots := min 64 (n + wi)) hco (by omega) h0
  have hle : fewN c (min 64 (n + wi)) ≤ F := by
    by_cases hx : F < fewN c (min 64 (n + wi))
    · have := hr2.1.least F hp hx; omega
    · omega
  refine aw_skip ?_
  refine xt_n ?_
  refine hK _ ?_
  clear hK K
  refine aw_seq_k fun K hK => ?_
  refine w_region (n' := 4) (by kernel_rfl) (by kernel_rfl) ?_
  refine aops_n hTT (M := []) (n := 6) [pv (141 : Nat) (V.own (11 : Nat)), pv (142 : Nat) (V.i n), pv (143 : Nat) (V.c (Value.int IntKind.u8 wi)), pc (144 : Nat) ((-9223372036854775808 : Int) ≤ wi ∧ wi ≤ (9223372036854775807 : Int)) (V.i wi), pc (145 : Nat) ((-9223372036854775808 : Int) ≤ n + wi ∧ n + wi ≤ (9223372036854775807 : Int)) (V.i (n + wi)), pv (146 : Nat) (V.i (min (64 : Int) (n + wi)))] (by kernel_rfl) (by kernel_rfl) ⟨(by omega), (by omega), True.intro⟩ ?_
  refine aops_callR [11] (first := []) (caps := []) (ins' := [Ob.row (2 : Nat) (1 : Nat) (List.length c) fun (k : Nat) => [V.i (gi c k)]]) (v' := V.tup [V.i (fewN c (min (64 : Int) (n + wi))), V.own (300147 : Nat), V.i (0 : Int)]) (δ := [(300147, Option.some (Ob.row (2 : Nat) (1 : Nat) (List.length c) fun (i : Nat) => V.renL (nameG (3 : Nat) (some 147) [(11 : Nat)]) [V.i (plc (gi c i) (fewN c (min (64 : Int) (n + wi))))]))]) (kp := [11]) (Run3K_ac c (min 64 (n + wi)) (by omega) (hfew _ hn2.1 hn2.2) (by omega) h0) (by kernel_rfl) (by kernel_rfl) (by kernel_rfl) (by kernel_rfl) (by kernel_rfl) (by kernel_rfl) (by kernel_rfl) rfl (by kernel_rfl) (by kernel_rfl) ⟨(fun _ _ => rfl), True.intro⟩ (by kernel_rfl) (by kernel_rfl) (by kernel_rfl) ?_
  generalize fewN c (min 64 (n + wi)) = F2 at hle ⊢
  refine aops_n hTT (M := []) (n := 7) [pv (140 : Nat) (V.tup [V.i F2, V.own (300147 : Nat), V.i (0 : Int)]), pv (148 : Nat) (V.i F2), pv (149 : Nat) (V.own (300147 : Nat)), pv (150 : Nat) (V.i (0 : Int)), pv (18 : Nat) (V.i F2), pv (19 : Nat) (V.own (300147 : Nat)), pv (15 : Nat) (V.i (0 : Int))] (by kernel_rfl) (by kernel_rfl) True.intro ?_
  refine aops_nil ?_
  refine xt_n ?_
  refine hK _ ?_
  clear hK K
  refine aw_seq_k fun K hK => ?_
  refine aw_seq_k fun K hK => ?_
  refine w_region (n' := 5) (by kernel_rfl) (by kernel_rfl) ?_
  refine aops_n hTT (M := []) (n := 7) [pv (151 : Nat) (V.i (0 : Int)), pv (152 : Nat) (V.b false), pv (153 : Nat) (V.b false), pc (154 : Nat) ((True ∧ True) ∧ ((false == false) = true → True)) (V.gd (false == false) (V.i F2)), pc (155 : Nat) ((True ∧ True) ∧ ((false == false) = true → True)) (V.gd (false == false) (V.i F)), pc (156 : Nat) ((((false == false) = true → (false == false) = true) ∧ ((false == false) = true → (false == false) = true) ∧ True) ∧ ((false == false) = true → True)) (V.gd (false == false) (V.b (decide (F < F2)))), pc (157 : Nat) (True ∧ (false = false → (false == false) = true)) (V.b (decide (F < F2)))] (by kernel_rfl) (by kernel_rfl) ⟨⟨⟨True.intro, True.intro⟩, (fun _ => True.intro)⟩, ⟨⟨True.intro, True.intro⟩, (fun _ => True.intro)⟩, ⟨⟨(by (exact fun h => h)), ⟨(by (exact fun h => h)), True.intro⟩⟩, (fun _ => True.intro)⟩, ⟨True.intro, (by (intro h; rw [h]; rfl))⟩, True.intro⟩ ?_
  refine aops_nil ?_
  refine xt_n ?_
  refine hK _ ?_
  clear hK K
  refine w_cond (t := decide (F < F2)) (by kernel_rfl) (fun c5 => ?_) (fun c5 => ?_)
  · simp at c5; omega
  refine aw_skip ?_
  refine xt_n ?_
  refine hK _ ?_
  clear hK K
  refine aw_seq_k fun K hK => ?_
  refine aw_seq_k fun K hK => ?_
  refine w_region (n' := 6) (by kernel_rfl) (by kernel_rfl) ?_
  refine aops_n hTT (M := []) (n := 3) [pv (158 : Nat) (V.own (11 : Nat)), pv (159 : Nat) (V.i (↑(List.length c) : Int)), pv (160 : Nat) (V.b (decide ((↑(List.length c) : Int) = (0 : Int))))] (by kernel_rfl) (by kernel_rfl) True.intro ?_
  refine aops_nil ?_
  refine xt_n ?_
  refine hK _ ?_
  clear hK K
  refine w_cond (t := decide ((↑(List.length c) : Int) = (0 : Int))) (by kernel_rfl) (fun c6 => ?_) (fun c6 => ?_)
  · simp [hne] at c6
  have hl0 : 0 < c.length := by omega
  have ew : wh.tmod (c.length : Int) = ((wh.toNat % c.length : Nat) : Int) := by rw [Int.tmod_eq_emod_of_nonneg hw.1, Int.natCast_emod, Int.toNat_of_nonneg hw.1]
  have ek := Nat.mod_lt wh.toNat hl0
  refine aw_skip ?_
  refine xt_n ?_
  refine hK _ ?_
  clear hK K
  refine aw_seq_k fun K hK => ?_
  refine w_region (n' := 7) (by kernel_rfl) (by kernel_rfl) ?_
  refine aops_n hTT (M := []) (n := 6) [pv (162 : Nat) (V.c (Value.int IntKind.u8 wh)), pc (163 : Nat) ((-9223372036854775808 : Int) ≤ wh ∧ wh ≤ (9223372036854775807 : Int)) (V.i wh), pv (164 : Nat) (V.own (11 : Nat)), pv (165 : Nat) (V.i (↑(List.length c) : Int)), pc (166 : Nat) ((↑(List.length c) : Int) ≠ (0 : Int)) (V.i (Int.tmod wh (↑(List.length c) : Int))), pv (20 : Nat) (V.i (Int.tmod wh (↑(List.length c) : Int)))] (by kernel_rfl) (by kernel_rfl) ⟨(by omega), (by omega), True.intro⟩ ?_
  refine aops_nil ?_
  refine xt_n ?_
  refine hK _ ?_
  clear hK K
  refine aw_seq_k fun K hK => ?_
  rw [ew]
  generalize wh.toNat % c.length = k at ek ⊢
  refine w_regionD (n' := 8) (by kernel_rfl) (by kernel_rfl) ?_
  refine aops_n hTT (M := [168]) (n := 11) [pn (168 : Nat) (V.own (700168 : Nat)) (700168 : Nat) (Ob.row (2 : Nat) (1 : Nat) (0 : Nat) fun (i : Nat) => List.take (1 : Nat) (List.drop (i * (1 : Nat)) (repV (0 : Nat) [V.c (Value.int IntKind.i64 (0 : Int))]))), pv (169 : Nat) (V.own (11 : Nat)), pv (170 : Nat) (V.i (↑k : Int)), pc (171 : Nat) ((0 : Int) ≤ (0 : Int) ∧ (0 : Int) ≤ (↑k : Int) ∧ (↑k : Int) ≤ (↑(List.length c) : Int) ∧ (0 : Nat) < List.length c) (V.osl (11 : Nat) (1 : Nat) (0 : Nat) (k - (0 : Nat))), PR.mk (some (172 : Nat)) (some ((0 : Nat) + (k - (0 : Nat)) ≤ (1099511627776 : Nat) ∧ (0 : Nat) + (k - (0 : Nat)) ≤ List.length c ∧ ∀ (i : Nat) (u : V), u ∈ [V.i (gi c i)] → V.isC u = true)) (V.own (700172 : Nat)) [((700168 : Nat), none), ((700172 : Nat), some (Ob.row (2 : Nat) (1 : Nat) ((0 : Nat) + (k - (0 : Nat))) (appRow (0 : Nat) (fun (i : Nat) => List.take (1 : Nat) (List.drop (i * (1 : Nat)) (repV (0 : Nat) [V.c (Value.int IntKind.i64 (0 : Int))]))) fun (i : Nat) => [V.i (gi c (i + (0 : Nat)))])))] false, pv (173 : Nat) (V.own (11 : Nat)), pv (174 : Nat) (V.i (↑k : Int)), pc (175 : Nat) ((-9223372036854775808 : Int) ≤ (↑k : Int) + (1 : Int) ∧ (↑k : Int) + (1 : Int) ≤ (9223372036854775807 : Int)) (V.i ((↑k : Int) + (1 : Int))), pc (176 : Nat) ((0 : Int) ≤ (↑k : Int) + (1 : Int) ∧ (↑k : Int) + (1 : Int) ≤ (↑(List.length c) : Int) ∧ (↑(List.length c) : Int) ≤ (↑(List.length c) : Int) ∧ (0 : Nat) < List.length c) (V.osl (11 : Nat) (1 : Nat) (k + (1 : Nat)) (List.length c - (k + (1 : Nat)))), PR.mk (some (177 : Nat)) (some ((0 : Nat) + (k - (0 : Nat)) + (List.length c - (k + (1 : Nat))) ≤ (1099511627776 : Nat) ∧ k + (1 : Nat) + (List.length c - (k + (1 : Nat))) ≤ List.length c ∧ ∀ (i : Nat) (u : V), u ∈ [V.i (gi c i)] → V.isC u = true)) (V.own (700177 : Nat)) [((700172 : Nat), none), ((700177 : Nat), some (Ob.row (2 : Nat) (1 : Nat) ((0 : Nat) + (k - (0 : Nat)) + (List.length c - (k + (1 : Nat)))) (appRow ((0 : Nat) + (k - (0 : Nat))) (appRow (0 : Nat) (fun (i : Nat) => List.take (1 : Nat) (List.drop (i * (1 : Nat)) (repV (0 : Nat) [V.c (Value.int IntKind.i64 (0 : Int))]))) fun (i : Nat) => [V.i (gi c (i + (0 : Nat)))]) fun (i : Nat) => [V.i (gi c (i + (k + (1 : Nat))))])))] false, pv (178 : Nat) (V.i n)] (by kernel_rfl) (by kernel_rfl) ⟨⟨(by omega), ⟨(by omega), (by omega)⟩⟩, ⟨(by omega), ⟨(by omega), ?_⟩⟩, (by omega), ⟨(by omega), ⟨(by omega), (by omega)⟩⟩, ⟨(by omega), ⟨(by omega), ?_⟩⟩, True.intro⟩ ?_
  · exact isC_ints c
  · exact isC_ints c
  refine aops_callM [700177] (first := []) (caps := []) (ins' := [Ob.row (2 : Nat) (1 : Nat) ((0 : Nat) + (k - (0 : Nat)) + (List.length c - (k + (1 : Nat)))) (appRow ((0 : Nat) + (k - (0 : Nat))) (appRow (0 : Nat) (fun (i : Nat) => List.take (1 : Nat) (List.drop (i * (1 : Nat)) (repV (0 : Nat) [V.c (Value.int IntKind.i64 (0 : Int))]))) fun (i : Nat) => [V.i (gi c (i + (0 : Nat)))]) fun (i : Nat) => [V.i (gi c (i + (k + (1 : Nat))))])]) (v' := V.tup [V.i (runS (List.take k c ++ List.drop (k + (1 : Nat)) c) n), V.sl (1 : Nat) (List.length (runL (List.take k c ++ List.drop (k + (1 : Nat)) c) n)) fun (k_1 : Nat) => [V.i (gi (runL (List.take k c ++ List.drop (k + (1 : Nat)) c) n) k_1)], V.i (runE (List.take k c ++ List.drop (k + (1 : Nat)) c) n)]) (δ := [(700177, Option.none)]) (kp := [700177]) (RunO_ac (c.take k ++ c.drop (k + 1)) n (by simp; omega)) (by kernel_rfl) (by kernel_rfl) (by kernel_rfl) (by kernel_rfl) (by kernel_rfl) (by kernel_rfl) rfl rfl (by kernel_rfl) (.row ?_ ?_ (fun _ _ => rfl) .nil) (by kernel_rfl) (by kernel_rfl) (by kernel_rfl) ?_
  · simp; omega
  · exact less_row ek _
  obtain ⟨r1, r2⟩ := less_run hco h8 hn (by omega) ek hr
  rw [r1]
  refine aops_n hTT (M := []) (n := 7) [pv (167 : Nat) (V.tup [V.i (runS (List.take k c ++ List.drop (k + (1 : Nat)) c) n), V.sl (1 : Nat) (List.length (runL (List.take k c ++ List.drop (k + (1 : Nat)) c) n)) fun (k_1 : Nat) => [V.i (gi (runL (List.take k c ++ List.drop (k + (1 : Nat)) c) n) k_1)], V.i (0 : Int)]), pv (180 : Nat) (V.i (runS (List.take k c ++ List.drop (k + (1 : Nat)) c) n)), pv (181 : Nat) (V.sl (1 : Nat) (List.length (runL (List.take k c ++ List.drop (k + (1 : Nat)) c) n)) fun (k_1 : Nat) => [V.i (gi (runL (List.take k c ++ List.drop (k + (1 : Nat)) c) n) k_1)]), pv (182 : Nat) (V.i (0 : Int)), pv (21 : Nat) (V.i (runS (List.take k c ++ List.drop (k + (1 : Nat)) c) n)), pv (22 : Nat) (V.sl (1 : Nat) (List.length (runL (List.take k c ++ List.drop (k + (1 : Nat)) c) n)) fun (k_1 : Nat) => [V.i (gi (runL (List.take k c ++ List.drop (k + (1 : Nat)) c) n) k_1)]), pv (15 : Nat) (V.i (0 : Int))] (by kernel_rfl) (by kernel_rfl) True.intro ?_
  refine aops_nil ⟨by kernel_rfl, ?_⟩
  refine xt_n ?_
  refine hK _ ?_
  clear hK K
  refine aw_seq_k fun K hK => ?_
  refine aw_seq_k fun K hK => ?_
  refine w_region (n' := 9) (by kernel_rfl) (by kernel_rfl) ?_
  refine aops_n hTT (M := []) (n := 7) [pv (183 : Nat) (V.i (0 : Int)), pv (184 : Nat) (V.b false), pv (185 : Nat) (V.b false), pc (186 : Nat) ((True ∧ True) ∧ ((false == false) = true → True)) (V.gd (false == false) (V.i (runS (List.take k c ++ List.drop (k + (1 : Nat)) c) n))), pc (187 : Nat) ((True ∧ True) ∧ ((false == false) = true → True)) (V.gd (false == false) (V.i F)), pc (188 : Nat) ((((false == false) = true → (false == false) = true) ∧ ((false == false) = true → (false == false) = true) ∧ True) ∧ ((false == false) = true → True)) (V.gd (false == false) (V.b (decide (F < runS (List.take k c ++ List.drop (k + (1 : Nat)) c) n)))), pc (189 : Nat) (True ∧ (false = false → (false == false) = true)) (V.b (decide (F < runS (List.take k c ++ List.drop (k + (1 : Nat)) c) n)))] (by kernel_rfl) (by kernel_rfl) ⟨⟨⟨True.intro, True.intro⟩, (fun _ => True.intro)⟩, ⟨⟨True.intro, True.intro⟩, (fun _ => True.intro)⟩, ⟨⟨(by (exact fun h => h)), ⟨(by (exact fun h => h)), True.intro⟩⟩, (fun _ => True.intro)⟩, ⟨True.intro, (by (intro h; rw [h]; rfl))⟩, True.intro⟩ ?_
  refine aops_nil ?_
  refine xt_n ?_
  refine hK _ ?_
  clear hK K
  refine w_cond (t := decide (F < runS (List.take k c ++ List.drop (k + (1 : Nat)) c) n)) (by kernel_rfl) (fun c7 => ?_) (fun c7 => ?_)
  · simp at c7; omega
  have hgk := (hco.gi ek).2
  have hgk1 := (hco.gi ek).1
  refine aw_skip ?_
  refine xt_n ?_
  refine hK _ ?_
  clear hK K
  refine aw_seq_k fun K hK => ?_
  refine w_region (n' := 10) (by kernel_rfl) (by kernel_rfl) ?_
  refine aops_n hTT (M := []) (n := 9) [pv (190 : Nat) (V.own (11 : Nat)), pv (191 : Nat) (V.i (↑k : Int)), pc (192 : Nat) ((0 : Int) ≤ (↑k : Int) ∧ (↑k : Int) < (↑(List.length c) : Int)) (V.oel (11 : Nat) (1 : Nat) k (0 : Nat)), pc (193 : Nat) (k < List.length c ∧ (0 : Nat) ≤ (1 : Nat)) (V.i (gi c k)), pv (194 : Nat) (V.c (Value.int IntKind.u16 mo)), pc (195 : Nat) ((-9223372036854775808 : Int) ≤ mo ∧ mo ≤ (9223372036854775807 : Int)) (V.i mo), pc (196 : Nat) ((-9223372036854775808 : Int) ≤ gi c k + mo ∧ gi c k + mo ≤ (9223372036854775807 : Int)) (V.i (gi c k + mo)), pc (197 : Nat) ((0 : Int) ≤ (↑k : Int) ∧ (↑k : Int) < (↑(List.length c) : Int)) (V.oel (11 : Nat) (1 : Nat) k (0 : Nat)), pw (k < List.length c ∧ (0 : Nat) + (1 : Nat) ≤ (1 : Nat)) (11 : Nat) (Ob.row (2 : Nat) (1 : Nat) (List.length c) fun (j : Nat) => if j = k then [V.i (gi c k + mo)] else [V.i (gi c j)])] (by kernel_rfl) (by kernel_rfl) ⟨(by omega), (by omega), (by omega), (by omega), (by omega), (by omega), True.intro⟩ ?_
  refine aops_nil ?_
  refine xt_n ?_
  refine hK _ ?_
  clear hK K
  refine aw_seq_k fun K hK => ?_
  refine w_region (n' := 11) (by kernel_rfl) (by kernel_rfl) ?_
  refine aops_n hTT (M := []) (n := 2) [pv (199 : Nat) (V.own (11 : Nat)), pv (200 : Nat) (V.i n)] (by kernel_rfl) (by kernel_rfl) True.intro ?_
  refine aops_callM [11] (first := []) (caps := []) (ins' := [Ob.row (2 : Nat) (1 : Nat) (List.length c) fun (j : Nat) => if j = k then [V.i (gi c k + mo)] else [V.i (gi c j)]]) (v' := V.tup [V.i (runS (List.set c k (gi c k + mo)) n), V.sl (1 : Nat) (List.length (runL (List.set c k (gi c k + mo)) n)) fun (k_1 : Nat) => [V.i (gi (runL (List.set c k (gi c k + mo)) n) k_1)], V.i (runE (List.set c k (gi c k + mo)) n)]) (δ := [(11, Option.none)]) (kp := [11]) (RunO_ac (c.set k (gi c k + mo)) n (by simp; omega)) (by kernel_rfl) (by kernel_rfl) (by kernel_rfl) (by kernel_rfl) (by kernel_rfl) (by kernel_rfl) rfl rfl (by kernel_rfl) (.row ?_ ?_ (fun _ _ => rfl) .nil) (by kernel_rfl) (by kernel_rfl) (by kernel_rfl) ?_
  · simp
  · exact fun i _ => more_set ek mo i
  obtain ⟨u1, u2⟩ := more_run hc h8 hn (by omega) ek hm hr
  rw [u1]
  refine aops_n hTT (M := []) (n := 7) [pv (198 : Nat) (V.tup [V.i (runS (List.set c k (gi c k + mo)) n), V.sl (1 : Nat) (List.length (runL (List.set c k (gi c k + mo)) n)) fun (k_1 : Nat) => [V.i (gi (runL (List.set c k (gi c k + mo)) n) k_1)], V.i (0 : Int)]), pv (202 : Nat) (V.i (runS (List.set c k (gi c k + mo)) n)), pv (203 : Nat) (V.sl (1 : Nat) (List.length (runL (List.set c k (gi c k + mo)) n)) fun (k_1 : Nat) => [V.i (gi (runL (List.set c k (gi c k + mo)) n) k_1)]), pv (204 : Nat) (V.i (0 : Int)), pv (23 : Nat) (V.i (runS (List.set c k (gi c k + mo)) n)), pv (24 : Nat) (V.sl (1 : Nat) (List.length (runL (List.set c k (gi c k + mo)) n)) fun (k_1 : Nat) => [V.i (gi (runL (List.set c k (gi c k + mo)) n) k_1)]), pv (15 : Nat) (V.i (0 : Int))] (by kernel_rfl) (by kernel_rfl) True.intro ?_
  refine aops_nil ?_
  refine xt_n ?_
  refine hK _ ?_
  clear hK K
  refine aw_seq_k fun K hK => ?_
  refine w_region (n' := 12) (by kernel_rfl) (by kernel_rfl) ?_
  refine aops_n hTT (M := []) (n := 8) [pv (205 : Nat) (V.i (0 : Int)), pv (206 : Nat) (V.b true), pv (207 : Nat) (V.b true), pc (208 : Nat) ((True ∧ True) ∧ ((true == true) = true → True)) (V.gd (true == true) (V.i (runS (List.set c k (gi c k + mo)) n))), pc (209 : Nat) ((True ∧ True) ∧ ((true == true) = true → True)) (V.gd (true == true) (V.i F)), pc (210 : Nat) ((((true == true) = true → (true == true) = true) ∧ ((true == true) = true → (true == true) = true) ∧ True) ∧ ((true == true) = true → True)) (V.gd (true == true) (V.b (decide (F ≤ runS (List.set c k (gi c k + mo)) n)))), pc (211 : Nat) ((true = true → (true == true) = true) ∧ True) (V.b (decide (F ≤ runS (List.set c k (gi c k + mo)) n))), pv (212 : Nat) (V.b (decide (F ≤ runS (List.set c k (gi c k + mo)) n)))] (by kernel_rfl) (by kernel_rfl) ⟨⟨⟨True.intro, True.intro⟩, (fun _ => True.intro)⟩, ⟨⟨True.intro, True.intro⟩, (fun _ => True.intro)⟩, ⟨⟨(by (exact fun h => h)), ⟨(by (exact fun h => h)), True.intro⟩⟩, (fun _ => True.intro)⟩, ⟨(by (exact fun h => h)), True.intro⟩, True.intro⟩ ?_
  refine e_callG 0 (g := decide (F ≤ runS (List.set c k (gi c k + mo)) n) == true) (first := []) (caps := []) (by kernel_rfl) (fun h => sWorks_ac) (by kernel_rfl) (by kernel_rfl) (by kernel_rfl) (by kernel_rfl) (by kernel_rfl) (by kernel_rfl) ?_
  refine aops_n hTT (M := []) (n := 2) [pc (214 : Nat) ((decide (F ≤ runS (List.set c k (gi c k + mo)) n) = true → (decide (F ≤ runS (List.set c k (gi c k + mo)) n) == true) = true) ∧ True) (V.b (decide (F ≤ runS (List.set c k (gi c k + mo)) n) && true)), pv (10 : Nat) (V.b (decide (F ≤ runS (List.set c k (gi c k + mo)) n) && true))] (by kernel_rfl) (by kernel_rfl) ⟨⟨(by (intro h; rw [h]; rfl)), True.intro⟩, True.intro⟩ ?_
  refine aops_nil ?_
  refine xt_n ?_
  refine hK _ ?_
  clear hK K
  refine aw_ret ?_
  refine ret_pure (v' := V.b (decide (F ≤ runS (List.set c k (gi c k + mo)) n) && true)) (.inr rfl) (by kernel_rfl) ?_ (by kernel_rfl)
  simp; omega
def senoughSh : List Sh := [(.sl (.int .u16)), (.int .u8), (.int .u8), (.int .u16), (.int .u8)]
theorem senough_all (x : TL senoughSh) (hx : wfL senoughSh x) : AC Tryd.prog 7 (valL senoughSh x) (V.b true) [] := by
  obtain ⟨l, a, b, c, d, _⟩ := x
  obtain ⟨⟨h4, h5⟩, ha, hb, hc, hd, _⟩ := hx
  exact enough_law l a b c d h4 (fun x hx => wf_u16 (h5 x hx)) (wf_u8 ha) (wf_u8 hb) (wf_u16 hc) (wf_u8 hd)
end Go.Proofs.YtfckkkmacjjmhaaDoor
