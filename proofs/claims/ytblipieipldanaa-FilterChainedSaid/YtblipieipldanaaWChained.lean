/-
  FilterChained: the walk of the law. No condition.
-/
import Derived.Test.YtblipieipldanaaWChains
namespace Go.Proofs.Ytblipieipldanaa
open Go.Ab Go.RowKit Go.Dw Go.Shelf

theorem _root_.Go.Ab.V.idfL_appRow {n : Nat} {row0 row : Nat → List V} {i : Nat} (h0 : V.idfL (row0 i) = true) (h : V.idfL (row (i - n)) = true) : V.idfL (appRow n row0 row i) = true := by
  unfold appRow
  split <;> assumption
theorem _root_.Go.Ab.V.idfL_all {l : List V} : V.idfL l = true ↔ ∀ u ∈ l, u.idf = true := by
  induction l with
  | nil => simp [V.idfL]
  | cons v l ih => simp [V.idfL, ih]
theorem _root_.Go.Ab.V.idfL_take {n : Nat} {l : List V} (h : V.idfL l = true) : V.idfL (l.take n) = true := V.idfL_all.2 fun u hu => V.idfL_all.1 h u (List.mem_of_mem_take hu)
theorem _root_.Go.Ab.V.idfL_drop {n : Nat} {l : List V} (h : V.idfL l = true) : V.idfL (l.drop n) = true := V.idfL_all.2 fun u hu => V.idfL_all.1 h u (List.mem_of_mem_drop hu)
/-- the curve that does nothing, put in at a place -/
def idle (s : Int) : Cv := ⟨[0, 0], [0], 1 + s⟩
def chM (l : List Cv) (a : Nat) (s : Int) : List Cv := l.take a ++ idle s :: l.drop a
theorem chM_len {l : List Cv} {a : Nat} {s : Int} (h : a ≤ l.length) : (chM l a s).length = l.length + 1 := by
  simp [chM]
  omega
theorem gc_lt {l : List Cv} {a : Nat} {s : Int} (h : a ≤ l.length) {i : Nat} (hi : i < a) : gc (chM l a s) i = gc l i := by
  unfold gc chM
  rw [List.getD_eq_getElem?_getD, List.getD_eq_getElem?_getD, List.getElem?_append_left (by simp; omega), List.getElem?_take, if_pos hi]
theorem gc_mid {l : List Cv} {a : Nat} {s : Int} (h : a ≤ l.length) : gc (chM l a s) a = idle s := by
  unfold gc chM
  rw [List.getD_eq_getElem?_getD, List.getElem?_append_right (by simp; omega)]
  simp [Nat.min_eq_left h]
theorem gc_gt {l : List Cv} {a : Nat} {s : Int} (h : a ≤ l.length) {i : Nat} (hi : a < i) : gc (chM l a s) i = gc l (i - 1) := by
  unfold gc chM
  rw [List.getD_eq_getElem?_getD, List.getD_eq_getElem?_getD, List.getElem?_append_right (by simp; omega)]
  obtain ⟨d, rfl⟩ : ∃ d, i = a + 1 + d := ⟨i - (a + 1), by omega⟩
  have e : a + 1 + d - (l.take a).length = d + 1 := by simp; omega
  rw [e, List.getElem?_cons_succ, List.getElem?_drop, show a + 1 + d - 1 = a + d by omega]
def cellsC (c : Cv) : List V := [V.ints c.feed, V.ints c.back, .i c.share]
/-- the row that the code makes: the idle curve's slices are written out -/
def rowM (l : List Cv) (a : Nat) (s : Int) (i : Nat) : List V :=
  if i < a then cellsC (gc l i) else if i = a then [V.sl 1 2 fun i => List.take 1 (List.drop (i * 1) [V.i 0, V.i 0]), V.sl 1 1 fun i => List.take 1 (List.drop (i * 1) [V.i 0]), .i (1 + s)] else cellsC (gc l (i - 1))
theorem A2.refl : ∀ l : List V, A2 l l
  | [] => trivial
  | u :: l => ⟨RImp.refl u, A2.refl l⟩
theorem A2.len : ∀ {l l' : List V}, A2 l' l → l'.length = l.length
  | [], [], _ => rfl
  | _ :: _, _ :: _, h => by simp [A2.len h.2]
theorem A2.get : ∀ {l l' : List V} (_ : A2 l' l) {j : Nat} {u : V}, l[j]? = some u → ∃ u', l'[j]? = some u' ∧ RImp u' u
  | u :: _, u' :: _, h, 0, v, hv => ⟨u', rfl, by simp at hv; subst hv; exact h.1⟩
  | _ :: _, _ :: _, h, j + 1, v, hv => by simpa using A2.get h.2 (j := j) (by simpa using hv)
theorem RImp.rowsI {sz n n' : Nat} {row row' : Nat → List V} (hn : n = n') (he : ∀ i, i < n → A2 (row i) (row' i)) : RImp (.sl sz n row) (.sl sz n' row') := by
  subst hn
  intro w L x h
  obtain ⟨A, c, rfl, h'⟩ := h.sl_inv
  refine .sl' h.sl_cap fun hn => ?_
  obtain ⟨b, o, hA, hb, hlen, hc⟩ := h' hn
  refine ⟨b, o, hA, hb, fun i hi => by rw [← A2.len (he i hi)]; exact hlen i hi, fun i j u hi hu => ?_⟩
  obtain ⟨u', hu', hr⟩ := A2.get (he i hi) hu
  obtain ⟨y, h1, h2, h3⟩ := hc i j u' hi hu'
  exact ⟨y, h1, h2, hr _ _ _ h3⟩
theorem rowM_imp {l : List Cv} {a : Nat} {s : Int} (h : a ≤ l.length) : RImp (.sl 3 (l.length + 1) (rowM l a s)) (V.cvs (chM l a s)) := by
  refine RImp.rowsI (chM_len h).symm fun i hi => ?_
  unfold rowM
  split
  · rename_i h1
    rw [gc_lt h h1]; exact A2.refl _
  · split
    · rename_i h1; subst h1
      rw [gc_mid h]
      exact ⟨RImp.lit1 [0, 0], RImp.lit1 [0], RImp.refl _, trivial⟩
    · rw [gc_gt h (by omega)]; exact A2.refl _
theorem chE_zero {l : List Cv} : chE l = 0 ↔ l.length ≤ 8 ∧ ∀ c ∈ l, cvE c = 0 := by
  unfold chE
  by_cases h8 : 8 < l.length
  · rw [if_pos h8]
    exact ⟨fun h => by omega, fun h => by omega⟩
  rw [if_neg h8]
  cases hf : l.find? fun c => decide (cvE c ≠ 0) with
  | none =>
    rw [List.find?_eq_none] at hf
    exact ⟨fun _ => ⟨by omega, fun c hc => by simpa using hf c hc⟩, fun _ => rfl⟩
  | some c =>
    have h1 := List.find?_some hf
    have h2 := List.mem_of_find?_eq_some hf
    simp only [ne_eq, decide_not, Bool.not_eq_true', decide_eq_false_iff_not] at h1
    exact ⟨fun h => absurd h h1, fun h => absurd (h.2 c h2) h1⟩
theorem idle_ok {s : Int} (h : 0 ≤ s ∧ s < 4096) : cvE (idle s) = 0 := by
  rw [cvE_few (by simp [idle]) (by simp [idle])]
  have h1 : (((idle s).feed.any fun n => bey n 4096) || ((idle s).back.any fun n => bey n 4096)) = false := rfl
  rw [h1, Bool.false_or]
  have h2 : ¬ (idle s).share < 1 := by simp only [idle]; omega
  have h3 : ¬ 4096 < (idle s).share := by simp only [idle]; omega
  simp [h2, h3]
theorem chM_ok {l : List Cv} {a : Nat} {s : Int} (h : chE l = 0) (hl : l.length ≤ 7) (ha : a ≤ l.length) (hs : 0 ≤ s ∧ s < 4096) : chE (chM l a s) = 0 := by
  have h1 := (chE_zero.1 h).2
  refine chE_zero.2 ⟨by rw [chM_len ha]; omega, fun c hc => ?_⟩
  unfold chM at hc
  rcases List.mem_append.1 hc with hc | hc
  · exact h1 c (List.mem_of_mem_take hc)
  · rcases List.mem_cons.1 hc with hc | hc
    · rw [hc]; exact idle_ok hs
    · exact h1 c (List.mem_of_mem_drop hc)
theorem chTake_ok {l : List Cv} {a : Nat} (h : chE l = 0) : chE (l.take a) = 0 := by
  have h1 := chE_zero.1 h
  exact chE_zero.2 ⟨by rw [List.length_take]; omega, fun c hc => h1.2 c (List.mem_of_mem_take hc)⟩
theorem chDrop_ok {l : List Cv} {a : Nat} (h : chE l = 0) : chE (l.drop a) = 0 := by
  have h1 := chE_zero.1 h
  exact chE_zero.2 ⟨by rw [List.length_drop]; omega, fun c hc => h1.2 c (List.mem_of_mem_drop hc)⟩
theorem chR_eo {l : List Cv} {u : Bool} {x : List Int} (h : chE l = 0) (h2 : sigE x = 0) : chR l u x = (eOf (chainI l u 32767 x), lOf (chainI l u 32767 x)) := by
  cases h3 : chainI l u 32767 x with
  | none => exact chR_3 h h2 h3
  | some y => exact chR_4 h h2 h3
theorem chM_fold {l : List Cv} {a : Nat} {s : Int} {x : List Int} (hx : AllLe 32767 x) : foldI false 32767 (chM l a s) (some x) = foldI false 32767 l (some x) := by
  conv => rhs; rw [← List.take_append_drop a l]
  unfold chM
  rw [foldI_append, foldI_append]
  cases h : foldI false 32767 (l.take a) (some x) with
  | none => rw [foldI_none, foldI_none]
  | some u =>
    show foldI false 32767 (l.drop a) (runI (idle s) false 32767 u) = _
    rw [runI_idle (c := idle s) (fun i => ?_) (fun i => ?_) (foldI_le hx h)]
    · match i with
      | 0 | 1 => rfl
      | _ + 2 => rfl
    · match i with
      | 0 => rfl
      | _ + 1 => rfl
theorem gc_take {l : List Cv} {a k : Nat} (h : k < a) : gc (l.take a) k = gc l k := by unfold gc; rw [List.getD_eq_getElem?_getD, List.getD_eq_getElem?_getD, List.getElem?_take, if_pos h]
theorem gc_drop {l : List Cv} {a k : Nat} : gc (l.drop a) k = gc l (a + k) := by unfold gc; rw [List.getD_eq_getElem?_getD, List.getD_eq_getElem?_getD, List.getElem?_drop]
theorem take_imp {l : List Cv} {a n : Nat} (hn : n = a) (h : a ≤ l.length) : RImp (.sl 3 (n - 0) fun i => [V.ints (gc l (i + 0)).feed, V.ints (gc l (i + 0)).back, V.i (gc l (i + 0)).share]) (V.cvs (l.take a)) := by
  subst hn
  refine .rows (by rw [List.length_take]; omega) fun i hi => ?_
  rw [gc_take (by omega)]
  rfl
theorem drop_imp {l : List Cv} {a n : Nat} (hn : n = a) : RImp (.sl 3 (l.length - n) fun i => [V.ints (gc l (i + n)).feed, V.ints (gc l (i + n)).back, V.i (gc l (i + n)).share]) (V.cvs (l.drop a)) := by
  subst hn
  refine .rows (by rw [List.length_drop]) fun i hi => ?_
  rw [gc_drop, Nat.add_comm]
theorem foldI_len {u : Bool} {m : Int} : ∀ {cs : List Cv} {x y : List Int}, foldI u m cs (some x) = some y → y.length = x.length
  | [], x, y, h => by simp [foldI] at h; rw [h]
  | c :: cs, x, y, h => by
    have e : foldI u m (c :: cs) (some x) = foldI u m cs (runI c u m x) := rfl
    rw [e] at h
    cases hr : runI c u m x with
    | none => rw [hr, foldI_none] at h; cases h
    | some z => rw [hr] at h; rw [foldI_len h, runI_len hr]
theorem chR_both {l : List Cv} {x y : List Int} (h : chE l = 0) (hx : sigE x = 0) (hy : foldI false 32767 l (some x) = some y) : chR l false x = (0, y) ∧ sigE y = 0 ∧ chR l true y = (0, x) := by
  have hs := sigE_ok.1 hx
  have sy : sigE y = 0 := sigE_ok.2 ⟨by rw [foldI_len hy]; exact hs.1, foldI_le hs.2 hy⟩
  refine ⟨chR_4 h hx ((chainI_fold _ _ _ _).trans hy), sy, chR_4 h sy ((chainI_fold _ _ _ _).trans ?_)⟩
  exact foldI_undo hs.2 hy
set_option maxRecDepth 100000 in
theorem chained_law (l : List Cv) (x : List Int) (at' share : Int) (h1 : 0 ≤ at' ∧ at' < 256) (h2 : 0 ≤ share ∧ share < 65536) (hl : cvsL l) (hx : x.length ≤ bigL) : AC Try.prog 8 [V.cvs l, V.ints x, .c (.int .u8 at'), .c (.int .u16 share)] (.b true) [] := by
  have hs : 0 ≤ share.tmod 4096 ∧ share.tmod 4096 < 4096 := by rw [Int.tmod_eq_emod_of_nonneg h2.1]; omega
  obtain ⟨a, ha, ha2⟩ : ∃ a : Nat, at'.tmod ((l.length : Int) + 1) = (a : Int) ∧ a ≤ l.length := by
    rw [Int.tmod_eq_emod_of_nonneg h1.1]
    have := Int.emod_nonneg at' (b := (l.length : Int) + 1) (by omega)
    have := Int.emod_lt_of_pos at' (b := (l.length : Int) + 1) (by omega)
    exact ⟨(at' % ((l.length : Int) + 1)).toNat, by omega, by omega⟩
  obtain ⟨s, hs3⟩ : ∃ s, share.tmod 4096 = s := ⟨_, rfl⟩
  rw [hs3] at hs
  refine ac_intro hTT hMX (fn := Try.f8) (N := _) ⟨Try.func8, rfl, Try.ntmps8, by kernel_rfl⟩ (by simp) fun C hC hF => ?_
  refine aw_seq_k fun K hK => ?_
  refine w_region (n' := 2) (by kernel_rfl) (by kernel_rfl) ?_
  refine aops_n hTT (M := []) (n := 1) [pv (8 : Nat) (V.b false)] (by kernel_rfl) (by kernel_rfl) True.intro ?_
  refine aops_nil ?_
  refine xt_n ?_
  refine hK _ ?_
  clear hK K
  refine aw_seq_k fun K hK => ?_
  refine aw_seq_k fun K hK => ?_
  refine w_region (n' := 3) (by kernel_rfl) (by kernel_rfl) ?_
  refine aops_n hTT (M := []) (n := 5) [pv (20 : Nat) (V.sl (3 : Nat) (List.length l) fun (k : Nat) => [V.ints (Cv.feed (gc l k)), V.ints (Cv.back (gc l k)), V.i (Cv.share (gc l k))]), pv (21 : Nat) (V.i (↑(List.length l) : Int)), pv (22 : Nat) (V.b (decide ((7 : Int) < (↑(List.length l) : Int)))), pv (23 : Nat) (V.b (decide ((7 : Int) < (↑(List.length l) : Int)))), pc (24 : Nat) ((True ∧ True) ∧ ((decide ((7 : Int) < (↑(List.length l) : Int)) == false) = true → True)) (V.gd (decide ((7 : Int) < (↑(List.length l) : Int)) == false) (V.sl (3 : Nat) (List.length l) fun (k : Nat) => [V.ints (Cv.feed (gc l k)), V.ints (Cv.back (gc l k)), V.i (Cv.share (gc l k))]))] (by kernel_rfl) (by kernel_rfl) ⟨⟨⟨True.intro, True.intro⟩, (fun _ => True.intro)⟩, True.intro⟩ ?_
  refine e_callG 1 (g := decide ((7 : Int) < (↑(List.length l) : Int)) == false) (first := []) (caps := []) (by kernel_rfl) (fun h => refCheckChain_ac l hl) (by kernel_rfl) (by kernel_rfl) (by kernel_rfl) (by kernel_rfl) (by kernel_rfl) (by kernel_rfl) ?_
  refine aops_n hTT (M := []) (n := 9) [pc (26 : Nat) ((((decide ((7 : Int) < (↑(List.length l) : Int)) == false) = true → (decide ((7 : Int) < (↑(List.length l) : Int)) == false) = true) ∧ True ∧ True) ∧ ((decide ((7 : Int) < (↑(List.length l) : Int)) == false) = true → True)) (V.gd (decide ((7 : Int) < (↑(List.length l) : Int)) == false) (V.b !decide (chE l = (0 : Int)))), pc (27 : Nat) (True ∧ (decide ((7 : Int) < (↑(List.length l) : Int)) = false → (decide ((7 : Int) < (↑(List.length l) : Int)) == false) = true)) (V.b (decide ((7 : Int) < (↑(List.length l) : Int)) || !decide (chE l = (0 : Int)))), pv (28 : Nat) (V.b (decide ((7 : Int) < (↑(List.length l) : Int)) || !decide (chE l = (0 : Int)))), pc (29 : Nat) ((True ∧ True) ∧ (((decide ((7 : Int) < (↑(List.length l) : Int)) || !decide (chE l = (0 : Int))) == false) = true → True)) (V.gd ((decide ((7 : Int) < (↑(List.length l) : Int)) || !decide (chE l = (0 : Int))) == false) (V.sl (1 : Nat) (List.length x) fun (k : Nat) => [V.i (gi x k)])), pc (30 : Nat) (((((decide ((7 : Int) < (↑(List.length l) : Int)) || !decide (chE l = (0 : Int))) == false) = true → ((decide ((7 : Int) < (↑(List.length l) : Int)) || !decide (chE l = (0 : Int))) == false) = true) ∧ True) ∧ (((decide ((7 : Int) < (↑(List.length l) : Int)) || !decide (chE l = (0 : Int))) == false) = true → True)) (V.gd ((decide ((7 : Int) < (↑(List.length l) : Int)) || !decide (chE l = (0 : Int))) == false) (V.i (↑(List.length x) : Int))), pc (31 : Nat) (((((decide ((7 : Int) < (↑(List.length l) : Int)) || !decide (chE l = (0 : Int))) == false) = true → ((decide ((7 : Int) < (↑(List.length l) : Int)) || !decide (chE l = (0 : Int))) == false) = true) ∧ True ∧ True) ∧ (((decide ((7 : Int) < (↑(List.length l) : Int)) || !decide (chE l = (0 : Int))) == false) = true → True)) (V.gd ((decide ((7 : Int) < (↑(List.length l) : Int)) || !decide (chE l = (0 : Int))) == false) (V.b (decide ((200 : Int) < (↑(List.length x) : Int))))), pc (32 : Nat) (True ∧ ((decide ((7 : Int) < (↑(List.length l) : Int)) || !decide (chE l = (0 : Int))) = false → ((decide ((7 : Int) < (↑(List.length l) : Int)) || !decide (chE l = (0 : Int))) == false) = true)) (V.b (decide ((7 : Int) < (↑(List.length l) : Int)) || !decide (chE l = (0 : Int)) || decide ((200 : Int) < (↑(List.length x) : Int)))), pv (33 : Nat) (V.b (decide ((7 : Int) < (↑(List.length l) : Int)) || !decide (chE l = (0 : Int)) || decide ((200 : Int) < (↑(List.length x) : Int)))), pc (34 : Nat) ((True ∧ True) ∧ (((decide ((7 : Int) < (↑(List.length l) : Int)) || !decide (chE l = (0 : Int)) || decide ((200 : Int) < (↑(List.length x) : Int))) == false) = true → True)) (V.gd ((decide ((7 : Int) < (↑(List.length l) : Int)) || !decide (chE l = (0 : Int)) || decide ((200 : Int) < (↑(List.length x) : Int))) == false) (V.sl (1 : Nat) (List.length x) fun (k : Nat) => [V.i (gi x k)]))] (by kernel_rfl) (by kernel_rfl) ⟨⟨⟨(by (exact fun h => h)), ⟨True.intro, True.intro⟩⟩, (fun _ => True.intro)⟩, ⟨True.intro, (by (intro h; rw [h]; rfl))⟩, ⟨⟨True.intro, True.intro⟩, (fun _ => True.intro)⟩, ⟨⟨(by (exact fun h => h)), True.intro⟩, (fun _ => True.intro)⟩, ⟨⟨(by (exact fun h => h)), ⟨True.intro, True.intro⟩⟩, (fun _ => True.intro)⟩, ⟨True.intro, (by (intro h; rw [h]; rfl))⟩, ⟨⟨True.intro, True.intro⟩, (fun _ => True.intro)⟩, True.intro⟩ ?_
  refine e_callG 1 (g := (decide ((7 : Int) < (↑(List.length l) : Int)) || !decide (chE l = (0 : Int)) || decide ((200 : Int) < (↑(List.length x) : Int))) == false) (first := []) (caps := []) (by kernel_rfl) (fun h => refSignal_ac x hx) (by kernel_rfl) (by kernel_rfl) (by kernel_rfl) (by kernel_rfl) (by kernel_rfl) (by kernel_rfl) ?_
  refine aops_n hTT (M := []) (n := 2) [pc (36 : Nat) (((((decide ((7 : Int) < (↑(List.length l) : Int)) || !decide (chE l = (0 : Int)) || decide ((200 : Int) < (↑(List.length x) : Int))) == false) = true → ((decide ((7 : Int) < (↑(List.length l) : Int)) || !decide (chE l = (0 : Int)) || decide ((200 : Int) < (↑(List.length x) : Int))) == false) = true) ∧ True ∧ True) ∧ (((decide ((7 : Int) < (↑(List.length l) : Int)) || !decide (chE l = (0 : Int)) || decide ((200 : Int) < (↑(List.length x) : Int))) == false) = true → True)) (V.gd ((decide ((7 : Int) < (↑(List.length l) : Int)) || !decide (chE l = (0 : Int)) || decide ((200 : Int) < (↑(List.length x) : Int))) == false) (V.b !decide (sigE x = (0 : Int)))), pc (37 : Nat) (True ∧ ((decide ((7 : Int) < (↑(List.length l) : Int)) || !decide (chE l = (0 : Int)) || decide ((200 : Int) < (↑(List.length x) : Int))) = false → ((decide ((7 : Int) < (↑(List.length l) : Int)) || !decide (chE l = (0 : Int)) || decide ((200 : Int) < (↑(List.length x) : Int))) == false) = true)) (V.b (decide ((7 : Int) < (↑(List.length l) : Int)) || !decide (chE l = (0 : Int)) || decide ((200 : Int) < (↑(List.length x) : Int)) || !decide (sigE x = (0 : Int))))] (by kernel_rfl) (by kernel_rfl) ⟨⟨⟨(by (exact fun h => h)), ⟨True.intro, True.intro⟩⟩, (fun _ => True.intro)⟩, ⟨True.intro, (by (intro h; rw [h]; rfl))⟩, True.intro⟩ ?_
  refine aops_nil ?_
  refine xt_n ?_
  refine hK _ ?_
  clear hK K
  refine w_cond (t := decide ((7 : Int) < (↑(List.length l) : Int)) || !decide (chE l = (0 : Int)) || decide ((200 : Int) < (↑(List.length x) : Int)) || !decide (sigE x = (0 : Int))) (by kernel_rfl) (fun c1 => ?_) (fun c1 => ?_)
  · refine aw_seq_k fun K hK => ?_
    refine w_region (n' := 4) (by kernel_rfl) (by kernel_rfl) ?_
    refine e_call (first := []) (caps := []) (works_ac) (by kernel_rfl) (by kernel_rfl) (by kernel_rfl) (by kernel_rfl) (by kernel_rfl) ?_
    refine aops_n hTT (M := []) (n := 1) [pv (8 : Nat) (V.b true)] (by kernel_rfl) (by kernel_rfl) True.intro ?_
    refine aops_nil ?_
    refine xt_n ?_
    refine hK _ ?_
    clear hK K
    refine aw_ret ?_
    refine xt_r ?_
    refine ret_pure (v' := V.b true) (.inr rfl) (by kernel_rfl) (by kernel_rfl) (by kernel_rfl)
  simp at c1
  have hM : cvsL (chM l a s) := by
    refine ⟨by rw [chM_len ha2]; have := hl.1; unfold bigL at *; omega, fun k hk => ?_⟩
    rw [chM_len ha2] at hk
    by_cases k1 : k < a
    · rw [gc_lt ha2 k1]; exact hl.2 k (by omega)
    by_cases k2 : k = a
    · rw [k2, gc_mid ha2]; exact ⟨by simp [idle, bigL], by simp [idle, bigL]⟩
    · rw [gc_gt ha2 (by omega)]; exact hl.2 _ (by omega)
  refine aw_skip ?_
  refine xt_n ?_
  refine hK _ ?_
  clear hK K
  refine aw_seq_k fun K hK => ?_
  refine w_region (n' := 4) (by kernel_rfl) (by kernel_rfl) ?_
  refine aops_n hTT (M := []) (n := 2) [pv (40 : Nat) (V.sl (3 : Nat) (List.length l) fun (k : Nat) => [V.ints (Cv.feed (gc l k)), V.ints (Cv.back (gc l k)), V.i (Cv.share (gc l k))]), pv (41 : Nat) (V.sl (1 : Nat) (List.length x) fun (k : Nat) => [V.i (gi x k)])] (by kernel_rfl) (by kernel_rfl) True.intro ?_
  refine e_call (first := []) (caps := []) (ApplyAll_ac l x hl hx) (by kernel_rfl) (by kernel_rfl) (by kernel_rfl) (by kernel_rfl) (by kernel_rfl) ?_
  refine aops_n hTT (M := [58]) (n := 5) [pv (39 : Nat) (V.tup [V.sl (1 : Nat) (List.length (Prod.snd (chR l false x))) fun (k : Nat) => [V.i (gi (Prod.snd (chR l false x)) k)], V.i (Prod.fst (chR l false x))]), pv (43 : Nat) (V.sl (1 : Nat) (List.length (Prod.snd (chR l false x))) fun (k : Nat) => [V.i (gi (Prod.snd (chR l false x)) k)]), pv (44 : Nat) (V.i (Prod.fst (chR l false x))), pv (9 : Nat) (V.sl (1 : Nat) (List.length (Prod.snd (chR l false x))) fun (k : Nat) => [V.i (gi (Prod.snd (chR l false x)) k)]), pv (10 : Nat) (V.i (Prod.fst (chR l false x)))] (by kernel_rfl) (by kernel_rfl) True.intro ?_
  refine aops_nil ?_
  refine xt_n ?_
  refine hK _ ?_
  clear hK K
  refine aw_seq_k fun K hK => ?_
  refine w_region (n' := 5) (by kernel_rfl) (by kernel_rfl) ?_
  refine aops_n hTT (M := [58]) (n := 7) [pv (45 : Nat) (V.c (Value.int IntKind.u8 at')), pc (46 : Nat) ((-9223372036854775808 : Int) ≤ at' ∧ at' ≤ (9223372036854775807 : Int)) (V.i at'), pv (47 : Nat) (V.sl (3 : Nat) (List.length l) fun (k : Nat) => [V.ints (Cv.feed (gc l k)), V.ints (Cv.back (gc l k)), V.i (Cv.share (gc l k))]), pv (48 : Nat) (V.i (↑(List.length l) : Int)), pc (49 : Nat) ((-9223372036854775808 : Int) ≤ (↑(List.length l) : Int) + (1 : Int) ∧ (↑(List.length l) : Int) + (1 : Int) ≤ (9223372036854775807 : Int)) (V.i ((↑(List.length l) : Int) + (1 : Int))), pc (50 : Nat) ((↑(List.length l) : Int) + (1 : Int) ≠ (0 : Int)) (V.i (Int.tmod at' ((↑(List.length l) : Int) + (1 : Int)))), pv (11 : Nat) (V.i (Int.tmod at' ((↑(List.length l) : Int) + (1 : Int))))] (by kernel_rfl) (by kernel_rfl) ⟨(by omega), (by omega), (by omega), True.intro⟩ ?_
  refine aops_nil ?_
  refine xt_n ?_
  refine hK _ ?_
  clear hK K
  refine aw_seq_k fun K hK => ?_
  refine w_region (n' := 6) (by kernel_rfl) (by kernel_rfl) ?_
  refine aops_n hTT (M := [58]) (n := 9) [pv (51 : Nat) (V.sl (1 : Nat) (2 : Nat) fun (i : Nat) => List.take (1 : Nat) (List.drop (i * (1 : Nat)) [V.i (0 : Int), V.i (0 : Int)])), pv (52 : Nat) (V.sl (1 : Nat) (1 : Nat) fun (i : Nat) => List.take (1 : Nat) (List.drop (i * (1 : Nat)) [V.i (0 : Int)])), pv (53 : Nat) (V.c (Value.int IntKind.u16 share)), pc (54 : Nat) ((-9223372036854775808 : Int) ≤ share ∧ share ≤ (9223372036854775807 : Int)) (V.i share), pc (55 : Nat) ((4096 : Int) ≠ (0 : Int)) (V.i (Int.tmod share (4096 : Int))), pc (56 : Nat) ((-9223372036854775808 : Int) ≤ (1 : Int) + Int.tmod share (4096 : Int) ∧ (1 : Int) + Int.tmod share (4096 : Int) ≤ (9223372036854775807 : Int)) (V.i ((1 : Int) + Int.tmod share (4096 : Int))), pv (57 : Nat) (V.agg [V.sl (1 : Nat) (2 : Nat) fun (i : Nat) => List.take (1 : Nat) (List.drop (i * (1 : Nat)) [V.i (0 : Int), V.i (0 : Int)]), V.sl (1 : Nat) (1 : Nat) fun (i : Nat) => List.take (1 : Nat) (List.drop (i * (1 : Nat)) [V.i (0 : Int)]), V.i ((1 : Int) + Int.tmod share (4096 : Int))]), pn (12 : Nat) (V.ref (500012 : Nat) (0 : Nat)) (500012 : Nat) (Ob.box (24 : Nat) [V.nil, V.nil, V.i (0 : Int)]), pw ((0 : Nat) + (3 : Nat) ≤ (3 : Nat)) (500012 : Nat) (Ob.box (24 : Nat) [V.sl (1 : Nat) (2 : Nat) fun (i : Nat) => List.take (1 : Nat) (List.drop (i * (1 : Nat)) [V.i (0 : Int), V.i (0 : Int)]), V.sl (1 : Nat) (1 : Nat) fun (i : Nat) => List.take (1 : Nat) (List.drop (i * (1 : Nat)) [V.i (0 : Int)]), V.i ((1 : Int) + Int.tmod share (4096 : Int))])] (by kernel_rfl) (by kernel_rfl) ⟨(by omega), (by omega), (by omega), (by omega), True.intro⟩ ?_
  refine aops_nil ?_
  refine xt_n ?_
  refine hK _ ?_
  clear hK K
  refine aw_seq_k fun K hK => ?_
  refine w_regionD (n' := 7) (by kernel_rfl) (by kernel_rfl) ?_
  refine aops_n hTT (M := [58]) (n := 13) [pn (58 : Nat) (V.own (600058 : Nat)) (600058 : Nat) (Ob.row (24 : Nat) (3 : Nat) (0 : Nat) fun (i : Nat) => List.take (3 : Nat) (List.drop (i * (3 : Nat)) (repV (0 : Nat) [V.nil, V.nil, V.c (Value.int IntKind.i64 (0 : Int))]))), pv (59 : Nat) (V.sl (3 : Nat) (List.length l) fun (k : Nat) => [V.ints (Cv.feed (gc l k)), V.ints (Cv.back (gc l k)), V.i (Cv.share (gc l k))]), pv (60 : Nat) (V.i (Int.tmod at' ((↑(List.length l) : Int) + (1 : Int)))), pc (61 : Nat) ((0 : Int) ≤ (0 : Int) ∧ (0 : Int) ≤ Int.tmod at' ((↑(List.length l) : Int) + (1 : Int)) ∧ Int.tmod at' ((↑(List.length l) : Int) + (1 : Int)) ≤ (↑(List.length l) : Int)) (V.sl (3 : Nat) (Int.toNat (Int.tmod at' ((↑(List.length l) : Int) + (1 : Int))) - (0 : Nat)) fun (i : Nat) => [V.ints (Cv.feed (gc l (i + (0 : Nat)))), V.ints (Cv.back (gc l (i + (0 : Nat)))), V.i (Cv.share (gc l (i + (0 : Nat))))]), PR.mk (some (62 : Nat)) (some ((0 : Nat) + (Int.toNat (Int.tmod at' ((↑(List.length l) : Int) + (1 : Int))) - (0 : Nat)) ≤ (1099511627776 : Nat))) (V.own (600062 : Nat)) [((600058 : Nat), none), ((600062 : Nat), some (Ob.row (24 : Nat) (3 : Nat) ((0 : Nat) + (Int.toNat (Int.tmod at' ((↑(List.length l) : Int) + (1 : Int))) - (0 : Nat))) (appRow (0 : Nat) (fun (i : Nat) => List.take (3 : Nat) (List.drop (i * (3 : Nat)) (repV (0 : Nat) [V.nil, V.nil, V.c (Value.int IntKind.i64 (0 : Int))]))) fun (i : Nat) => [V.ints (Cv.feed (gc l (i + (0 : Nat)))), V.ints (Cv.back (gc l (i + (0 : Nat)))), V.i (Cv.share (gc l (i + (0 : Nat))))])))] false, pc (63 : Nat) ((0 : Nat) ≤ (3 : Nat)) (V.agg [V.sl (1 : Nat) (2 : Nat) fun (i : Nat) => List.take (1 : Nat) (List.drop (i * (1 : Nat)) [V.i (0 : Int), V.i (0 : Int)]), V.sl (1 : Nat) (1 : Nat) fun (i : Nat) => List.take (1 : Nat) (List.drop (i * (1 : Nat)) [V.i (0 : Int)]), V.i ((1 : Int) + Int.tmod share (4096 : Int))]), pv (64 : Nat) (V.sl (3 : Nat) (1 : Nat) fun (i : Nat) => List.take (3 : Nat) (List.drop (i * (3 : Nat)) [V.sl (1 : Nat) (2 : Nat) fun (i : Nat) => List.take (1 : Nat) (List.drop (i * (1 : Nat)) [V.i (0 : Int), V.i (0 : Int)]), V.sl (1 : Nat) (1 : Nat) fun (i : Nat) => List.take (1 : Nat) (List.drop (i * (1 : Nat)) [V.i (0 : Int)]), V.i ((1 : Int) + Int.tmod share (4096 : Int))])), PR.mk (some (65 : Nat)) (some ((0 : Nat) + (Int.toNat (Int.tmod at' ((↑(List.length l) : Int) + (1 : Int))) - (0 : Nat)) + (1 : Nat) ≤ (1099511627776 : Nat))) (V.own (600065 : Nat)) [((600062 : Nat), none), ((600065 : Nat), some (Ob.row (24 : Nat) (3 : Nat) ((0 : Nat) + (Int.toNat (Int.tmod at' ((↑(List.length l) : Int) + (1 : Int))) - (0 : Nat)) + (1 : Nat)) (appRow ((0 : Nat) + (Int.toNat (Int.tmod at' ((↑(List.length l) : Int) + (1 : Int))) - (0 : Nat))) (appRow (0 : Nat) (fun (i : Nat) => List.take (3 : Nat) (List.drop (i * (3 : Nat)) (repV (0 : Nat) [V.nil, V.nil, V.c (Value.int IntKind.i64 (0 : Int))]))) fun (i : Nat) => [V.ints (Cv.feed (gc l (i + (0 : Nat)))), V.ints (Cv.back (gc l (i + (0 : Nat)))), V.i (Cv.share (gc l (i + (0 : Nat))))]) fun (i : Nat) => List.take (3 : Nat) (List.drop (i * (3 : Nat)) [V.sl (1 : Nat) (2 : Nat) fun (i : Nat) => List.take (1 : Nat) (List.drop (i * (1 : Nat)) [V.i (0 : Int), V.i (0 : Int)]), V.sl (1 : Nat) (1 : Nat) fun (i : Nat) => List.take (1 : Nat) (List.drop (i * (1 : Nat)) [V.i (0 : Int)]), V.i ((1 : Int) + Int.tmod share (4096 : Int))]))))] false, pv (66 : Nat) (V.sl (3 : Nat) (List.length l) fun (k : Nat) => [V.ints (Cv.feed (gc l k)), V.ints (Cv.back (gc l k)), V.i (Cv.share (gc l k))]), pv (67 : Nat) (V.i (Int.tmod at' ((↑(List.length l) : Int) + (1 : Int)))), pc (68 : Nat) ((0 : Int) ≤ Int.tmod at' ((↑(List.length l) : Int) + (1 : Int)) ∧ Int.tmod at' ((↑(List.length l) : Int) + (1 : Int)) ≤ (↑(List.length l) : Int) ∧ (↑(List.length l) : Int) ≤ (↑(List.length l) : Int)) (V.sl (3 : Nat) (List.length l - Int.toNat (Int.tmod at' ((↑(List.length l) : Int) + (1 : Int)))) fun (i : Nat) => [V.ints (Cv.feed (gc l (i + Int.toNat (Int.tmod at' ((↑(List.length l) : Int) + (1 : Int)))))), V.ints (Cv.back (gc l (i + Int.toNat (Int.tmod at' ((↑(List.length l) : Int) + (1 : Int)))))), V.i (Cv.share (gc l (i + Int.toNat (Int.tmod at' ((↑(List.length l) : Int) + (1 : Int))))))]), PR.mk (some (69 : Nat)) (some ((0 : Nat) + (Int.toNat (Int.tmod at' ((↑(List.length l) : Int) + (1 : Int))) - (0 : Nat)) + (1 : Nat) + (List.length l - Int.toNat (Int.tmod at' ((↑(List.length l) : Int) + (1 : Int)))) ≤ (1099511627776 : Nat))) (V.own (600069 : Nat)) [((600065 : Nat), none), ((600069 : Nat), some (Ob.row (24 : Nat) (3 : Nat) ((0 : Nat) + (Int.toNat (Int.tmod at' ((↑(List.length l) : Int) + (1 : Int))) - (0 : Nat)) + (1 : Nat) + (List.length l - Int.toNat (Int.tmod at' ((↑(List.length l) : Int) + (1 : Int))))) (appRow ((0 : Nat) + (Int.toNat (Int.tmod at' ((↑(List.length l) : Int) + (1 : Int))) - (0 : Nat)) + (1 : Nat)) (appRow ((0 : Nat) + (Int.toNat (Int.tmod at' ((↑(List.length l) : Int) + (1 : Int))) - (0 : Nat))) (appRow (0 : Nat) (fun (i : Nat) => List.take (3 : Nat) (List.drop (i * (3 : Nat)) (repV (0 : Nat) [V.nil, V.nil, V.c (Value.int IntKind.i64 (0 : Int))]))) fun (i : Nat) => [V.ints (Cv.feed (gc l (i + (0 : Nat)))), V.ints (Cv.back (gc l (i + (0 : Nat)))), V.i (Cv.share (gc l (i + (0 : Nat))))]) fun (i : Nat) => List.take (3 : Nat) (List.drop (i * (3 : Nat)) [V.sl (1 : Nat) (2 : Nat) fun (i : Nat) => List.take (1 : Nat) (List.drop (i * (1 : Nat)) [V.i (0 : Int), V.i (0 : Int)]), V.sl (1 : Nat) (1 : Nat) fun (i : Nat) => List.take (1 : Nat) (List.drop (i * (1 : Nat)) [V.i (0 : Int)]), V.i ((1 : Int) + Int.tmod share (4096 : Int))])) fun (i : Nat) => [V.ints (Cv.feed (gc l (i + Int.toNat (Int.tmod at' ((↑(List.length l) : Int) + (1 : Int)))))), V.ints (Cv.back (gc l (i + Int.toNat (Int.tmod at' ((↑(List.length l) : Int) + (1 : Int)))))), V.i (Cv.share (gc l (i + Int.toNat (Int.tmod at' ((↑(List.length l) : Int) + (1 : Int))))))])))] false, pv (13 : Nat) (V.own (600069 : Nat))] (by kernel_rfl) (by kernel_rfl) ⟨⟨(by omega), (by omega)⟩, (by omega), (by omega), (by omega), ⟨(by omega), (by omega)⟩, (by omega), True.intro⟩ ?_
  refine aops_nil ⟨by kernel_rfl, ?_⟩
  refine xt_n ?_
  refine hK _ ?_
  clear hK K
  refine aw_seq_k fun K hK => ?_
  refine w_le (le_shut 13 600069 (e := (24 : Nat)) (sz := (3 : Nat)) (n := (0 : Nat) + (Int.toNat (Int.tmod at' ((↑(List.length l) : Int) + (1 : Int))) - (0 : Nat)) + (1 : Nat) + (List.length l - Int.toNat (Int.tmod at' ((↑(List.length l) : Int) + (1 : Int))))) (n' := (l.length + 1)) (row := appRow ((0 : Nat) + (Int.toNat (Int.tmod at' ((↑(List.length l) : Int) + (1 : Int))) - (0 : Nat)) + (1 : Nat)) (appRow ((0 : Nat) + (Int.toNat (Int.tmod at' ((↑(List.length l) : Int) + (1 : Int))) - (0 : Nat))) (appRow (0 : Nat) (fun (i : Nat) => List.take (3 : Nat) (List.drop (i * (3 : Nat)) (repV (0 : Nat) [V.nil, V.nil, V.c (Value.int IntKind.i64 (0 : Int))]))) fun (i : Nat) => [V.ints (Cv.feed (gc l (i + (0 : Nat)))), V.ints (Cv.back (gc l (i + (0 : Nat)))), V.i (Cv.share (gc l (i + (0 : Nat))))]) fun (i : Nat) => List.take (3 : Nat) (List.drop (i * (3 : Nat)) [V.sl (1 : Nat) (2 : Nat) fun (i : Nat) => List.take (1 : Nat) (List.drop (i * (1 : Nat)) [V.i (0 : Int), V.i (0 : Int)]), V.sl (1 : Nat) (1 : Nat) fun (i : Nat) => List.take (1 : Nat) (List.drop (i * (1 : Nat)) [V.i (0 : Int)]), V.i ((1 : Int) + Int.tmod share (4096 : Int))])) fun (i : Nat) => [V.ints (Cv.feed (gc l (i + Int.toNat (Int.tmod at' ((↑(List.length l) : Int) + (1 : Int)))))), V.ints (Cv.back (gc l (i + Int.toNat (Int.tmod at' ((↑(List.length l) : Int) + (1 : Int)))))), V.i (Cv.share (gc l (i + Int.toNat (Int.tmod at' ((↑(List.length l) : Int) + (1 : Int))))))]) (row' := (rowM l a s)) (by kernel_rfl) (by kernel_rfl) (fun _ _ => by repeat' (first | rfl | apply V.idfL_appRow | apply V.idfL_take | apply V.idfL_drop)) ?_ ?_) ?_
  · rw [ha]; omega
  · intro i hi
    rw [ha] at hi ⊢
    rw [hs3]
    unfold appRow rowM
    by_cases c2 : i < a
    · rw [if_pos (show i < 0 + (((a : Int).toNat) - 0) + 1 by omega), if_pos (show i < 0 + (((a : Int).toNat) - 0) by omega), if_pos c2, if_neg (Nat.not_lt_zero _)]
      rfl
    by_cases c3 : i = a
    · subst c3; simp
    · have e1 : ¬ i < 0 + (((a : Int).toNat) - 0) + 1 := by omega
      rw [if_neg e1, if_neg c2, if_neg c3]
      have e2 : i - (0 + (((a : Int).toNat) - 0) + 1) + (a : Int).toNat = i - 1 := by omega
      show cellsC (gc l (i - (0 + (((a : Int).toNat) - 0) + 1) + (a : Int).toNat)) = _
      rw [e2]
  obtain ⟨⟨⟨l7, g1⟩, x2⟩, g2⟩ := c1
  have l7' : l.length ≤ 7 := by omega
  have hs2 := sigE_ok.1 g2
  have AM := ApplyAll_ac (chM l a s) x hM hx
  rw [show chR (chM l a s) false x = chR l false x by
    rw [chR_eo (chM_ok g1 l7' ha2 hs) g2, chR_eo g1 g2, chainI_fold, chainI_fold]
    exact congrArg (fun o => (eOf o, lOf o)) (chM_fold hs2.2)] at AM
  have hT : cvsL (l.take a) := ⟨by rw [List.length_take]; have := hl.1; omega, fun k hk => by
    rw [List.length_take] at hk
    rw [show gc (l.take a) k = gc l k by unfold gc; rw [List.getD_eq_getElem?_getD, List.getD_eq_getElem?_getD, List.getElem?_take, if_pos (by omega)]]
    exact hl.2 k (by omega)⟩
  have hD : cvsL (l.drop a) := ⟨by rw [List.length_drop]; have := hl.1; omega, fun k hk => by
    rw [List.length_drop] at hk
    rw [show gc (l.drop a) k = gc l (a + k) by unfold gc; rw [List.getD_eq_getElem?_getD, List.getD_eq_getElem?_getD, List.getElem?_drop]]
    exact hl.2 _ (by omega)⟩
  have AT := ApplyAll_ac (l.take a) x hT hx
  refine w_region (n' := 8) (by kernel_rfl) (by kernel_rfl) ?_
  refine aops_n hTT (M := []) (n := 2) [pv (71 : Nat) (V.sl (3 : Nat) (List.length l + (1 : Nat)) (rowM l a s)), pv (72 : Nat) (V.sl (1 : Nat) (List.length x) fun (k : Nat) => [V.i (gi x k)])] (by kernel_rfl) (by kernel_rfl) True.intro ?_
  refine e_call (first := []) (caps := []) (AC.conv (AM) (args' := [V.sl (3 : Nat) (List.length l + (1 : Nat)) (rowM l a s), V.sl (1 : Nat) (List.length x) fun (k : Nat) => [V.i (gi x k)]]) ⟨?_, RImp.refl _, trivial⟩) (by kernel_rfl) (by kernel_rfl) (by kernel_rfl) (by kernel_rfl) (by kernel_rfl) ?_
  · exact rowM_imp ha2
  refine aops_n hTT (M := []) (n := 5) [pv (70 : Nat) (V.tup [V.sl (1 : Nat) (List.length (Prod.snd (chR l false x))) fun (k : Nat) => [V.i (gi (Prod.snd (chR l false x)) k)], V.i (Prod.fst (chR l false x))]), pv (74 : Nat) (V.sl (1 : Nat) (List.length (Prod.snd (chR l false x))) fun (k : Nat) => [V.i (gi (Prod.snd (chR l false x)) k)]), pv (75 : Nat) (V.i (Prod.fst (chR l false x))), pv (14 : Nat) (V.sl (1 : Nat) (List.length (Prod.snd (chR l false x))) fun (k : Nat) => [V.i (gi (Prod.snd (chR l false x)) k)]), pv (15 : Nat) (V.i (Prod.fst (chR l false x)))] (by kernel_rfl) (by kernel_rfl) True.intro ?_
  refine aops_nil ?_
  refine xt_n ?_
  refine hK _ ?_
  clear hK K
  refine aw_seq_k fun K hK => ?_
  refine aw_seq_k fun K hK => ?_
  refine w_region (n' := 9) (by kernel_rfl) (by kernel_rfl) ?_
  refine aops_n hTT (M := []) (n := 6) [pv (76 : Nat) (V.i (Prod.fst (chR l false x))), pv (77 : Nat) (V.i (Prod.fst (chR l false x))), pv (78 : Nat) (V.b !decide (Prod.fst (chR l false x) = Prod.fst (chR l false x))), pv (79 : Nat) (V.b !decide (Prod.fst (chR l false x) = Prod.fst (chR l false x))), pc (80 : Nat) ((True ∧ True) ∧ (((!decide (Prod.fst (chR l false x) = Prod.fst (chR l false x))) == false) = true → True)) (V.gd ((!decide (Prod.fst (chR l false x) = Prod.fst (chR l false x))) == false) (V.sl (1 : Nat) (List.length (Prod.snd (chR l false x))) fun (k : Nat) => [V.i (gi (Prod.snd (chR l false x)) k)])), pc (81 : Nat) ((True ∧ True) ∧ (((!decide (Prod.fst (chR l false x) = Prod.fst (chR l false x))) == false) = true → True)) (V.gd ((!decide (Prod.fst (chR l false x) = Prod.fst (chR l false x))) == false) (V.sl (1 : Nat) (List.length (Prod.snd (chR l false x))) fun (k : Nat) => [V.i (gi (Prod.snd (chR l false x)) k)]))] (by kernel_rfl) (by kernel_rfl) ⟨⟨⟨True.intro, True.intro⟩, (fun _ => True.intro)⟩, ⟨⟨True.intro, True.intro⟩, (fun _ => True.intro)⟩, True.intro⟩ ?_
  refine e_callG 2 (g := (!decide (Prod.fst (chR l false x) = Prod.fst (chR l false x))) == false) (first := []) (caps := []) (by kernel_rfl) (fun h => refSame_ac (chR l false x).2 (chR l false x).2 chR_len chR_len) (by kernel_rfl) (by kernel_rfl) (by kernel_rfl) (by kernel_rfl) (by kernel_rfl) (by kernel_rfl) ?_
  refine aops_n hTT (M := []) (n := 2) [pc (83 : Nat) (((((!decide (Prod.fst (chR l false x) = Prod.fst (chR l false x))) == false) = true → ((!decide (Prod.fst (chR l false x) = Prod.fst (chR l false x))) == false) = true) ∧ True) ∧ (((!decide (Prod.fst (chR l false x) = Prod.fst (chR l false x))) == false) = true → True)) (V.gd ((!decide (Prod.fst (chR l false x) = Prod.fst (chR l false x))) == false) (V.b !decide (Prod.snd (chR l false x) = Prod.snd (chR l false x)))), pc (84 : Nat) (True ∧ ((!decide (Prod.fst (chR l false x) = Prod.fst (chR l false x))) = false → ((!decide (Prod.fst (chR l false x) = Prod.fst (chR l false x))) == false) = true)) (V.b (!decide (Prod.fst (chR l false x) = Prod.fst (chR l false x)) || !decide (Prod.snd (chR l false x) = Prod.snd (chR l false x))))] (by kernel_rfl) (by kernel_rfl) ⟨⟨⟨(by (exact fun h => h)), True.intro⟩, (fun _ => True.intro)⟩, ⟨True.intro, (by (intro h; rw [h]; rfl))⟩, True.intro⟩ ?_
  refine aops_nil ?_
  refine xt_n ?_
  refine hK _ ?_
  clear hK K
  refine w_cond (t := !decide (Prod.fst (chR l false x) = Prod.fst (chR l false x)) || !decide (Prod.snd (chR l false x) = Prod.snd (chR l false x))) (by kernel_rfl) (fun c2 => ?_) (fun c2 => ?_)
  · simp at c2
  refine aw_skip ?_
  refine xt_n ?_
  refine hK _ ?_
  clear hK K
  refine aw_seq_k fun K hK => ?_
  refine w_region (n' := 10) (by kernel_rfl) (by kernel_rfl) ?_
  refine aops_n hTT (M := []) (n := 4) [pv (86 : Nat) (V.sl (3 : Nat) (List.length l) fun (k : Nat) => [V.ints (Cv.feed (gc l k)), V.ints (Cv.back (gc l k)), V.i (Cv.share (gc l k))]), pv (87 : Nat) (V.i (Int.tmod at' ((↑(List.length l) : Int) + (1 : Int)))), pc (88 : Nat) ((0 : Int) ≤ (0 : Int) ∧ (0 : Int) ≤ Int.tmod at' ((↑(List.length l) : Int) + (1 : Int)) ∧ Int.tmod at' ((↑(List.length l) : Int) + (1 : Int)) ≤ (↑(List.length l) : Int)) (V.sl (3 : Nat) (Int.toNat (Int.tmod at' ((↑(List.length l) : Int) + (1 : Int))) - (0 : Nat)) fun (i : Nat) => [V.ints (Cv.feed (gc l (i + (0 : Nat)))), V.ints (Cv.back (gc l (i + (0 : Nat)))), V.i (Cv.share (gc l (i + (0 : Nat))))]), pv (89 : Nat) (V.sl (1 : Nat) (List.length x) fun (k : Nat) => [V.i (gi x k)])] (by kernel_rfl) (by kernel_rfl) ⟨⟨(by omega), (by omega)⟩, True.intro⟩ ?_
  have ean : (at'.tmod ((l.length : Int) + 1)).toNat = a := by rw [ha]; rfl
  have hfo : foldI false 32767 l (some x) = foldI false 32767 (l.drop a) (foldI false 32767 (l.take a) (some x)) := by
    conv => lhs; rw [← List.take_append_drop a l]
    rw [foldI_append]
  have e0 : chR l false x = (eOf (foldI false 32767 l (some x)), lOf (foldI false 32767 l (some x))) := (chR_eo g1 g2).trans (by rw [chainI_fold]; rfl)
  have e1 : chR (l.take a) false x = (eOf (foldI false 32767 (l.take a) (some x)), lOf (foldI false 32767 (l.take a) (some x))) := (chR_eo (chTake_ok g1) g2).trans (by rw [chainI_fold]; rfl)
  refine e_call (first := []) (caps := []) (AC.conv (AT) (args' := [V.sl (3 : Nat) (Int.toNat (Int.tmod at' ((↑(List.length l) : Int) + (1 : Int))) - (0 : Nat)) fun (i : Nat) => [V.ints (Cv.feed (gc l (i + (0 : Nat)))), V.ints (Cv.back (gc l (i + (0 : Nat)))), V.i (Cv.share (gc l (i + (0 : Nat))))], V.sl (1 : Nat) (List.length x) fun (k : Nat) => [V.i (gi x k)]]) ⟨?_, RImp.refl _, trivial⟩) (by kernel_rfl) (by kernel_rfl) (by kernel_rfl) (by kernel_rfl) (by kernel_rfl) ?_
  · exact take_imp ean ha2
  refine aops_n hTT (M := []) (n := 5) [pv (85 : Nat) (V.tup [V.sl (1 : Nat) (List.length (Prod.snd (chR (List.take a l) false x))) fun (k : Nat) => [V.i (gi (Prod.snd (chR (List.take a l) false x)) k)], V.i (Prod.fst (chR (List.take a l) false x))]), pv (91 : Nat) (V.sl (1 : Nat) (List.length (Prod.snd (chR (List.take a l) false x))) fun (k : Nat) => [V.i (gi (Prod.snd (chR (List.take a l) false x)) k)]), pv (92 : Nat) (V.i (Prod.fst (chR (List.take a l) false x))), pv (16 : Nat) (V.sl (1 : Nat) (List.length (Prod.snd (chR (List.take a l) false x))) fun (k : Nat) => [V.i (gi (Prod.snd (chR (List.take a l) false x)) k)]), pv (15 : Nat) (V.i (Prod.fst (chR (List.take a l) false x)))] (by kernel_rfl) (by kernel_rfl) True.intro ?_
  refine aops_nil ?_
  refine xt_n ?_
  refine hK _ ?_
  clear hK K
  refine aw_seq_k fun K hK => ?_
  refine aw_seq_k fun K hK => ?_
  refine w_region (n' := 11) (by kernel_rfl) (by kernel_rfl) ?_
  refine aops_n hTT (M := []) (n := 2) [pv (93 : Nat) (V.i (Prod.fst (chR (List.take a l) false x))), pv (94 : Nat) (V.b (decide (Prod.fst (chR (List.take a l) false x) = (0 : Int))))] (by kernel_rfl) (by kernel_rfl) True.intro ?_
  refine aops_nil ?_
  refine xt_n ?_
  refine hK _ ?_
  clear hK K
  cases hu : foldI false 32767 (l.take a) (some x) with
  | none =>
    rw [hu] at e1 hfo
    rw [foldI_none] at hfo
    rw [hfo] at e0
    refine w_cond (t := decide (Prod.fst (chR (List.take a l) false x) = (0 : Int))) (by kernel_rfl) (fun c3 => ?_) (fun c3 => ?_)
    · rw [e1] at c3
      simp [eOf] at c3
    refine aw_skip ?_
    refine xt_n ?_
    refine hK _ ?_
    clear hK K
    refine aw_seq_k fun K hK => ?_
    refine aw_seq_k fun K hK => ?_
    refine w_region (n' := 12) (by kernel_rfl) (by kernel_rfl) ?_
    refine aops_n hTT (M := []) (n := 6) [pv (103 : Nat) (V.i (Prod.fst (chR l false x))), pv (104 : Nat) (V.i (Prod.fst (chR (List.take a l) false x))), pv (105 : Nat) (V.b !decide (Prod.fst (chR l false x) = Prod.fst (chR (List.take a l) false x))), pv (106 : Nat) (V.b !decide (Prod.fst (chR l false x) = Prod.fst (chR (List.take a l) false x))), pc (107 : Nat) ((True ∧ True) ∧ (((!decide (Prod.fst (chR l false x) = Prod.fst (chR (List.take a l) false x))) == false) = true → True)) (V.gd ((!decide (Prod.fst (chR l false x) = Prod.fst (chR (List.take a l) false x))) == false) (V.sl (1 : Nat) (List.length (Prod.snd (chR l false x))) fun (k : Nat) => [V.i (gi (Prod.snd (chR l false x)) k)])), pc (108 : Nat) ((True ∧ True) ∧ (((!decide (Prod.fst (chR l false x) = Prod.fst (chR (List.take a l) false x))) == false) = true → True)) (V.gd ((!decide (Prod.fst (chR l false x) = Prod.fst (chR (List.take a l) false x))) == false) (V.sl (1 : Nat) (List.length (Prod.snd (chR (List.take a l) false x))) fun (k : Nat) => [V.i (gi (Prod.snd (chR (List.take a l) false x)) k)]))] (by kernel_rfl) (by kernel_rfl) ⟨⟨⟨True.intro, True.intro⟩, (fun _ => True.intro)⟩, ⟨⟨True.intro, True.intro⟩, (fun _ => True.intro)⟩, True.intro⟩ ?_
    refine e_callG 2 (g := (!decide (Prod.fst (chR l false x) = Prod.fst (chR (List.take a l) false x))) == false) (first := []) (caps := []) (by kernel_rfl) (fun h => refSame_ac (chR l false x).2 (chR (l.take a) false x).2 chR_len chR_len) (by kernel_rfl) (by kernel_rfl) (by kernel_rfl) (by kernel_rfl) (by kernel_rfl) (by kernel_rfl) ?_
    refine aops_n hTT (M := []) (n := 2) [pc (110 : Nat) (((((!decide (Prod.fst (chR l false x) = Prod.fst (chR (List.take a l) false x))) == false) = true → ((!decide (Prod.fst (chR l false x) = Prod.fst (chR (List.take a l) false x))) == false) = true) ∧ True) ∧ (((!decide (Prod.fst (chR l false x) = Prod.fst (chR (List.take a l) false x))) == false) = true → True)) (V.gd ((!decide (Prod.fst (chR l false x) = Prod.fst (chR (List.take a l) false x))) == false) (V.b !decide (Prod.snd (chR l false x) = Prod.snd (chR (List.take a l) false x)))), pc (111 : Nat) (True ∧ ((!decide (Prod.fst (chR l false x) = Prod.fst (chR (List.take a l) false x))) = false → ((!decide (Prod.fst (chR l false x) = Prod.fst (chR (List.take a l) false x))) == false) = true)) (V.b (!decide (Prod.fst (chR l false x) = Prod.fst (chR (List.take a l) false x)) || !decide (Prod.snd (chR l false x) = Prod.snd (chR (List.take a l) false x))))] (by kernel_rfl) (by kernel_rfl) ⟨⟨⟨(by (exact fun h => h)), True.intro⟩, (fun _ => True.intro)⟩, ⟨True.intro, (by (intro h; rw [h]; rfl))⟩, True.intro⟩ ?_
    refine aops_nil ?_
    refine xt_n ?_
    refine hK _ ?_
    clear hK K
    refine w_cond (t := !decide (Prod.fst (chR l false x) = Prod.fst (chR (List.take a l) false x)) || !decide (Prod.snd (chR l false x) = Prod.snd (chR (List.take a l) false x))) (by kernel_rfl) (fun c4 => ?_) (fun c4 => ?_)
    · simp [e0, e1] at c4
    refine aw_skip ?_
    refine xt_n ?_
    refine hK _ ?_
    clear hK K
    refine aw_seq_k fun K hK => ?_
    refine aw_seq_k fun K hK => ?_
    refine w_region (n' := 13) (by kernel_rfl) (by kernel_rfl) ?_
    refine aops_n hTT (M := []) (n := 2) [pv (112 : Nat) (V.i (Prod.fst (chR l false x))), pv (113 : Nat) (V.b !decide (Prod.fst (chR l false x) = (0 : Int)))] (by kernel_rfl) (by kernel_rfl) True.intro ?_
    refine aops_nil ?_
    refine xt_n ?_
    refine hK _ ?_
    clear hK K
    refine w_cond (t := !decide (Prod.fst (chR l false x) = (0 : Int))) (by kernel_rfl) (fun c5 => ?_) (fun c5 => ?_)
    · refine aw_seq_k fun K hK => ?_
      refine w_region (n' := 14) (by kernel_rfl) (by kernel_rfl) ?_
      refine aops_n hTT (M := []) (n := 3) [pv (114 : Nat) (V.i (Prod.fst (chR l false x))), pv (115 : Nat) (V.b (decide (Prod.fst (chR l false x) = (4 : Int)))), pv (116 : Nat) (V.b (decide (Prod.fst (chR l false x) = (4 : Int))))] (by kernel_rfl) (by kernel_rfl) True.intro ?_
      refine e_callG 0 (g := decide (Prod.fst (chR l false x) = (4 : Int)) == true) (first := []) (caps := []) (by kernel_rfl) (fun h => works_ac) (by kernel_rfl) (by kernel_rfl) (by kernel_rfl) (by kernel_rfl) (by kernel_rfl) (by kernel_rfl) ?_
      refine aops_n hTT (M := []) (n := 2) [pc (118 : Nat) ((decide (Prod.fst (chR l false x) = (4 : Int)) = true → (decide (Prod.fst (chR l false x) = (4 : Int)) == true) = true) ∧ True) (V.b (decide (Prod.fst (chR l false x) = (4 : Int)) && true)), pv (8 : Nat) (V.b (decide (Prod.fst (chR l false x) = (4 : Int)) && true))] (by kernel_rfl) (by kernel_rfl) ⟨⟨(by (intro h; rw [h]; rfl)), True.intro⟩, True.intro⟩ ?_
      refine aops_nil ?_
      refine xt_n ?_
      refine hK _ ?_
      clear hK K
      refine aw_ret ?_
      refine xt_r ?_
      refine ret_pure (v' := V.b (decide (Prod.fst (chR l false x) = (4 : Int)) && true)) (.inr rfl) (by kernel_rfl) ?_ (by kernel_rfl)
      simp [e0, eOf]
    · simp [e0, eOf] at c5
  | some u =>
    rw [hu] at e1 hfo
    obtain ⟨-, su, eu⟩ := chR_both (chTake_ok g1) g2 hu
    have AD := ApplyAll_ac (l.drop a) (chR (l.take a) false x).2 hD chR_len
    rw [show chR (l.drop a) false (chR (l.take a) false x).2 = chR l false x by
      rw [e1, e0, hfo]
      exact (chR_eo (chDrop_ok g1) su).trans (by rw [chainI_fold]; rfl)] at AD
    refine w_cond (t := decide (Prod.fst (chR (List.take a l) false x) = (0 : Int))) (by kernel_rfl) (fun c3 => ?_) (fun c3 => ?_)
    · refine w_region (n' := 12) (by kernel_rfl) (by kernel_rfl) ?_
      refine aops_n hTT (M := []) (n := 4) [pv (96 : Nat) (V.sl (3 : Nat) (List.length l) fun (k : Nat) => [V.ints (Cv.feed (gc l k)), V.ints (Cv.back (gc l k)), V.i (Cv.share (gc l k))]), pv (97 : Nat) (V.i (Int.tmod at' ((↑(List.length l) : Int) + (1 : Int)))), pc (98 : Nat) ((0 : Int) ≤ Int.tmod at' ((↑(List.length l) : Int) + (1 : Int)) ∧ Int.tmod at' ((↑(List.length l) : Int) + (1 : Int)) ≤ (↑(List.length l) : Int) ∧ (↑(List.length l) : Int) ≤ (↑(List.length l) : Int)) (V.sl (3 : Nat) (List.length l - Int.toNat (Int.tmod at' ((↑(List.length l) : Int) + (1 : Int)))) fun (i : Nat) => [V.ints (Cv.feed (gc l (i + Int.toNat (Int.tmod at' ((↑(List.length l) : Int) + (1 : Int)))))), V.ints (Cv.back (gc l (i + Int.toNat (Int.tmod at' ((↑(List.length l) : Int) + (1 : Int)))))), V.i (Cv.share (gc l (i + Int.toNat (Int.tmod at' ((↑(List.length l) : Int) + (1 : Int))))))]), pv (99 : Nat) (V.sl (1 : Nat) (List.length (Prod.snd (chR (List.take a l) false x))) fun (k : Nat) => [V.i (gi (Prod.snd (chR (List.take a l) false x)) k)])] (by kernel_rfl) (by kernel_rfl) ⟨⟨(by omega), (by omega)⟩, True.intro⟩ ?_
      refine e_call (first := []) (caps := []) (AC.conv (AD) (args' := [V.sl (3 : Nat) (List.length l - Int.toNat (Int.tmod at' ((↑(List.length l) : Int) + (1 : Int)))) fun (i : Nat) => [V.ints (Cv.feed (gc l (i + Int.toNat (Int.tmod at' ((↑(List.length l) : Int) + (1 : Int)))))), V.ints (Cv.back (gc l (i + Int.toNat (Int.tmod at' ((↑(List.length l) : Int) + (1 : Int)))))), V.i (Cv.share (gc l (i + Int.toNat (Int.tmod at' ((↑(List.length l) : Int) + (1 : Int))))))], V.sl (1 : Nat) (List.length (Prod.snd (chR (List.take a l) false x))) fun (k : Nat) => [V.i (gi (Prod.snd (chR (List.take a l) false x)) k)]]) ⟨?_, RImp.refl _, trivial⟩) (by kernel_rfl) (by kernel_rfl) (by kernel_rfl) (by kernel_rfl) (by kernel_rfl) ?_
      · exact drop_imp ean
      refine aops_n hTT (M := []) (n := 5) [pv (95 : Nat) (V.tup [V.sl (1 : Nat) (List.length (Prod.snd (chR l false x))) fun (k : Nat) => [V.i (gi (Prod.snd (chR l false x)) k)], V.i (Prod.fst (chR l false x))]), pv (101 : Nat) (V.sl (1 : Nat) (List.length (Prod.snd (chR l false x))) fun (k : Nat) => [V.i (gi (Prod.snd (chR l false x)) k)]), pv (102 : Nat) (V.i (Prod.fst (chR l false x))), pv (16 : Nat) (V.sl (1 : Nat) (List.length (Prod.snd (chR l false x))) fun (k : Nat) => [V.i (gi (Prod.snd (chR l false x)) k)]), pv (15 : Nat) (V.i (Prod.fst (chR l false x)))] (by kernel_rfl) (by kernel_rfl) True.intro ?_
      refine aops_nil ?_
      refine xt_n ?_
      refine hK _ ?_
      clear hK K
      refine aw_seq_k fun K hK => ?_
      refine aw_seq_k fun K hK => ?_
      refine w_region (n' := 13) (by kernel_rfl) (by kernel_rfl) ?_
      refine aops_n hTT (M := []) (n := 6) [pv (103 : Nat) (V.i (Prod.fst (chR l false x))), pv (104 : Nat) (V.i (Prod.fst (chR l false x))), pv (105 : Nat) (V.b !decide (Prod.fst (chR l false x) = Prod.fst (chR l false x))), pv (106 : Nat) (V.b !decide (Prod.fst (chR l false x) = Prod.fst (chR l false x))), pc (107 : Nat) ((True ∧ True) ∧ (((!decide (Prod.fst (chR l false x) = Prod.fst (chR l false x))) == false) = true → True)) (V.gd ((!decide (Prod.fst (chR l false x) = Prod.fst (chR l false x))) == false) (V.sl (1 : Nat) (List.length (Prod.snd (chR l false x))) fun (k : Nat) => [V.i (gi (Prod.snd (chR l false x)) k)])), pc (108 : Nat) ((True ∧ True) ∧ (((!decide (Prod.fst (chR l false x) = Prod.fst (chR l false x))) == false) = true → True)) (V.gd ((!decide (Prod.fst (chR l false x) = Prod.fst (chR l false x))) == false) (V.sl (1 : Nat) (List.length (Prod.snd (chR l false x))) fun (k : Nat) => [V.i (gi (Prod.snd (chR l false x)) k)]))] (by kernel_rfl) (by kernel_rfl) ⟨⟨⟨True.intro, True.intro⟩, (fun _ => True.intro)⟩, ⟨⟨True.intro, True.intro⟩, (fun _ => True.intro)⟩, True.intro⟩ ?_
      refine e_callG 2 (g := (!decide (Prod.fst (chR l false x) = Prod.fst (chR l false x))) == false) (first := []) (caps := []) (by kernel_rfl) (fun h => refSame_ac (chR l false x).2 (chR l false x).2 chR_len chR_len) (by kernel_rfl) (by kernel_rfl) (by kernel_rfl) (by kernel_rfl) (by kernel_rfl) (by kernel_rfl) ?_
      refine aops_n hTT (M := []) (n := 2) [pc (110 : Nat) (((((!decide (Prod.fst (chR l false x) = Prod.fst (chR l false x))) == false) = true → ((!decide (Prod.fst (chR l false x) = Prod.fst (chR l false x))) == false) = true) ∧ True) ∧ (((!decide (Prod.fst (chR l false x) = Prod.fst (chR l false x))) == false) = true → True)) (V.gd ((!decide (Prod.fst (chR l false x) = Prod.fst (chR l false x))) == false) (V.b !decide (Prod.snd (chR l false x) = Prod.snd (chR l false x)))), pc (111 : Nat) (True ∧ ((!decide (Prod.fst (chR l false x) = Prod.fst (chR l false x))) = false → ((!decide (Prod.fst (chR l false x) = Prod.fst (chR l false x))) == false) = true)) (V.b (!decide (Prod.fst (chR l false x) = Prod.fst (chR l false x)) || !decide (Prod.snd (chR l false x) = Prod.snd (chR l false x))))] (by kernel_rfl) (by kernel_rfl) ⟨⟨⟨(by (exact fun h => h)), True.intro⟩, (fun _ => True.intro)⟩, ⟨True.intro, (by (intro h; rw [h]; rfl))⟩, True.intro⟩ ?_
      refine aops_nil ?_
      refine xt_n ?_
      refine hK _ ?_
      clear hK K
      refine w_cond (t := !decide (Prod.fst (chR l false x) = Prod.fst (chR l false x)) || !decide (Prod.snd (chR l false x) = Prod.snd (chR l false x))) (by kernel_rfl) (fun c4 => ?_) (fun c4 => ?_)
      · simp at c4
      refine aw_skip ?_
      refine xt_n ?_
      refine hK _ ?_
      clear hK K
      refine aw_seq_k fun K hK => ?_
      refine aw_seq_k fun K hK => ?_
      refine w_region (n' := 14) (by kernel_rfl) (by kernel_rfl) ?_
      refine aops_n hTT (M := []) (n := 2) [pv (112 : Nat) (V.i (Prod.fst (chR l false x))), pv (113 : Nat) (V.b !decide (Prod.fst (chR l false x) = (0 : Int)))] (by kernel_rfl) (by kernel_rfl) True.intro ?_
      refine aops_nil ?_
      refine xt_n ?_
      refine hK _ ?_
      clear hK K
      refine w_cond (t := !decide (Prod.fst (chR l false x) = (0 : Int))) (by kernel_rfl) (fun c5 => ?_) (fun c5 => ?_)
      · refine aw_seq_k fun K hK => ?_
        refine w_region (n' := 15) (by kernel_rfl) (by kernel_rfl) ?_
        refine aops_n hTT (M := []) (n := 3) [pv (114 : Nat) (V.i (Prod.fst (chR l false x))), pv (115 : Nat) (V.b (decide (Prod.fst (chR l false x) = (4 : Int)))), pv (116 : Nat) (V.b (decide (Prod.fst (chR l false x) = (4 : Int))))] (by kernel_rfl) (by kernel_rfl) True.intro ?_
        refine e_callG 0 (g := decide (Prod.fst (chR l false x) = (4 : Int)) == true) (first := []) (caps := []) (by kernel_rfl) (fun h => works_ac) (by kernel_rfl) (by kernel_rfl) (by kernel_rfl) (by kernel_rfl) (by kernel_rfl) (by kernel_rfl) ?_
        refine aops_n hTT (M := []) (n := 2) [pc (118 : Nat) ((decide (Prod.fst (chR l false x) = (4 : Int)) = true → (decide (Prod.fst (chR l false x) = (4 : Int)) == true) = true) ∧ True) (V.b (decide (Prod.fst (chR l false x) = (4 : Int)) && true)), pv (8 : Nat) (V.b (decide (Prod.fst (chR l false x) = (4 : Int)) && true))] (by kernel_rfl) (by kernel_rfl) ⟨⟨(by (intro h; rw [h]; rfl)), True.intro⟩, True.intro⟩ ?_
        refine aops_nil ?_
        refine xt_n ?_
        refine hK _ ?_
        clear hK K
        refine aw_ret ?_
        refine xt_r ?_
        refine ret_pure (v' := V.b (decide (Prod.fst (chR l false x) = (4 : Int)) && true)) (.inr rfl) (by kernel_rfl) ?_ (by kernel_rfl)
        cases hy : foldI false 32767 l (some x) with
        | none => rw [hy] at e0; simp [e0, eOf]
        | some y => rw [hy] at e0; simp [e0, eOf] at c5
      cases hy : foldI false 32767 l (some x) with
      | none => rw [hy] at e0; simp [e0, eOf] at c5
      | some y =>
        obtain ⟨b1, b2, b3⟩ := chR_both g1 g2 hy
        obtain ⟨d1, d2, d3⟩ := chR_both (chDrop_ok g1) su (hfo ▸ hy)
        have AU := UndoAll_ac l (chR l false x).2 hl chR_len
        rw [show chR l true (chR l false x).2 = (0, x) by rw [b1]; exact b3] at AU
        have AV := UndoAll_ac (l.drop a) (chR l false x).2 hD chR_len
        rw [show chR (l.drop a) true (chR l false x).2 = (0, u) by rw [b1]; exact d3] at AV
        have AW := UndoAll_ac (l.take a) u hT (by have := (sigE_ok.1 su).1; unfold bigL; omega)
        rw [eu] at AW
        refine aw_skip ?_
        refine xt_n ?_
        refine hK _ ?_
        clear hK K
        refine aw_seq_k fun K hK => ?_
        refine w_region (n' := 15) (by kernel_rfl) (by kernel_rfl) ?_
        refine aops_n hTT (M := []) (n := 2) [pv (120 : Nat) (V.sl (3 : Nat) (List.length l) fun (k : Nat) => [V.ints (Cv.feed (gc l k)), V.ints (Cv.back (gc l k)), V.i (Cv.share (gc l k))]), pv (121 : Nat) (V.sl (1 : Nat) (List.length (Prod.snd (chR l false x))) fun (k : Nat) => [V.i (gi (Prod.snd (chR l false x)) k)])] (by kernel_rfl) (by kernel_rfl) True.intro ?_
        refine e_call (first := []) (caps := []) (AU) (by kernel_rfl) (by kernel_rfl) (by kernel_rfl) (by kernel_rfl) (by kernel_rfl) ?_
        refine aops_n hTT (M := []) (n := 5) [pv (119 : Nat) (V.tup [V.sl (1 : Nat) (List.length x) fun (k : Nat) => [V.i (gi x k)], V.i (0 : Int)]), pv (123 : Nat) (V.sl (1 : Nat) (List.length x) fun (k : Nat) => [V.i (gi x k)]), pv (124 : Nat) (V.i (0 : Int)), pv (17 : Nat) (V.sl (1 : Nat) (List.length x) fun (k : Nat) => [V.i (gi x k)]), pv (10 : Nat) (V.i (0 : Int))] (by kernel_rfl) (by kernel_rfl) True.intro ?_
        refine aops_nil ?_
        refine xt_n ?_
        refine hK _ ?_
        clear hK K
        refine aw_seq_k fun K hK => ?_
        refine aw_seq_k fun K hK => ?_
        refine w_region (n' := 16) (by kernel_rfl) (by kernel_rfl) ?_
        refine aops_n hTT (M := []) (n := 5) [pv (125 : Nat) (V.i (0 : Int)), pv (126 : Nat) (V.b false), pv (127 : Nat) (V.b false), pc (128 : Nat) ((True ∧ True) ∧ ((false == false) = true → True)) (V.gd (false == false) (V.sl (1 : Nat) (List.length x) fun (k : Nat) => [V.i (gi x k)])), pc (129 : Nat) ((True ∧ True) ∧ ((false == false) = true → True)) (V.gd (false == false) (V.sl (1 : Nat) (List.length x) fun (k : Nat) => [V.i (gi x k)]))] (by kernel_rfl) (by kernel_rfl) ⟨⟨⟨True.intro, True.intro⟩, (fun _ => True.intro)⟩, ⟨⟨True.intro, True.intro⟩, (fun _ => True.intro)⟩, True.intro⟩ ?_
        refine e_callG 2 (g := false == false) (first := []) (caps := []) (by kernel_rfl) (fun h => refSame_ac x x hx hx) (by kernel_rfl) (by kernel_rfl) (by kernel_rfl) (by kernel_rfl) (by kernel_rfl) (by kernel_rfl) ?_
        refine aops_n hTT (M := []) (n := 2) [pc (131 : Nat) ((((false == false) = true → (false == false) = true) ∧ True) ∧ ((false == false) = true → True)) (V.gd (false == false) (V.b !decide (x = x))), pc (132 : Nat) (True ∧ (false = false → (false == false) = true)) (V.b !decide (x = x))] (by kernel_rfl) (by kernel_rfl) ⟨⟨⟨(by (exact fun h => h)), True.intro⟩, (fun _ => True.intro)⟩, ⟨True.intro, (by (intro h; rw [h]; rfl))⟩, True.intro⟩ ?_
        refine aops_nil ?_
        refine xt_n ?_
        refine hK _ ?_
        clear hK K
        refine w_cond (t := !decide (x = x)) (by kernel_rfl) (fun c6 => ?_) (fun c6 => ?_)
        · simp at c6
        refine aw_skip ?_
        refine xt_n ?_
        refine hK _ ?_
        clear hK K
        refine aw_seq_k fun K hK => ?_
        refine w_region (n' := 17) (by kernel_rfl) (by kernel_rfl) ?_
        refine aops_n hTT (M := []) (n := 4) [pv (134 : Nat) (V.sl (3 : Nat) (List.length l) fun (k : Nat) => [V.ints (Cv.feed (gc l k)), V.ints (Cv.back (gc l k)), V.i (Cv.share (gc l k))]), pv (135 : Nat) (V.i (Int.tmod at' ((↑(List.length l) : Int) + (1 : Int)))), pc (136 : Nat) ((0 : Int) ≤ Int.tmod at' ((↑(List.length l) : Int) + (1 : Int)) ∧ Int.tmod at' ((↑(List.length l) : Int) + (1 : Int)) ≤ (↑(List.length l) : Int) ∧ (↑(List.length l) : Int) ≤ (↑(List.length l) : Int)) (V.sl (3 : Nat) (List.length l - Int.toNat (Int.tmod at' ((↑(List.length l) : Int) + (1 : Int)))) fun (i : Nat) => [V.ints (Cv.feed (gc l (i + Int.toNat (Int.tmod at' ((↑(List.length l) : Int) + (1 : Int)))))), V.ints (Cv.back (gc l (i + Int.toNat (Int.tmod at' ((↑(List.length l) : Int) + (1 : Int)))))), V.i (Cv.share (gc l (i + Int.toNat (Int.tmod at' ((↑(List.length l) : Int) + (1 : Int))))))]), pv (137 : Nat) (V.sl (1 : Nat) (List.length (Prod.snd (chR l false x))) fun (k : Nat) => [V.i (gi (Prod.snd (chR l false x)) k)])] (by kernel_rfl) (by kernel_rfl) ⟨⟨(by omega), (by omega)⟩, True.intro⟩ ?_
        refine e_call (first := []) (caps := []) (AC.conv (AV) (args' := [V.sl (3 : Nat) (List.length l - Int.toNat (Int.tmod at' ((↑(List.length l) : Int) + (1 : Int)))) fun (i : Nat) => [V.ints (Cv.feed (gc l (i + Int.toNat (Int.tmod at' ((↑(List.length l) : Int) + (1 : Int)))))), V.ints (Cv.back (gc l (i + Int.toNat (Int.tmod at' ((↑(List.length l) : Int) + (1 : Int)))))), V.i (Cv.share (gc l (i + Int.toNat (Int.tmod at' ((↑(List.length l) : Int) + (1 : Int))))))], V.sl (1 : Nat) (List.length (Prod.snd (chR l false x))) fun (k : Nat) => [V.i (gi (Prod.snd (chR l false x)) k)]]) ⟨?_, RImp.refl _, trivial⟩) (by kernel_rfl) (by kernel_rfl) (by kernel_rfl) (by kernel_rfl) (by kernel_rfl) ?_
        · exact drop_imp ean
        refine aops_n hTT (M := []) (n := 5) [pv (133 : Nat) (V.tup [V.sl (1 : Nat) (List.length u) fun (k : Nat) => [V.i (gi u k)], V.i (0 : Int)]), pv (139 : Nat) (V.sl (1 : Nat) (List.length u) fun (k : Nat) => [V.i (gi u k)]), pv (140 : Nat) (V.i (0 : Int)), pv (18 : Nat) (V.sl (1 : Nat) (List.length u) fun (k : Nat) => [V.i (gi u k)]), pv (10 : Nat) (V.i (0 : Int))] (by kernel_rfl) (by kernel_rfl) True.intro ?_
        refine aops_nil ?_
        refine xt_n ?_
        refine hK _ ?_
        clear hK K
        refine aw_seq_k fun K hK => ?_
        refine w_region (n' := 18) (by kernel_rfl) (by kernel_rfl) ?_
        refine aops_n hTT (M := []) (n := 4) [pv (142 : Nat) (V.sl (3 : Nat) (List.length l) fun (k : Nat) => [V.ints (Cv.feed (gc l k)), V.ints (Cv.back (gc l k)), V.i (Cv.share (gc l k))]), pv (143 : Nat) (V.i (Int.tmod at' ((↑(List.length l) : Int) + (1 : Int)))), pc (144 : Nat) ((0 : Int) ≤ (0 : Int) ∧ (0 : Int) ≤ Int.tmod at' ((↑(List.length l) : Int) + (1 : Int)) ∧ Int.tmod at' ((↑(List.length l) : Int) + (1 : Int)) ≤ (↑(List.length l) : Int)) (V.sl (3 : Nat) (Int.toNat (Int.tmod at' ((↑(List.length l) : Int) + (1 : Int))) - (0 : Nat)) fun (i : Nat) => [V.ints (Cv.feed (gc l (i + (0 : Nat)))), V.ints (Cv.back (gc l (i + (0 : Nat)))), V.i (Cv.share (gc l (i + (0 : Nat))))]), pv (145 : Nat) (V.sl (1 : Nat) (List.length u) fun (k : Nat) => [V.i (gi u k)])] (by kernel_rfl) (by kernel_rfl) ⟨⟨(by omega), (by omega)⟩, True.intro⟩ ?_
        refine e_call (first := []) (caps := []) (AC.conv (AW) (args' := [V.sl (3 : Nat) (Int.toNat (Int.tmod at' ((↑(List.length l) : Int) + (1 : Int))) - (0 : Nat)) fun (i : Nat) => [V.ints (Cv.feed (gc l (i + (0 : Nat)))), V.ints (Cv.back (gc l (i + (0 : Nat)))), V.i (Cv.share (gc l (i + (0 : Nat))))], V.sl (1 : Nat) (List.length u) fun (k : Nat) => [V.i (gi u k)]]) ⟨?_, RImp.refl _, trivial⟩) (by kernel_rfl) (by kernel_rfl) (by kernel_rfl) (by kernel_rfl) (by kernel_rfl) ?_
        · exact take_imp ean ha2
        refine aops_n hTT (M := []) (n := 5) [pv (141 : Nat) (V.tup [V.sl (1 : Nat) (List.length x) fun (k : Nat) => [V.i (gi x k)], V.i (0 : Int)]), pv (147 : Nat) (V.sl (1 : Nat) (List.length x) fun (k : Nat) => [V.i (gi x k)]), pv (148 : Nat) (V.i (0 : Int)), pv (19 : Nat) (V.sl (1 : Nat) (List.length x) fun (k : Nat) => [V.i (gi x k)]), pv (15 : Nat) (V.i (0 : Int))] (by kernel_rfl) (by kernel_rfl) True.intro ?_
        refine aops_nil ?_
        refine xt_n ?_
        refine hK _ ?_
        clear hK K
        refine aw_seq_k fun K hK => ?_
        refine w_region (n' := 19) (by kernel_rfl) (by kernel_rfl) ?_
        refine aops_n hTT (M := []) (n := 9) [pv (149 : Nat) (V.i (0 : Int)), pv (150 : Nat) (V.b true), pv (151 : Nat) (V.b true), pc (152 : Nat) ((True ∧ True) ∧ ((true == true) = true → True)) (V.gd (true == true) (V.i (0 : Int))), pc (153 : Nat) ((((true == true) = true → (true == true) = true) ∧ True ∧ True) ∧ ((true == true) = true → True)) (V.gd (true == true) (V.b true)), pc (154 : Nat) ((true = true → (true == true) = true) ∧ True) (V.b true), pv (155 : Nat) (V.b true), pc (156 : Nat) ((True ∧ True) ∧ ((true == true) = true → True)) (V.gd (true == true) (V.sl (1 : Nat) (List.length x) fun (k : Nat) => [V.i (gi x k)])), pc (157 : Nat) ((True ∧ True) ∧ ((true == true) = true → True)) (V.gd (true == true) (V.sl (1 : Nat) (List.length x) fun (k : Nat) => [V.i (gi x k)]))] (by kernel_rfl) (by kernel_rfl) ⟨⟨⟨True.intro, True.intro⟩, (fun _ => True.intro)⟩, ⟨⟨(by (exact fun h => h)), ⟨True.intro, True.intro⟩⟩, (fun _ => True.intro)⟩, ⟨(by (exact fun h => h)), True.intro⟩, ⟨⟨True.intro, True.intro⟩, (fun _ => True.intro)⟩, ⟨⟨True.intro, True.intro⟩, (fun _ => True.intro)⟩, True.intro⟩ ?_
        refine e_callG 2 (g := true == true) (first := []) (caps := []) (by kernel_rfl) (fun h => refSame_ac x x hx hx) (by kernel_rfl) (by kernel_rfl) (by kernel_rfl) (by kernel_rfl) (by kernel_rfl) (by kernel_rfl) ?_
        refine aops_n hTT (M := []) (n := 2) [pc (159 : Nat) ((true = true → (true == true) = true) ∧ True) (V.b (decide (x = x))), pv (160 : Nat) (V.b (decide (x = x)))] (by kernel_rfl) (by kernel_rfl) ⟨⟨(by (exact fun h => h)), True.intro⟩, True.intro⟩ ?_
        refine e_callG 0 (g := decide (x = x) == true) (first := []) (caps := []) (by kernel_rfl) (fun h => works_ac) (by kernel_rfl) (by kernel_rfl) (by kernel_rfl) (by kernel_rfl) (by kernel_rfl) (by kernel_rfl) ?_
        refine aops_n hTT (M := []) (n := 2) [pc (162 : Nat) ((decide (x = x) = true → (decide (x = x) == true) = true) ∧ True) (V.b (decide (x = x) && true)), pv (8 : Nat) (V.b (decide (x = x) && true))] (by kernel_rfl) (by kernel_rfl) ⟨⟨(by (intro h; rw [h]; rfl)), True.intro⟩, True.intro⟩ ?_
        refine aops_nil ?_
        refine xt_n ?_
        refine hK _ ?_
        clear hK K
        refine aw_ret ?_
        refine ret_pure (v' := V.b (decide (x = x) && true)) (.inr rfl) (by kernel_rfl) ?_ (by kernel_rfl)
        simp
    · rw [e1] at c3
      simp [eOf] at c3
def chainedSh : List Sh := [(.sl (.fld (.sl (.int .i64)) (.fld (.sl (.int .i64)) (.lst (.int .i64))))), (.sl (.int .i64)), (.int .u8), (.int .u16)]
theorem chained_all (x : TL chainedSh) (hx : wfL chainedSh x) : AC Try.prog 8 (valL chainedSh x) (V.b true) [] := by
  obtain ⟨l, s, a, b, _⟩ := x
  obtain ⟨h1, ⟨h2, _⟩, h3, h4, _⟩ := hx
  have w3 : 0 ≤ (a : Int) ∧ (a : Int) ≤ 255 := wf_u8 h3
  have w4 : 0 ≤ (b : Int) ∧ (b : Int) ≤ 65535 := wf_u16 h4
  exact (chained_law (l.map toCv) s a b ⟨w3.1, Int.lt_of_le_of_lt w3.2 (by decide)⟩ ⟨w4.1, Int.lt_of_le_of_lt w4.2 (by decide)⟩ (cvs_wf h1) h2).conv ⟨cvs_imp l, RImp.refl _, RImp.refl _, RImp.refl _, trivial⟩
end Go.Proofs.Ytblipieipldanaa
