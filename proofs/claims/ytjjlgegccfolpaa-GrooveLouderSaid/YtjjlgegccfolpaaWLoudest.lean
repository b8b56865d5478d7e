/-
  GrooveLoudest: the walk of the law. No condition.
-/
import Derived.Test.YtjjlgegccfolpaaGA13
import Derived.Test.YtjjlgegccfolpaaMC
namespace Go.Proofs.Ytjjlgegccfolpaa
open Go.Ab Go.RowKit Go.Dw Go.Shelf

theorem wf_ptsL {l : List Pt} (h : ∀ x ∈ l, Sh.wf (.fld (.int .i64) (.lst (.int .i64))) x) : ∀ k, k < l.length → inR2 (gp l k) := fun k hk => by
  have : gp l k = l[k] := by simp [gp, List.getD_eq_getElem?_getD, List.getElem?_eq_getElem hk]
  rw [this]
  obtain ⟨h1, h2⟩ := h _ (List.getElem_mem hk)
  have q1 := wf_i64 h1
  have q2 := wf_i64 h2
  exact ⟨by simp only [inR]; omega, by simp only [inR]; omega⟩
set_option maxRecDepth 100000 in
theorem loudest_law (c : Cut) (s : List Pt) (r per : Int) (hl : s.length ≤ 4611686018427387904) (hr : ∀ k, k < s.length → inR2 (gp s k)) : AC Try.prog 12 [c.v, V.pts s, .i r, .i per] (.b true) [] := by
  refine ac_intro hTT hMX (fn := Try.f12) (N := _) ⟨Try.func12, rfl, Try.ntmps12, by kernel_rfl⟩ (by simp) fun C hC hF => ?_
  refine aw_seq_k fun K hK => ?_
  refine w_region (n' := 2) (by kernel_rfl) (by kernel_rfl) ?_
  refine aops_n hTT (M := []) (n := 2) [pv (4 : Nat) (V.ptr [V.i (Cut.half c), V.i (Cut.gain c), V.i (Cut.thin c), V.i (Cut.wide c), V.i (Cut.slope c), V.i (Cut.jerk c), V.i (Cut.sty c)]), pv (8 : Nat) (V.b false)] (by kernel_rfl) (by kernel_rfl) True.intro ?_
  refine aops_nil ?_
  refine xt_n ?_
  refine hK _ ?_
  clear hK K
  refine aw_seq_k fun K hK => ?_
  refine aw_seq_k fun K hK => ?_
  refine w_region (n' := 3) (by kernel_rfl) (by kernel_rfl) ?_
  refine aops_n hTT (M := []) (n := 2) [pv (13 : Nat) (V.sl (2 : Nat) (List.length s) fun (k : Nat) => [V.i (Prod.fst (gp s k)), V.i (Prod.snd (gp s k))]), pv (14 : Nat) (V.i (↑(List.length s) : Int))] (by kernel_rfl) (by kernel_rfl) True.intro ?_
  refine e_call (first := []) (caps := []) (gLong_ac s.length) (by kernel_rfl) (by kernel_rfl) (by kernel_rfl) (by kernel_rfl) (by kernel_rfl) ?_
  refine aops_n hTT (M := []) (n := 10) [pv (16 : Nat) (V.b (longB (List.length s))), pc (17 : Nat) ((True ∧ True) ∧ ((longB (List.length s) == false) = true → True)) (V.gd (longB (List.length s) == false) (V.sl (2 : Nat) (List.length s) fun (k : Nat) => [V.i (Prod.fst (gp s k)), V.i (Prod.snd (gp s k))])), pc (18 : Nat) ((((longB (List.length s) == false) = true → (longB (List.length s) == false) = true) ∧ True) ∧ ((longB (List.length s) == false) = true → True)) (V.gd (longB (List.length s) == false) (V.i (↑(List.length s) : Int))), pc (19 : Nat) ((((longB (List.length s) == false) = true → (longB (List.length s) == false) = true) ∧ True ∧ True) ∧ ((longB (List.length s) == false) = true → True)) (V.gd (longB (List.length s) == false) (V.b (decide ((60 : Int) < (↑(List.length s) : Int))))), pc (20 : Nat) ((((longB (List.length s) == false) = true → (longB (List.length s) == false) = true) ∧ True) ∧ ((longB (List.length s) == false) = true → True)) (V.gd (longB (List.length s) == false) (V.b (decide ((60 : Int) < (↑(List.length s) : Int))))), pc (21 : Nat) ((True ∧ True) ∧ ((longB (List.length s) == false && decide ((60 : Int) < (↑(List.length s) : Int)) == true) = true → True)) (V.gd (longB (List.length s) == false && decide ((60 : Int) < (↑(List.length s) : Int)) == true) (V.sl (2 : Nat) (List.length s) fun (k : Nat) => [V.i (Prod.fst (gp s k)), V.i (Prod.snd (gp s k))])), pc (22 : Nat) ((((longB (List.length s) == false && decide ((60 : Int) < (↑(List.length s) : Int)) == true) = true → (longB (List.length s) == false && decide ((60 : Int) < (↑(List.length s) : Int)) == true) = true) ∧ True) ∧ ((longB (List.length s) == false && decide ((60 : Int) < (↑(List.length s) : Int)) == true) = true → True)) (V.gd (longB (List.length s) == false && decide ((60 : Int) < (↑(List.length s) : Int)) == true) (V.i (↑(List.length s) : Int))), pc (23 : Nat) ((((longB (List.length s) == false && decide ((60 : Int) < (↑(List.length s) : Int)) == true) = true → (longB (List.length s) == false && decide ((60 : Int) < (↑(List.length s) : Int)) == true) = true) ∧ True ∧ True) ∧ ((longB (List.length s) == false && decide ((60 : Int) < (↑(List.length s) : Int)) == true) = true → True)) (V.gd (longB (List.length s) == false && decide ((60 : Int) < (↑(List.length s) : Int)) == true) (V.b (decide ((↑(List.length s) : Int) ≤ (4096 : Int))))), pc (24 : Nat) (((longB (List.length s) == false) = true → (longB (List.length s) == false) = true) ∧ ((longB (List.length s) == false) = true → decide ((60 : Int) < (↑(List.length s) : Int)) = true → (longB (List.length s) == false && decide ((60 : Int) < (↑(List.length s) : Int)) == true) = true) ∧ ((longB (List.length s) == false) = true → True)) (V.gd (longB (List.length s) == false) (V.b (decide ((60 : Int) < (↑(List.length s) : Int)) && decide ((↑(List.length s) : Int) ≤ (4096 : Int))))), pc (25 : Nat) (True ∧ (longB (List.length s) = false → (longB (List.length s) == false) = true)) (V.b (longB (List.length s) || decide ((60 : Int) < (↑(List.length s) : Int)) && decide ((↑(List.length s) : Int) ≤ (4096 : Int))))] (by kernel_rfl) (by kernel_rfl) ⟨⟨⟨True.intro, True.intro⟩, (fun _ => True.intro)⟩, ⟨⟨(by (exact fun h => h)), True.intro⟩, (fun _ => True.intro)⟩, ⟨⟨(by (exact fun h => h)), ⟨True.intro, True.intro⟩⟩, (fun _ => True.intro)⟩, ⟨⟨(by (exact fun h => h)), True.intro⟩, (fun _ => True.intro)⟩, ⟨⟨True.intro, True.intro⟩, (fun _ => True.intro)⟩, ⟨⟨(by (exact fun h => h)), True.intro⟩, (fun _ => True.intro)⟩, ⟨⟨(by (exact fun h => h)), ⟨True.intro, True.intro⟩⟩, (fun _ => True.intro)⟩, ⟨(by (exact fun h => h)), ⟨(by (intro h; simp_all; done)), (fun _ => True.intro)⟩⟩, ⟨True.intro, (by (intro h; rw [h]; rfl))⟩, True.intro⟩ ?_
  refine aops_nil ?_
  refine xt_n ?_
  refine hK _ ?_
  clear hK K
  refine w_cond (t := longB (List.length s) || decide ((60 : Int) < (↑(List.length s) : Int)) && decide ((↑(List.length s) : Int) ≤ (4096 : Int))) (by kernel_rfl) (fun c1 => ?_) (fun c1 => ?_)
  · refine aw_seq_k fun K hK => ?_
    refine w_region (n' := 4) (by kernel_rfl) (by kernel_rfl) ?_
    refine e_call (first := []) (caps := []) (gWorks_ac) (by kernel_rfl) (by kernel_rfl) (by kernel_rfl) (by kernel_rfl) (by kernel_rfl) ?_
    refine aops_n hTT (M := []) (n := 1) [pv (8 : Nat) (V.b true)] (by kernel_rfl) (by kernel_rfl) True.intro ?_
    refine aops_nil ?_
    refine xt_n ?_
    refine hK _ ?_
    clear hK K
    refine aw_ret ?_
    refine xt_r ?_
    refine ret_pure (v' := V.b true) (.inr rfl) (by kernel_rfl) (by kernel_rfl) (by kernel_rfl)
  refine aw_skip ?_
  refine xt_n ?_
  refine hK _ ?_
  clear hK K
  refine aw_seq_k fun K hK => ?_
  refine w_region (n' := 4) (by kernel_rfl) (by kernel_rfl) ?_
  refine aops_n hTT (M := []) (n := 4) [pv (28 : Nat) (V.agg [V.i (Cut.half c), V.i (Cut.gain c), V.i (Cut.thin c), V.i (Cut.wide c), V.i (Cut.slope c), V.i (Cut.jerk c), V.i (Cut.sty c)]), pv (29 : Nat) (V.sl (2 : Nat) (List.length s) fun (k : Nat) => [V.i (Prod.fst (gp s k)), V.i (Prod.snd (gp s k))]), pv (30 : Nat) (V.i r), pv (31 : Nat) (V.i per)] (by kernel_rfl) (by kernel_rfl) True.intro ?_
  refine e_call (first := []) (caps := []) (Loudest_ac c s r per hl) (by kernel_rfl) (by kernel_rfl) (by kernel_rfl) (by kernel_rfl) (by kernel_rfl) ?_
  refine aops_n hTT (M := []) (n := 5) [pv (27 : Nat) (V.tup [V.i (Prod.fst (loudR c s r per)), V.i (Prod.snd (loudR c s r per))]), pv (33 : Nat) (V.i (Prod.fst (loudR c s r per))), pv (34 : Nat) (V.i (Prod.snd (loudR c s r per))), pv (9 : Nat) (V.i (Prod.fst (loudR c s r per))), pv (10 : Nat) (V.i (Prod.snd (loudR c s r per)))] (by kernel_rfl) (by kernel_rfl) True.intro ?_
  refine aops_nil ?_
  refine xt_n ?_
  refine hK _ ?_
  clear hK K
  refine aw_seq_k fun K hK => ?_
  refine w_region (n' := 5) (by kernel_rfl) (by kernel_rfl) ?_
  refine aops_n hTT (M := []) (n := 4) [pv (36 : Nat) (V.agg [V.i (Cut.half c), V.i (Cut.gain c), V.i (Cut.thin c), V.i (Cut.wide c), V.i (Cut.slope c), V.i (Cut.jerk c), V.i (Cut.sty c)]), pv (37 : Nat) (V.sl (2 : Nat) (List.length s) fun (k : Nat) => [V.i (Prod.fst (gp s k)), V.i (Prod.snd (gp s k))]), pv (38 : Nat) (V.i r), pv (39 : Nat) (V.i per)] (by kernel_rfl) (by kernel_rfl) True.intro ?_
  refine e_call (first := []) (caps := []) (refLoudest_ac c s r per hl hr) (by kernel_rfl) (by kernel_rfl) (by kernel_rfl) (by kernel_rfl) (by kernel_rfl) ?_
  refine aops_n hTT (M := []) (n := 5) [pv (35 : Nat) (V.tup [V.i (Prod.fst (loudR c s r per)), V.i (Prod.snd (loudR c s r per))]), pv (41 : Nat) (V.i (Prod.fst (loudR c s r per))), pv (42 : Nat) (V.i (Prod.snd (loudR c s r per))), pv (11 : Nat) (V.i (Prod.fst (loudR c s r per))), pv (12 : Nat) (V.i (Prod.snd (loudR c s r per)))] (by kernel_rfl) (by kernel_rfl) True.intro ?_
  refine aops_nil ?_
  refine xt_n ?_
  refine hK _ ?_
  clear hK K
  refine aw_seq_k fun K hK => ?_
  refine w_region (n' := 6) (by kernel_rfl) (by kernel_rfl) ?_
  refine aops_n hTT (M := []) (n := 9) [pv (43 : Nat) (V.i (Prod.fst (loudR c s r per))), pv (44 : Nat) (V.i (Prod.fst (loudR c s r per))), pv (45 : Nat) (V.b (decide (Prod.fst (loudR c s r per) = Prod.fst (loudR c s r per)))), pv (46 : Nat) (V.b (decide (Prod.fst (loudR c s r per) = Prod.fst (loudR c s r per)))), pc (47 : Nat) ((True ∧ True) ∧ ((decide (Prod.fst (loudR c s r per) = Prod.fst (loudR c s r per)) == true) = true → True)) (V.gd (decide (Prod.fst (loudR c s r per) = Prod.fst (loudR c s r per)) == true) (V.i (Prod.snd (loudR c s r per)))), pc (48 : Nat) ((True ∧ True) ∧ ((decide (Prod.fst (loudR c s r per) = Prod.fst (loudR c s r per)) == true) = true → True)) (V.gd (decide (Prod.fst (loudR c s r per) = Prod.fst (loudR c s r per)) == true) (V.i (Prod.snd (loudR c s r per)))), pc (49 : Nat) ((((decide (Prod.fst (loudR c s r per) = Prod.fst (loudR c s r per)) == true) = true → (decide (Prod.fst (loudR c s r per) = Prod.fst (loudR c s r per)) == true) = true) ∧ ((decide (Prod.fst (loudR c s r per) = Prod.fst (loudR c s r per)) == true) = true → (decide (Prod.fst (loudR c s r per) = Prod.fst (loudR c s r per)) == true) = true) ∧ True) ∧ ((decide (Prod.fst (loudR c s r per) = Prod.fst (loudR c s r per)) == true) = true → True)) (V.gd (decide (Prod.fst (loudR c s r per) = Prod.fst (loudR c s r per)) == true) (V.b (decide (Prod.snd (loudR c s r per) = Prod.snd (loudR c s r per))))), pc (50 : Nat) ((decide (Prod.fst (loudR c s r per) = Prod.fst (loudR c s r per)) = true → (decide (Prod.fst (loudR c s r per) = Prod.fst (loudR c s r per)) == true) = true) ∧ True) (V.b (decide (Prod.fst (loudR c s r per) = Prod.fst (loudR c s r per)) && decide (Prod.snd (loudR c s r per) = Prod.snd (loudR c s r per)))), pv (51 : Nat) (V.b (decide (Prod.fst (loudR c s r per) = Prod.fst (loudR c s r per)) && decide (Prod.snd (loudR c s r per) = Prod.snd (loudR c s r per))))] (by kernel_rfl) (by kernel_rfl) ⟨⟨⟨True.intro, True.intro⟩, (fun _ => True.intro)⟩, ⟨⟨True.intro, True.intro⟩, (fun _ => True.intro)⟩, ⟨⟨(by (exact fun h => h)), ⟨(by (exact fun h => h)), True.intro⟩⟩, (fun _ => True.intro)⟩, ⟨(by (intro h; rw [h]; rfl)), True.intro⟩, True.intro⟩ ?_
  refine e_callG 0 (g := (decide (Prod.fst (loudR c s r per) = Prod.fst (loudR c s r per)) && decide (Prod.snd (loudR c s r per) = Prod.snd (loudR c s r per))) == true) (first := []) (caps := []) (by kernel_rfl) (fun h => gWorks_ac) (by kernel_rfl) (by kernel_rfl) (by kernel_rfl) (by kernel_rfl) (by kernel_rfl) (by kernel_rfl) ?_
  refine aops_n hTT (M := []) (n := 2) [pc (53 : Nat) (((decide (Prod.fst (loudR c s r per) = Prod.fst (loudR c s r per)) && decide (Prod.snd (loudR c s r per) = Prod.snd (loudR c s r per))) = true → ((decide (Prod.fst (loudR c s r per) = Prod.fst (loudR c s r per)) && decide (Prod.snd (loudR c s r per) = Prod.snd (loudR c s r per))) == true) = true) ∧ True) (V.b (decide (Prod.fst (loudR c s r per) = Prod.fst (loudR c s r per)) && decide (Prod.snd (loudR c s r per) = Prod.snd (loudR c s r per)) && true)), pv (8 : Nat) (V.b (decide (Prod.fst (loudR c s r per) = Prod.fst (loudR c s r per)) && decide (Prod.snd (loudR c s r per) = Prod.snd (loudR c s r per)) && true))] (by kernel_rfl) (by kernel_rfl) ⟨⟨(by (intro h; rw [h]; rfl)), True.intro⟩, True.intro⟩ ?_
  refine aops_nil ?_
  refine xt_n ?_
  refine hK _ ?_
  clear hK K
  refine aw_ret ?_
  refine ret_pure (v' := V.b (decide (Prod.fst (loudR c s r per) = Prod.fst (loudR c s r per)) && decide (Prod.snd (loudR c s r per) = Prod.snd (loudR c s r per)) && true)) (.inr rfl) (by kernel_rfl) ?_ (by kernel_rfl)
  simp
def loudestSh : List Sh := [(.fld (.int .i64) (.fld (.int .i64) (.fld (.int .i64) (.fld (.int .i64) (.fld (.int .i64) (.fld (.int .i64) (.lst (.int .i64)))))))), (.sl (.fld (.int .i64) (.lst (.int .i64)))), (.int .i64), (.int .i64)]
theorem loudest_all (x : TL loudestSh) (hx : wfL loudestSh x) : AC Try.prog 12 (valL loudestSh x) (V.b true) [] := by
  obtain ⟨⟨h, g, th, wi, sl, je, st⟩, s, r, per, _⟩ := x
  obtain ⟨_, ⟨h4, h5⟩, _⟩ := hx
  exact loudest_law ⟨h, g, th, wi, sl, je, st⟩ s r per h4 (wf_ptsL h5)
end Go.Proofs.Ytjjlgegccfolpaa
