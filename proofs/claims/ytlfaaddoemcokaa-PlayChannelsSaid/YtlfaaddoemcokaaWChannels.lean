/-
  PlayChannels: the walk of the law. No condition.
-/
import Derived.Test.YtlfaaddoemcokaaPAb19
import Derived.Test.YtlfaaddoemcokaaPC
import Derived.Test.YtlfaaddoemcokaaMC
namespace Go.Proofs.Ytlfaaddoemcokaa
open Go.Ab Go.RowKit Go.Dw Go.Shelf

set_option maxRecDepth 100000 in
theorem channels_ac (c : Cut) (a b x y : Int) : AC Try.prog 12 [c.v, .agg [.i a, .i b, .i x, .i y]] (.b true) [] := by
  obtain ⟨s, t, hst⟩ : ∃ s t : Fs, cutE c = 0 → s.ok c c.half x y ∧ t.ok c (-c.half) a b := by
    by_cases hc : cutE c = 0
    · obtain ⟨s, hs⟩ := fs_exists c hc c.half x y
      obtain ⟨t, ht⟩ := fs_exists c hc (-c.half) a b
      exact ⟨s, t, fun _ => ⟨hs, ht⟩⟩
    · exact ⟨⟨0, 0⟩, ⟨0, 0⟩, fun h => (hc h).elim⟩
  obtain ⟨p, q, u, v, e, hV⟩ : ∃ p q u v e, chanV c a b x y s t = .tup [.agg [.i p, .i q], .agg [.i u, .i v], .i e] := by
    unfold chanV
    split
    · split
      · exact ⟨_, _, _, _, _, rfl⟩
      · split
        · exact ⟨_, _, _, _, _, rfl⟩
        · exact ⟨_, _, _, _, _, rfl⟩
    · exact ⟨_, _, _, _, _, rfl⟩
  have H1 := Channels_ac c a b x y s t hst
  have H2 := refChannels_ac c a b x y s t hst
  rw [hV] at H1 H2
  refine ac_intro hTT hMX (fn := Try.f12) (N := _) ⟨Try.func12, rfl, Try.ntmps12, by kernel_rfl⟩ (by simp) fun C hC hF => ?_
  refine aw_seq_k fun K hK => ?_
  refine w_region (n' := 2) (by kernel_rfl) (by kernel_rfl) ?_
  refine aops_n hTT (M := []) (n := 3) [pv (2 : Nat) (V.ptr [V.i (Cut.half c), V.i (Cut.gain c), V.i (Cut.thin c), V.i (Cut.wide c), V.i (Cut.slope c), V.i (Cut.jerk c), V.i (Cut.sty c)]), pv (3 : Nat) (V.ptr [V.i a, V.i b, V.i x, V.i y]), pv (4 : Nat) (V.b false)] (by kernel_rfl) (by kernel_rfl) True.intro ?_
  refine aops_nil ?_
  refine xt_n ?_
  refine hK _ ?_
  clear hK K
  refine aw_seq_k fun K hK => ?_
  refine w_region (n' := 3) (by kernel_rfl) (by kernel_rfl) ?_
  refine aops_n hTT (M := []) (n := 2) [pv (12 : Nat) (V.agg [V.i (Cut.half c), V.i (Cut.gain c), V.i (Cut.thin c), V.i (Cut.wide c), V.i (Cut.slope c), V.i (Cut.jerk c), V.i (Cut.sty c)]), pv (13 : Nat) (V.agg [V.i a, V.i b, V.i x, V.i y])] (by kernel_rfl) (by kernel_rfl) True.intro ?_
  refine e_call (first := []) (caps := []) (H1) (by kernel_rfl) (by kernel_rfl) (by kernel_rfl) (by kernel_rfl) (by kernel_rfl) ?_
  refine aops_n hTT (M := []) (n := 9) [pv (11 : Nat) (V.tup [V.agg [V.i p, V.i q], V.agg [V.i u, V.i v], V.i e]), pv (15 : Nat) (V.agg [V.i p, V.i q]), pv (16 : Nat) (V.agg [V.i u, V.i v]), pv (17 : Nat) (V.i e), pn (5 : Nat) (V.ref (200005 : Nat) (0 : Nat)) (200005 : Nat) (Ob.box (70 : Nat) [V.i (0 : Int), V.i (0 : Int)]), pn (6 : Nat) (V.ref (200006 : Nat) (0 : Nat)) (200006 : Nat) (Ob.box (70 : Nat) [V.i (0 : Int), V.i (0 : Int)]), pw ((0 : Nat) + (2 : Nat) ≤ (2 : Nat)) (200005 : Nat) (Ob.box (70 : Nat) [V.i p, V.i q]), pw ((0 : Nat) + (2 : Nat) ≤ (2 : Nat)) (200006 : Nat) (Ob.box (70 : Nat) [V.i u, V.i v]), pv (7 : Nat) (V.i e)] (by kernel_rfl) (by kernel_rfl) ⟨(by omega), (by omega), True.intro⟩ ?_
  refine aops_nil ?_
  refine xt_n ?_
  refine hK _ ?_
  clear hK K
  refine aw_seq_k fun K hK => ?_
  refine w_region (n' := 4) (by kernel_rfl) (by kernel_rfl) ?_
  refine aops_n hTT (M := []) (n := 2) [pv (19 : Nat) (V.agg [V.i (Cut.half c), V.i (Cut.gain c), V.i (Cut.thin c), V.i (Cut.wide c), V.i (Cut.slope c), V.i (Cut.jerk c), V.i (Cut.sty c)]), pv (20 : Nat) (V.agg [V.i a, V.i b, V.i x, V.i y])] (by kernel_rfl) (by kernel_rfl) True.intro ?_
  refine e_call (first := []) (caps := []) (H2) (by kernel_rfl) (by kernel_rfl) (by kernel_rfl) (by kernel_rfl) (by kernel_rfl) ?_
  refine aops_n hTT (M := []) (n := 9) [pv (18 : Nat) (V.tup [V.agg [V.i p, V.i q], V.agg [V.i u, V.i v], V.i e]), pv (22 : Nat) (V.agg [V.i p, V.i q]), pv (23 : Nat) (V.agg [V.i u, V.i v]), pv (24 : Nat) (V.i e), pn (8 : Nat) (V.ref (300008 : Nat) (0 : Nat)) (300008 : Nat) (Ob.box (70 : Nat) [V.i (0 : Int), V.i (0 : Int)]), pn (9 : Nat) (V.ref (300009 : Nat) (0 : Nat)) (300009 : Nat) (Ob.box (70 : Nat) [V.i (0 : Int), V.i (0 : Int)]), pw ((0 : Nat) + (2 : Nat) ≤ (2 : Nat)) (300008 : Nat) (Ob.box (70 : Nat) [V.i p, V.i q]), pw ((0 : Nat) + (2 : Nat) ≤ (2 : Nat)) (300009 : Nat) (Ob.box (70 : Nat) [V.i u, V.i v]), pv (10 : Nat) (V.i e)] (by kernel_rfl) (by kernel_rfl) ⟨(by omega), (by omega), True.intro⟩ ?_
  refine aops_nil ?_
  refine xt_n ?_
  refine hK _ ?_
  clear hK K
  refine aw_seq_k fun K hK => ?_
  refine w_region (n' := 5) (by kernel_rfl) (by kernel_rfl) ?_
  refine aops_n hTT (M := []) (n := 14) [pc (25 : Nat) ((0 : Nat) ≤ (2 : Nat)) (V.agg [V.i p, V.i q]), pc (26 : Nat) ((0 : Nat) ≤ (2 : Nat)) (V.agg [V.i p, V.i q]), pv (27 : Nat) (V.b (decide (p = p) && (decide (q = q) && true))), pv (28 : Nat) (V.b (decide (p = p) && (decide (q = q) && true))), pc (29 : Nat) ((True ∧ True) ∧ (((decide (p = p) && (decide (q = q) && true)) == true) = true → (0 : Nat) ≤ (2 : Nat))) (V.gd ((decide (p = p) && (decide (q = q) && true)) == true) (V.agg [V.i u, V.i v])), pc (30 : Nat) ((True ∧ True) ∧ (((decide (p = p) && (decide (q = q) && true)) == true) = true → (0 : Nat) ≤ (2 : Nat))) (V.gd ((decide (p = p) && (decide (q = q) && true)) == true) (V.agg [V.i u, V.i v])), pc (31 : Nat) (((((decide (p = p) && (decide (q = q) && true)) == true) = true → ((decide (p = p) && (decide (q = q) && true)) == true) = true) ∧ (((decide (p = p) && (decide (q = q) && true)) == true) = true → ((decide (p = p) && (decide (q = q) && true)) == true) = true) ∧ True) ∧ (((decide (p = p) && (decide (q = q) && true)) == true) = true → True)) (V.gd ((decide (p = p) && (decide (q = q) && true)) == true) (V.b (decide (u = u) && (decide (v = v) && true)))), pc (32 : Nat) (((decide (p = p) && (decide (q = q) && true)) = true → ((decide (p = p) && (decide (q = q) && true)) == true) = true) ∧ True) (V.b (decide (p = p) && (decide (q = q) && true) && (decide (u = u) && (decide (v = v) && true)))), pv (33 : Nat) (V.b (decide (p = p) && (decide (q = q) && true) && (decide (u = u) && (decide (v = v) && true)))), pc (34 : Nat) ((True ∧ True) ∧ (((decide (p = p) && (decide (q = q) && true) && (decide (u = u) && (decide (v = v) && true))) == true) = true → True)) (V.gd ((decide (p = p) && (decide (q = q) && true) && (decide (u = u) && (decide (v = v) && true))) == true) (V.i e)), pc (35 : Nat) ((True ∧ True) ∧ (((decide (p = p) && (decide (q = q) && true) && (decide (u = u) && (decide (v = v) && true))) == true) = true → True)) (V.gd ((decide (p = p) && (decide (q = q) && true) && (decide (u = u) && (decide (v = v) && true))) == true) (V.i e)), pc (36 : Nat) (((((decide (p = p) && (decide (q = q) && true) && (decide (u = u) && (decide (v = v) && true))) == true) = true → ((decide (p = p) && (decide (q = q) && true) && (decide (u = u) && (decide (v = v) && true))) == true) = true) ∧ (((decide (p = p) && (decide (q = q) && true) && (decide (u = u) && (decide (v = v) && true))) == true) = true → ((decide (p = p) && (decide (q = q) && true) && (decide (u = u) && (decide (v = v) && true))) == true) = true) ∧ True) ∧ (((decide (p = p) && (decide (q = q) && true) && (decide (u = u) && (decide (v = v) && true))) == true) = true → True)) (V.gd ((decide (p = p) && (decide (q = q) && true) && (decide (u = u) && (decide (v = v) && true))) == true) (V.b (decide (e = e)))), pc (37 : Nat) (((decide (p = p) && (decide (q = q) && true) && (decide (u = u) && (decide (v = v) && true))) = true → ((decide (p = p) && (decide (q = q) && true) && (decide (u = u) && (decide (v = v) && true))) == true) = true) ∧ True) (V.b (decide (p = p) && (decide (q = q) && true) && (decide (u = u) && (decide (v = v) && true)) && decide (e = e))), pv (38 : Nat) (V.b (decide (p = p) && (decide (q = q) && true) && (decide (u = u) && (decide (v = v) && true)) && decide (e = e)))] (by kernel_rfl) (by kernel_rfl) ⟨(by omega), (by omega), ⟨⟨True.intro, True.intro⟩, (by (simp only [inR]; omega))⟩, ⟨⟨True.intro, True.intro⟩, (by (simp only [inR]; omega))⟩, ⟨⟨(by (exact fun h => h)), ⟨(by (exact fun h => h)), True.intro⟩⟩, (fun _ => True.intro)⟩, ⟨(by (intro h; rw [h]; rfl)), True.intro⟩, ⟨⟨True.intro, True.intro⟩, (fun _ => True.intro)⟩, ⟨⟨True.intro, True.intro⟩, (fun _ => True.intro)⟩, ⟨⟨(by (exact fun h => h)), ⟨(by (exact fun h => h)), True.intro⟩⟩, (fun _ => True.intro)⟩, ⟨(by (intro h; rw [h]; rfl)), True.intro⟩, True.intro⟩ ?_
  refine e_callG 0 (g := (decide (p = p) && (decide (q = q) && true) && (decide (u = u) && (decide (v = v) && true)) && decide (e = e)) == true) (first := []) (caps := []) (by kernel_rfl) (fun _ => works_ac) (by kernel_rfl) (by kernel_rfl) (by kernel_rfl) (by kernel_rfl) (by kernel_rfl) (by kernel_rfl) ?_
  refine aops_n hTT (M := []) (n := 2) [pc (40 : Nat) (((decide (p = p) && (decide (q = q) && true) && (decide (u = u) && (decide (v = v) && true)) && decide (e = e)) = true → ((decide (p = p) && (decide (q = q) && true) && (decide (u = u) && (decide (v = v) && true)) && decide (e = e)) == true) = true) ∧ True) (V.b (decide (p = p) && (decide (q = q) && true) && (decide (u = u) && (decide (v = v) && true)) && decide (e = e) && true)), pv (4 : Nat) (V.b (decide (p = p) && (decide (q = q) && true) && (decide (u = u) && (decide (v = v) && true)) && decide (e = e) && true))] (by kernel_rfl) (by kernel_rfl) ⟨⟨(by (intro h; rw [h]; rfl)), True.intro⟩, True.intro⟩ ?_
  refine aops_nil ?_
  refine xt_n ?_
  refine hK _ ?_
  clear hK K
  refine aw_ret ?_
  refine ret_pure (v' := V.b (decide (p = p) && (decide (q = q) && true) && (decide (u = u) && (decide (v = v) && true)) && decide (e = e) && true)) (.inr rfl) (by kernel_rfl) ?_ (by kernel_rfl)
  simp
def channelsSh : List Sh := [(.fld (.int .i64) (.fld (.int .i64) (.fld (.int .i64) (.fld (.int .i64) (.fld (.int .i64) (.fld (.int .i64) (.lst (.int .i64)))))))), (.fld (.fld (.int .i64) (.lst (.int .i64))) (.lst (.fld (.int .i64) (.lst (.int .i64)))))]
theorem channels_all (x : TL channelsSh) (_ : wfL channelsSh x) : AC Try.prog 12 (valL channelsSh x) (V.b true) [] := by
  obtain ⟨⟨h, g, th, wi, sl, je, st⟩, ⟨⟨a, b⟩, ⟨p, q⟩⟩, _⟩ := x
  exact channels_ac ⟨h, g, th, wi, sl, je, st⟩ a b p q
end Go.Proofs.Ytlfaaddoemcokaa
