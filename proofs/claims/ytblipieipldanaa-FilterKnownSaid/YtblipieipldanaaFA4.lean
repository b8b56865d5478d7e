/-
  A curve applied: steps, and each element in turn. Conditions: told in each theorem.
-/
import Derived.Test.YtblipieipldanaaFA3
namespace Go.Proofs.Ytblipieipldanaa
open Go.Ab Go.RowKit Go.Dw Go.Shelf

abbrev St (c : Cv) (hy hx : List Int) (m : Nat) : Ob := StO c hy hx m m
set_option maxRecDepth 100000 in
theorem correction_ac (c : Cv) (hy hx : List Int) (m : Nat) (n : Int) (hc : cvOk c) (hm : m < 8) (hn : 0 ≤ n ∧ n ≤ 131072) (h1 : AllLe n hx) (h2 : AllLe n hy) : AM Try.prog 106 [.ref 500 0] [St c hy hx m] (.i (corr c hx hy)) [some (St c hy hx m)] [] := by
  have b := corr_bd hc hn.1 h1 h2
  obtain ⟨l1, l2, a1, a2, s1, s2⟩ := hc
  refine am_intro hTT hMX (fn := Try.f106) (N := _) ⟨Try.func106, rfl, Try.ntmps106, by kernel_rfl⟩ (by simp) rfl (by simp) (by simp) fun C hF => ?_
  refine aw_seq_k fun K hK => ?_
  refine w_region (n' := 2) (by kernel_rfl) (by kernel_rfl) ?_
  refine aops_n hTT (M := []) (n := 1) [pv (2 : Nat) (V.i (0 : Int))] (by kernel_rfl) (by kernel_rfl) True.intro ?_
  refine aops_nil ?_
  refine xt_n ?_
  refine hK _ ?_
  clear hK K
  refine aw_seq_k fun K hK => ?_
  refine w_regionD (n' := 3) (by kernel_rfl) (by kernel_rfl) ?_
  refine aops_n hTT (M := []) (n := 8) [pv (3 : Nat) (V.ref (500 : Nat) (0 : Nat)), pv (4 : Nat) (V.ref (500 : Nat) (0 : Nat)), pv (5 : Nat) (V.ref (500 : Nat) (9 : Nat)), pv (6 : Nat) (V.ref (500 : Nat) (0 : Nat)), pv (7 : Nat) (V.ref (500 : Nat) (0 : Nat)), pv (8 : Nat) (V.ref (500 : Nat) (18 : Nat)), pv (9 : Nat) (V.ref (500 : Nat) (18 : Nat)), pc (10 : Nat) ((18 : Nat) ≤ (21 : Nat)) (V.sl (1 : Nat) (List.length (Cv.feed c)) fun (k : Nat) => [V.i (gi (Cv.feed c) k)])] (by kernel_rfl) (by kernel_rfl) ⟨(by omega), True.intro⟩ ?_
  refine aops_callR [500] (first := []) (caps := []) (ins' := [Ob.box (113 : Nat) [V.i (gi hy ((m + (7 : Nat)) % (8 : Nat))), V.i (gi hy ((m + (6 : Nat)) % (8 : Nat))), V.i (gi hy ((m + (5 : Nat)) % (8 : Nat))), V.i (gi hy ((m + (4 : Nat)) % (8 : Nat))), V.i (gi hy ((m + (3 : Nat)) % (8 : Nat))), V.i (gi hy ((m + (2 : Nat)) % (8 : Nat))), V.i (gi hy ((m + (1 : Nat)) % (8 : Nat))), V.i (gi hy (m % (8 : Nat))), V.i (↑m : Int), V.i (gi hx ((m + (7 : Nat)) % (8 : Nat))), V.i (gi hx ((m + (6 : Nat)) % (8 : Nat))), V.i (gi hx ((m + (5 : Nat)) % (8 : Nat))), V.i (gi hx ((m + (4 : Nat)) % (8 : Nat))), V.i (gi hx ((m + (3 : Nat)) % (8 : Nat))), V.i (gi hx ((m + (2 : Nat)) % (8 : Nat))), V.i (gi hx ((m + (1 : Nat)) % (8 : Nat))), V.i (gi hx (m % (8 : Nat))), V.i (↑m : Int), V.sl (1 : Nat) (List.length (Cv.feed c)) fun (k : Nat) => [V.i (gi (Cv.feed c) k)], V.sl (1 : Nat) (List.length (Cv.back c)) fun (k : Nat) => [V.i (gi (Cv.back c) k)], V.i (Cv.share c)]]) (v' := V.i (dot (Cv.feed c) hx (List.length (Cv.feed c)))) (δ := []) (kp := [500]) (weighI_ac c hy hx m m c.feed n hm a1 l1 hn h1) (by kernel_rfl) (by kernel_rfl) (by kernel_rfl) (by kernel_rfl) (by kernel_rfl) (by kernel_rfl) (by kernel_rfl) rfl (by kernel_rfl) (by kernel_rfl) ⟨(by kernel_rfl), True.intro⟩ (by kernel_rfl) (by kernel_rfl) (by kernel_rfl) ?_
  refine aops_n hTT (M := []) (n := 8) [pv (12 : Nat) (V.ref (500 : Nat) (0 : Nat)), pv (13 : Nat) (V.ref (500 : Nat) (0 : Nat)), pv (14 : Nat) (V.ref (500 : Nat) (0 : Nat)), pv (15 : Nat) (V.ref (500 : Nat) (0 : Nat)), pv (16 : Nat) (V.ref (500 : Nat) (0 : Nat)), pv (17 : Nat) (V.ref (500 : Nat) (18 : Nat)), pv (18 : Nat) (V.ref (500 : Nat) (19 : Nat)), pc (19 : Nat) ((19 : Nat) ≤ (21 : Nat)) (V.sl (1 : Nat) (List.length (Cv.back c)) fun (k : Nat) => [V.i (gi (Cv.back c) k)])] (by kernel_rfl) (by kernel_rfl) ⟨(by omega), True.intro⟩ ?_
  refine aops_callR [500] (first := []) (caps := []) (ins' := [Ob.box (113 : Nat) [V.i (gi hy ((m + (7 : Nat)) % (8 : Nat))), V.i (gi hy ((m + (6 : Nat)) % (8 : Nat))), V.i (gi hy ((m + (5 : Nat)) % (8 : Nat))), V.i (gi hy ((m + (4 : Nat)) % (8 : Nat))), V.i (gi hy ((m + (3 : Nat)) % (8 : Nat))), V.i (gi hy ((m + (2 : Nat)) % (8 : Nat))), V.i (gi hy ((m + (1 : Nat)) % (8 : Nat))), V.i (gi hy (m % (8 : Nat))), V.i (↑m : Int), V.i (gi hx ((m + (7 : Nat)) % (8 : Nat))), V.i (gi hx ((m + (6 : Nat)) % (8 : Nat))), V.i (gi hx ((m + (5 : Nat)) % (8 : Nat))), V.i (gi hx ((m + (4 : Nat)) % (8 : Nat))), V.i (gi hx ((m + (3 : Nat)) % (8 : Nat))), V.i (gi hx ((m + (2 : Nat)) % (8 : Nat))), V.i (gi hx ((m + (1 : Nat)) % (8 : Nat))), V.i (gi hx (m % (8 : Nat))), V.i (↑m : Int), V.sl (1 : Nat) (List.length (Cv.feed c)) fun (k : Nat) => [V.i (gi (Cv.feed c) k)], V.sl (1 : Nat) (List.length (Cv.back c)) fun (k : Nat) => [V.i (gi (Cv.back c) k)], V.i (Cv.share c)]]) (v' := V.i (dot (Cv.back c) hy (List.length (Cv.back c)))) (δ := []) (kp := [500]) (weighO_ac c hy hx m m c.back n hm a2 l2 hn h2) (by kernel_rfl) (by kernel_rfl) (by kernel_rfl) (by kernel_rfl) (by kernel_rfl) (by kernel_rfl) (by kernel_rfl) rfl (by kernel_rfl) (by kernel_rfl) ⟨(by kernel_rfl), True.intro⟩ (by kernel_rfl) (by kernel_rfl) (by kernel_rfl) ?_
  refine aops_n hTT (M := []) (n := 6) [pc (21 : Nat) ((-9223372036854775808 : Int) ≤ dot (Cv.feed c) hx (List.length (Cv.feed c)) + dot (Cv.back c) hy (List.length (Cv.back c)) ∧ dot (Cv.feed c) hx (List.length (Cv.feed c)) + dot (Cv.back c) hy (List.length (Cv.back c)) ≤ (9223372036854775807 : Int)) (V.i (dot (Cv.feed c) hx (List.length (Cv.feed c)) + dot (Cv.back c) hy (List.length (Cv.back c)))), pv (22 : Nat) (V.ref (500 : Nat) (0 : Nat)), pv (23 : Nat) (V.ref (500 : Nat) (0 : Nat)), pv (24 : Nat) (V.ref (500 : Nat) (18 : Nat)), pv (25 : Nat) (V.ref (500 : Nat) (20 : Nat)), pc (26 : Nat) ((20 : Nat) ≤ (21 : Nat)) (V.i (Cv.share c))] (by kernel_rfl) (by kernel_rfl) ⟨(by omega), (by omega), True.intro⟩ ?_
  refine e_call (first := []) (caps := []) (down_ac (dot c.feed hx c.feed.length + dot c.back hy c.back.length) c.share (by omega) s1) (by kernel_rfl) (by kernel_rfl) (by kernel_rfl) (by kernel_rfl) (by kernel_rfl) ?_
  refine aops_n hTT (M := []) (n := 1) [pv (2 : Nat) (V.i ((dot (Cv.feed c) hx (List.length (Cv.feed c)) + dot (Cv.back c) hy (List.length (Cv.back c))) / Cv.share c))] (by kernel_rfl) (by kernel_rfl) True.intro ?_
  refine aops_nil ⟨by kernel_rfl, ?_⟩
  refine xt_n ?_
  refine hK _ ?_
  clear hK K
  refine aw_ret ?_
  refine retM (v' := V.i ((dot (Cv.feed c) hx (List.length (Cv.feed c)) + dot (Cv.back c) hy (List.length (Cv.back c))) / Cv.share c)) [] [(2, V.i ((dot (Cv.feed c) hx (List.length (Cv.feed c)) + dot (Cv.back c) hy (List.length (Cv.back c))) / Cv.share c))] (.inr rfl) (.cons (by kernel_rfl) .nil) (.cons ⟨Ob.box (113 : Nat) [V.i (gi hy ((m + (7 : Nat)) % (8 : Nat))), V.i (gi hy ((m + (6 : Nat)) % (8 : Nat))), V.i (gi hy ((m + (5 : Nat)) % (8 : Nat))), V.i (gi hy ((m + (4 : Nat)) % (8 : Nat))), V.i (gi hy ((m + (3 : Nat)) % (8 : Nat))), V.i (gi hy ((m + (2 : Nat)) % (8 : Nat))), V.i (gi hy ((m + (1 : Nat)) % (8 : Nat))), V.i (gi hy (m % (8 : Nat))), V.i (↑m : Int), V.i (gi hx ((m + (7 : Nat)) % (8 : Nat))), V.i (gi hx ((m + (6 : Nat)) % (8 : Nat))), V.i (gi hx ((m + (5 : Nat)) % (8 : Nat))), V.i (gi hx ((m + (4 : Nat)) % (8 : Nat))), V.i (gi hx ((m + (3 : Nat)) % (8 : Nat))), V.i (gi hx ((m + (2 : Nat)) % (8 : Nat))), V.i (gi hx ((m + (1 : Nat)) % (8 : Nat))), V.i (gi hx (m % (8 : Nat))), V.i (↑m : Int), V.sl (1 : Nat) (List.length (Cv.feed c)) fun (k : Nat) => [V.i (gi (Cv.feed c) k)], V.sl (1 : Nat) (List.length (Cv.back c)) fun (k : Nat) => [V.i (gi (Cv.back c) k)], V.i (Cv.share c)], (by kernel_rfl), .box (by kernel_rfl)⟩ .nil) (by kernel_rfl) (by kernel_rfl) (by kernel_rfl) (by kernel_rfl) (by kernel_rfl) (by kernel_rfl) (by kernel_rfl)
abbrev PB (k : Nat) : Ob := .box 108 [.ref k 0]
set_option maxRecDepth 100000 in
theorem step1_ac (c : Cv) (u : Bool) (hy hx : List Int) (m : Nat) (n g : Int) (hc : cvOk c) (hm : m < 8) (hn : 0 ≤ n ∧ n ≤ 131072) (h1 : AllLe n hx) (h2 : AllLe n hy) (hg : -n ≤ g ∧ g ≤ n) :
    AM Try.prog 105 [.i g, .ptr [.b u], .ref 500 0] [PB 501, St c hy hx m] (.i (if u then g - corr c hx hy else g + corr c hx hy)) [some (PB 501), some (St c ((if u then g else g + corr c hx hy) :: hy) ((if u then g - corr c hx hy else g) :: hx) ((m + 1) % 8))] [] := by
  have b := corr_bd hc hn.1 h1 h2
  refine am_intro hTT hMX (fn := Try.f105) (N := _) ⟨Try.func105, rfl, Try.ntmps105, by kernel_rfl⟩ (by simp) rfl (by simp) (by simp) fun C hF => ?_
  refine aw_seq_k fun K hK => ?_
  refine w_region (n' := 2) (by kernel_rfl) (by kernel_rfl) ?_
  refine aops_n hTT (M := []) (n := 1) [pv (4 : Nat) (V.i (0 : Int))] (by kernel_rfl) (by kernel_rfl) True.intro ?_
  refine aops_nil ?_
  refine xt_n ?_
  refine hK _ ?_
  clear hK K
  refine aw_seq_k fun K hK => ?_
  refine w_region (n' := 3) (by kernel_rfl) (by kernel_rfl) ?_
  refine aops_n hTT (M := []) (n := 4) [pv (7 : Nat) (V.i g), pv (8 : Nat) (V.i g), pv (5 : Nat) (V.i g), pv (6 : Nat) (V.i g)] (by kernel_rfl) (by kernel_rfl) True.intro ?_
  refine aops_nil ?_
  refine xt_n ?_
  refine hK _ ?_
  clear hK K
  refine aw_seq_k fun K hK => ?_
  refine aw_seq_k fun K hK => ?_
  refine w_region (n' := 4) (by kernel_rfl) (by kernel_rfl) ?_
  refine aops_n hTT (M := []) (n := 1) [pv (9 : Nat) (V.b u)] (by kernel_rfl) (by kernel_rfl) True.intro ?_
  refine aops_nil ?_
  refine xt_n ?_
  refine hK _ ?_
  clear hK K
  refine w_cond (t := u) (by kernel_rfl) (fun c1 => ?_) (fun c1 => ?_)
  · subst c1
    refine aw_seq_k fun K hK => ?_
    refine w_region (n' := 5) (by kernel_rfl) (by kernel_rfl) ?_
    refine aops_n hTT (M := []) (n := 2) [pv (10 : Nat) (V.i g), pc (11 : Nat) ((0 : Nat) ≤ (1 : Nat)) (V.ref (501 : Nat) (0 : Nat))] (by kernel_rfl) (by kernel_rfl) ⟨(by omega), True.intro⟩ ?_
    refine aops_callR [501] (first := []) (caps := []) (ins' := [Ob.box (113 : Nat) [V.i (gi hy ((m + (7 : Nat)) % (8 : Nat))), V.i (gi hy ((m + (6 : Nat)) % (8 : Nat))), V.i (gi hy ((m + (5 : Nat)) % (8 : Nat))), V.i (gi hy ((m + (4 : Nat)) % (8 : Nat))), V.i (gi hy ((m + (3 : Nat)) % (8 : Nat))), V.i (gi hy ((m + (2 : Nat)) % (8 : Nat))), V.i (gi hy ((m + (1 : Nat)) % (8 : Nat))), V.i (gi hy (m % (8 : Nat))), V.i (↑m : Int), V.i (gi hx ((m + (7 : Nat)) % (8 : Nat))), V.i (gi hx ((m + (6 : Nat)) % (8 : Nat))), V.i (gi hx ((m + (5 : Nat)) % (8 : Nat))), V.i (gi hx ((m + (4 : Nat)) % (8 : Nat))), V.i (gi hx ((m + (3 : Nat)) % (8 : Nat))), V.i (gi hx ((m + (2 : Nat)) % (8 : Nat))), V.i (gi hx ((m + (1 : Nat)) % (8 : Nat))), V.i (gi hx (m % (8 : Nat))), V.i (↑m : Int), V.sl (1 : Nat) (List.length (Cv.feed c)) fun (k : Nat) => [V.i (gi (Cv.feed c) k)], V.sl (1 : Nat) (List.length (Cv.back c)) fun (k : Nat) => [V.i (gi (Cv.back c) k)], V.i (Cv.share c)]]) (v' := V.i (corr c hx hy)) (δ := []) (kp := [501]) (correction_ac c hy hx m n hc hm hn h1 h2) (by kernel_rfl) (by kernel_rfl) (by kernel_rfl) (by kernel_rfl) (by kernel_rfl) (by kernel_rfl) (by kernel_rfl) rfl (by kernel_rfl) (by kernel_rfl) ⟨(by kernel_rfl), True.intro⟩ (by kernel_rfl) (by kernel_rfl) (by kernel_rfl) ?_
    refine aops_n hTT (M := []) (n := 2) [pc (13 : Nat) ((-9223372036854775808 : Int) ≤ g - corr c hx hy ∧ g - corr c hx hy ≤ (9223372036854775807 : Int)) (V.i (g - corr c hx hy)), pv (5 : Nat) (V.i (g - corr c hx hy))] (by kernel_rfl) (by kernel_rfl) ⟨(by omega), True.intro⟩ ?_
    refine aops_nil ?_
    refine xt_n ?_
    refine hK _ ?_
    clear hK K
    refine aw_seq_k fun K hK => ?_
    refine w_region (n' := 6) (by kernel_rfl) (by kernel_rfl) ?_
    refine aops_n hTT (M := []) (n := 4) [pc (14 : Nat) ((0 : Nat) ≤ (1 : Nat)) (V.ref (501 : Nat) (0 : Nat)), pv (15 : Nat) (V.ref (501 : Nat) (0 : Nat)), pv (16 : Nat) (V.ref (501 : Nat) (9 : Nat)), pv (17 : Nat) (V.i (g - corr c hx hy))] (by kernel_rfl) (by kernel_rfl) ⟨(by omega), True.intro⟩ ?_
    refine aops_callM [501] (first := []) (caps := []) (ins' := [Ob.box (113 : Nat) [V.i (gi hy ((m + (7 : Nat)) % (8 : Nat))), V.i (gi hy ((m + (6 : Nat)) % (8 : Nat))), V.i (gi hy ((m + (5 : Nat)) % (8 : Nat))), V.i (gi hy ((m + (4 : Nat)) % (8 : Nat))), V.i (gi hy ((m + (3 : Nat)) % (8 : Nat))), V.i (gi hy ((m + (2 : Nat)) % (8 : Nat))), V.i (gi hy ((m + (1 : Nat)) % (8 : Nat))), V.i (gi hy (m % (8 : Nat))), V.i (↑m : Int), V.i (gi hx ((m + (7 : Nat)) % (8 : Nat))), V.i (gi hx ((m + (6 : Nat)) % (8 : Nat))), V.i (gi hx ((m + (5 : Nat)) % (8 : Nat))), V.i (gi hx ((m + (4 : Nat)) % (8 : Nat))), V.i (gi hx ((m + (3 : Nat)) % (8 : Nat))), V.i (gi hx ((m + (2 : Nat)) % (8 : Nat))), V.i (gi hx ((m + (1 : Nat)) % (8 : Nat))), V.i (gi hx (m % (8 : Nat))), V.i (↑m : Int), V.sl (1 : Nat) (List.length (Cv.feed c)) fun (k : Nat) => [V.i (gi (Cv.feed c) k)], V.sl (1 : Nat) (List.length (Cv.back c)) fun (k : Nat) => [V.i (gi (Cv.back c) k)], V.i (Cv.share c)]]) (v' := V.tup []) (δ := [(501, Option.some (Ob.box (113 : Nat) [V.i (gi hy ((m + (7 : Nat)) % (8 : Nat))), V.i (gi hy ((m + (6 : Nat)) % (8 : Nat))), V.i (gi hy ((m + (5 : Nat)) % (8 : Nat))), V.i (gi hy ((m + (4 : Nat)) % (8 : Nat))), V.i (gi hy ((m + (3 : Nat)) % (8 : Nat))), V.i (gi hy ((m + (2 : Nat)) % (8 : Nat))), V.i (gi hy ((m + (1 : Nat)) % (8 : Nat))), V.i (gi hy (m % (8 : Nat))), V.i (↑m : Int), V.i (gi ((g - corr c hx hy) :: hx) (((m + (1 : Nat)) % (8 : Nat) + (7 : Nat)) % (8 : Nat))), V.i (gi ((g - corr c hx hy) :: hx) (((m + (1 : Nat)) % (8 : Nat) + (6 : Nat)) % (8 : Nat))), V.i (gi ((g - corr c hx hy) :: hx) (((m + (1 : Nat)) % (8 : Nat) + (5 : Nat)) % (8 : Nat))), V.i (gi ((g - corr c hx hy) :: hx) (((m + (1 : Nat)) % (8 : Nat) + (4 : Nat)) % (8 : Nat))), V.i (gi ((g - corr c hx hy) :: hx) (((m + (1 : Nat)) % (8 : Nat) + (3 : Nat)) % (8 : Nat))), V.i (gi ((g - corr c hx hy) :: hx) (((m + (1 : Nat)) % (8 : Nat) + (2 : Nat)) % (8 : Nat))), V.i (gi ((g - corr c hx hy) :: hx) (((m + (1 : Nat)) % (8 : Nat) + (1 : Nat)) % (8 : Nat))), V.i (gi ((g - corr c hx hy) :: hx) ((m + (1 : Nat)) % (8 : Nat) % (8 : Nat))), V.i (↑((m + (1 : Nat)) % (8 : Nat)) : Int), V.sl (1 : Nat) (List.length (Cv.feed c)) fun (k : Nat) => [V.i (gi (Cv.feed c) k)], V.sl (1 : Nat) (List.length (Cv.back c)) fun (k : Nat) => [V.i (gi (Cv.back c) k)], V.i (Cv.share c)]))]) (kp := [501]) (putI_ac c hy hx m m (g - corr c hx hy) hm) (by kernel_rfl) (by kernel_rfl) (by kernel_rfl) (by kernel_rfl) (by kernel_rfl) (by kernel_rfl) rfl rfl (by kernel_rfl) (.box (by kernel_rfl) (by kernel_rfl) .nil) (by kernel_rfl) (by kernel_rfl) (by kernel_rfl) ?_
    refine aops_nil ?_
    refine xt_n ?_
    refine hK _ ?_
    clear hK K
    refine aw_seq_k fun K hK => ?_
    refine w_region (n' := 7) (by kernel_rfl) (by kernel_rfl) ?_
    refine aops_n hTT (M := []) (n := 4) [pc (19 : Nat) ((0 : Nat) ≤ (1 : Nat)) (V.ref (501 : Nat) (0 : Nat)), pv (20 : Nat) (V.ref (501 : Nat) (0 : Nat)), pv (21 : Nat) (V.ref (501 : Nat) (0 : Nat)), pv (22 : Nat) (V.i g)] (by kernel_rfl) (by kernel_rfl) ⟨(by omega), True.intro⟩ ?_
    refine aops_callM [501] (first := []) (caps := []) (ins' := [Ob.box (113 : Nat) [V.i (gi hy ((m + (7 : Nat)) % (8 : Nat))), V.i (gi hy ((m + (6 : Nat)) % (8 : Nat))), V.i (gi hy ((m + (5 : Nat)) % (8 : Nat))), V.i (gi hy ((m + (4 : Nat)) % (8 : Nat))), V.i (gi hy ((m + (3 : Nat)) % (8 : Nat))), V.i (gi hy ((m + (2 : Nat)) % (8 : Nat))), V.i (gi hy ((m + (1 : Nat)) % (8 : Nat))), V.i (gi hy (m % (8 : Nat))), V.i (↑m : Int), V.i (gi ((g - corr c hx hy) :: hx) (((m + (1 : Nat)) % (8 : Nat) + (7 : Nat)) % (8 : Nat))), V.i (gi ((g - corr c hx hy) :: hx) (((m + (1 : Nat)) % (8 : Nat) + (6 : Nat)) % (8 : Nat))), V.i (gi ((g - corr c hx hy) :: hx) (((m + (1 : Nat)) % (8 : Nat) + (5 : Nat)) % (8 : Nat))), V.i (gi ((g - corr c hx hy) :: hx) (((m + (1 : Nat)) % (8 : Nat) + (4 : Nat)) % (8 : Nat))), V.i (gi ((g - corr c hx hy) :: hx) (((m + (1 : Nat)) % (8 : Nat) + (3 : Nat)) % (8 : Nat))), V.i (gi ((g - corr c hx hy) :: hx) (((m + (1 : Nat)) % (8 : Nat) + (2 : Nat)) % (8 : Nat))), V.i (gi ((g - corr c hx hy) :: hx) (((m + (1 : Nat)) % (8 : Nat) + (1 : Nat)) % (8 : Nat))), V.i (gi ((g - corr c hx hy) :: hx) ((m + (1 : Nat)) % (8 : Nat) % (8 : Nat))), V.i (↑((m + (1 : Nat)) % (8 : Nat)) : Int), V.sl (1 : Nat) (List.length (Cv.feed c)) fun (k : Nat) => [V.i (gi (Cv.feed c) k)], V.sl (1 : Nat) (List.length (Cv.back c)) fun (k : Nat) => [V.i (gi (Cv.back c) k)], V.i (Cv.share c)]]) (v' := V.tup []) (δ := [(501, Option.some (Ob.box (113 : Nat) [V.i (gi (g :: hy) (((m + (1 : Nat)) % (8 : Nat) + (7 : Nat)) % (8 : Nat))), V.i (gi (g :: hy) (((m + (1 : Nat)) % (8 : Nat) + (6 : Nat)) % (8 : Nat))), V.i (gi (g :: hy) (((m + (1 : Nat)) % (8 : Nat) + (5 : Nat)) % (8 : Nat))), V.i (gi (g :: hy) (((m + (1 : Nat)) % (8 : Nat) + (4 : Nat)) % (8 : Nat))), V.i (gi (g :: hy) (((m + (1 : Nat)) % (8 : Nat) + (3 : Nat)) % (8 : Nat))), V.i (gi (g :: hy) (((m + (1 : Nat)) % (8 : Nat) + (2 : Nat)) % (8 : Nat))), V.i (gi (g :: hy) (((m + (1 : Nat)) % (8 : Nat) + (1 : Nat)) % (8 : Nat))), V.i (gi (g :: hy) ((m + (1 : Nat)) % (8 : Nat) % (8 : Nat))), V.i (↑((m + (1 : Nat)) % (8 : Nat)) : Int), V.i (gi ((g - corr c hx hy) :: hx) (((m + (1 : Nat)) % (8 : Nat) + (7 : Nat)) % (8 : Nat))), V.i (gi ((g - corr c hx hy) :: hx) (((m + (1 : Nat)) % (8 : Nat) + (6 : Nat)) % (8 : Nat))), V.i (gi ((g - corr c hx hy) :: hx) (((m + (1 : Nat)) % (8 : Nat) + (5 : Nat)) % (8 : Nat))), V.i (gi ((g - corr c hx hy) :: hx) (((m + (1 : Nat)) % (8 : Nat) + (4 : Nat)) % (8 : Nat))), V.i (gi ((g - corr c hx hy) :: hx) (((m + (1 : Nat)) % (8 : Nat) + (3 : Nat)) % (8 : Nat))), V.i (gi ((g - corr c hx hy) :: hx) (((m + (1 : Nat)) % (8 : Nat) + (2 : Nat)) % (8 : Nat))), V.i (gi ((g - corr c hx hy) :: hx) (((m + (1 : Nat)) % (8 : Nat) + (1 : Nat)) % (8 : Nat))), V.i (gi ((g - corr c hx hy) :: hx) ((m + (1 : Nat)) % (8 : Nat) % (8 : Nat))), V.i (↑((m + (1 : Nat)) % (8 : Nat)) : Int), V.sl (1 : Nat) (List.length (Cv.feed c)) fun (k : Nat) => [V.i (gi (Cv.feed c) k)], V.sl (1 : Nat) (List.length (Cv.back c)) fun (k : Nat) => [V.i (gi (Cv.back c) k)], V.i (Cv.share c)]))]) (kp := [501]) (putO_ac c hy ((g - corr c hx hy) :: hx) m ((m + 1) % 8) g hm) (by kernel_rfl) (by kernel_rfl) (by kernel_rfl) (by kernel_rfl) (by kernel_rfl) (by kernel_rfl) rfl rfl (by kernel_rfl) (.box (by kernel_rfl) (by kernel_rfl) .nil) (by kernel_rfl) (by kernel_rfl) (by kernel_rfl) ?_
    refine aops_nil ?_
    refine xt_n ?_
    refine hK _ ?_
    clear hK K
    refine aw_seq_k fun K hK => ?_
    refine w_region (n' := 8) (by kernel_rfl) (by kernel_rfl) ?_
    refine aops_n hTT (M := []) (n := 2) [pv (24 : Nat) (V.i (g - corr c hx hy)), pv (4 : Nat) (V.i (g - corr c hx hy))] (by kernel_rfl) (by kernel_rfl) True.intro ?_
    refine aops_nil ?_
    refine xt_n ?_
    refine hK _ ?_
    clear hK K
    refine aw_ret ?_
    refine xt_r ?_
    refine retM (v' := V.i (g - corr c hx hy)) [] [(4, V.i (g - corr c hx hy))] (.inr rfl) (.cons (by kernel_rfl) .nil) (.cons ⟨Ob.box (108 : Nat) [V.ref (501 : Nat) (0 : Nat)], (by kernel_rfl), .box (by kernel_rfl)⟩ (.cons ⟨Ob.box (113 : Nat) [V.i (gi (g :: hy) (((m + (1 : Nat)) % (8 : Nat) + (7 : Nat)) % (8 : Nat))), V.i (gi (g :: hy) (((m + (1 : Nat)) % (8 : Nat) + (6 : Nat)) % (8 : Nat))), V.i (gi (g :: hy) (((m + (1 : Nat)) % (8 : Nat) + (5 : Nat)) % (8 : Nat))), V.i (gi (g :: hy) (((m + (1 : Nat)) % (8 : Nat) + (4 : Nat)) % (8 : Nat))), V.i (gi (g :: hy) (((m + (1 : Nat)) % (8 : Nat) + (3 : Nat)) % (8 : Nat))), V.i (gi (g :: hy) (((m + (1 : Nat)) % (8 : Nat) + (2 : Nat)) % (8 : Nat))), V.i (gi (g :: hy) (((m + (1 : Nat)) % (8 : Nat) + (1 : Nat)) % (8 : Nat))), V.i (gi (g :: hy) ((m + (1 : Nat)) % (8 : Nat) % (8 : Nat))), V.i (↑((m + (1 : Nat)) % (8 : Nat)) : Int), V.i (gi ((g - corr c hx hy) :: hx) (((m + (1 : Nat)) % (8 : Nat) + (7 : Nat)) % (8 : Nat))), V.i (gi ((g - corr c hx hy) :: hx) (((m + (1 : Nat)) % (8 : Nat) + (6 : Nat)) % (8 : Nat))), V.i (gi ((g - corr c hx hy) :: hx) (((m + (1 : Nat)) % (8 : Nat) + (5 : Nat)) % (8 : Nat))), V.i (gi ((g - corr c hx hy) :: hx) (((m + (1 : Nat)) % (8 : Nat) + (4 : Nat)) % (8 : Nat))), V.i (gi ((g - corr c hx hy) :: hx) (((m + (1 : Nat)) % (8 : Nat) + (3 : Nat)) % (8 : Nat))), V.i (gi ((g - corr c hx hy) :: hx) (((m + (1 : Nat)) % (8 : Nat) + (2 : Nat)) % (8 : Nat))), V.i (gi ((g - corr c hx hy) :: hx) (((m + (1 : Nat)) % (8 : Nat) + (1 : Nat)) % (8 : Nat))), V.i (gi ((g - corr c hx hy) :: hx) ((m + (1 : Nat)) % (8 : Nat) % (8 : Nat))), V.i (↑((m + (1 : Nat)) % (8 : Nat)) : Int), V.sl (1 : Nat) (List.length (Cv.feed c)) fun (k : Nat) => [V.i (gi (Cv.feed c) k)], V.sl (1 : Nat) (List.length (Cv.back c)) fun (k : Nat) => [V.i (gi (Cv.back c) k)], V.i (Cv.share c)], (by kernel_rfl), .box (by kernel_rfl)⟩ .nil)) (by kernel_rfl) (by kernel_rfl) (by kernel_rfl) (by kernel_rfl) (by kernel_rfl) (by kernel_rfl) (by kernel_rfl)
  · subst c1
    refine aw_skip ?_
    refine xt_n ?_
    refine hK _ ?_
    clear hK K
    refine aw_seq_k fun K hK => ?_
    refine w_region (n' := 5) (by kernel_rfl) (by kernel_rfl) ?_
    refine aops_n hTT (M := []) (n := 2) [pv (25 : Nat) (V.i g), pc (26 : Nat) ((0 : Nat) ≤ (1 : Nat)) (V.ref (501 : Nat) (0 : Nat))] (by kernel_rfl) (by kernel_rfl) ⟨(by omega), True.intro⟩ ?_
    refine aops_callR [501] (first := []) (caps := []) (ins' := [Ob.box (113 : Nat) [V.i (gi hy ((m + (7 : Nat)) % (8 : Nat))), V.i (gi hy ((m + (6 : Nat)) % (8 : Nat))), V.i (gi hy ((m + (5 : Nat)) % (8 : Nat))), V.i (gi hy ((m + (4 : Nat)) % (8 : Nat))), V.i (gi hy ((m + (3 : Nat)) % (8 : Nat))), V.i (gi hy ((m + (2 : Nat)) % (8 : Nat))), V.i (gi hy ((m + (1 : Nat)) % (8 : Nat))), V.i (gi hy (m % (8 : Nat))), V.i (↑m : Int), V.i (gi hx ((m + (7 : Nat)) % (8 : Nat))), V.i (gi hx ((m + (6 : Nat)) % (8 : Nat))), V.i (gi hx ((m + (5 : Nat)) % (8 : Nat))), V.i (gi hx ((m + (4 : Nat)) % (8 : Nat))), V.i (gi hx ((m + (3 : Nat)) % (8 : Nat))), V.i (gi hx ((m + (2 : Nat)) % (8 : Nat))), V.i (gi hx ((m + (1 : Nat)) % (8 : Nat))), V.i (gi hx (m % (8 : Nat))), V.i (↑m : Int), V.sl (1 : Nat) (List.length (Cv.feed c)) fun (k : Nat) => [V.i (gi (Cv.feed c) k)], V.sl (1 : Nat) (List.length (Cv.back c)) fun (k : Nat) => [V.i (gi (Cv.back c) k)], V.i (Cv.share c)]]) (v' := V.i (corr c hx hy)) (δ := []) (kp := [501]) (correction_ac c hy hx m n hc hm hn h1 h2) (by kernel_rfl) (by kernel_rfl) (by kernel_rfl) (by kernel_rfl) (by kernel_rfl) (by kernel_rfl) (by kernel_rfl) rfl (by kernel_rfl) (by kernel_rfl) ⟨(by kernel_rfl), True.intro⟩ (by kernel_rfl) (by kernel_rfl) (by kernel_rfl) ?_
    refine aops_n hTT (M := []) (n := 2) [pc (28 : Nat) ((-9223372036854775808 : Int) ≤ g + corr c hx hy ∧ g + corr c hx hy ≤ (9223372036854775807 : Int)) (V.i (g + corr c hx hy)), pv (6 : Nat) (V.i (g + corr c hx hy))] (by kernel_rfl) (by kernel_rfl) ⟨(by omega), True.intro⟩ ?_
    refine aops_nil ?_
    refine xt_n ?_
    refine hK _ ?_
    clear hK K
    refine aw_seq_k fun K hK => ?_
    refine w_region (n' := 6) (by kernel_rfl) (by kernel_rfl) ?_
    refine aops_n hTT (M := []) (n := 4) [pc (29 : Nat) ((0 : Nat) ≤ (1 : Nat)) (V.ref (501 : Nat) (0 : Nat)), pv (30 : Nat) (V.ref (501 : Nat) (0 : Nat)), pv (31 : Nat) (V.ref (501 : Nat) (9 : Nat)), pv (32 : Nat) (V.i g)] (by kernel_rfl) (by kernel_rfl) ⟨(by omega), True.intro⟩ ?_
    refine aops_callM [501] (first := []) (caps := []) (ins' := [Ob.box (113 : Nat) [V.i (gi hy ((m + (7 : Nat)) % (8 : Nat))), V.i (gi hy ((m + (6 : Nat)) % (8 : Nat))), V.i (gi hy ((m + (5 : Nat)) % (8 : Nat))), V.i (gi hy ((m + (4 : Nat)) % (8 : Nat))), V.i (gi hy ((m + (3 : Nat)) % (8 : Nat))), V.i (gi hy ((m + (2 : Nat)) % (8 : Nat))), V.i (gi hy ((m + (1 : Nat)) % (8 : Nat))), V.i (gi hy (m % (8 : Nat))), V.i (↑m : Int), V.i (gi hx ((m + (7 : Nat)) % (8 : Nat))), V.i (gi hx ((m + (6 : Nat)) % (8 : Nat))), V.i (gi hx ((m + (5 : Nat)) % (8 : Nat))), V.i (gi hx ((m + (4 : Nat)) % (8 : Nat))), V.i (gi hx ((m + (3 : Nat)) % (8 : Nat))), V.i (gi hx ((m + (2 : Nat)) % (8 : Nat))), V.i (gi hx ((m + (1 : Nat)) % (8 : Nat))), V.i (gi hx (m % (8 : Nat))), V.i (↑m : Int), V.sl (1 : Nat) (List.length (Cv.feed c)) fun (k : Nat) => [V.i (gi (Cv.feed c) k)], V.sl (1 : Nat) (List.length (Cv.back c)) fun (k : Nat) => [V.i (gi (Cv.back c) k)], V.i (Cv.share c)]]) (v' := V.tup []) (δ := [(501, Option.some (Ob.box (113 : Nat) [V.i (gi hy ((m + (7 : Nat)) % (8 : Nat))), V.i (gi hy ((m + (6 : Nat)) % (8 : Nat))), V.i (gi hy ((m + (5 : Nat)) % (8 : Nat))), V.i (gi hy ((m + (4 : Nat)) % (8 : Nat))), V.i (gi hy ((m + (3 : Nat)) % (8 : Nat))), V.i (gi hy ((m + (2 : Nat)) % (8 : Nat))), V.i (gi hy ((m + (1 : Nat)) % (8 : Nat))), V.i (gi hy (m % (8 : Nat))), V.i (↑m : Int), V.i (gi (g :: hx) (((m + (1 : Nat)) % (8 : Nat) + (7 : Nat)) % (8 : Nat))), V.i (gi (g :: hx) (((m + (1 : Nat)) % (8 : Nat) + (6 : Nat)) % (8 : Nat))), V.i (gi (g :: hx) (((m + (1 : Nat)) % (8 : Nat) + (5 : Nat)) % (8 : Nat))), V.i (gi (g :: hx) (((m + (1 : Nat)) % (8 : Nat) + (4 : Nat)) % (8 : Nat))), V.i (gi (g :: hx) (((m + (1 : Nat)) % (8 : Nat) + (3 : Nat)) % (8 : Nat))), V.i (gi (g :: hx) (((m + (1 : Nat)) % (8 : Nat) + (2 : Nat)) % (8 : Nat))), V.i (gi (g :: hx) (((m + (1 : Nat)) % (8 : Nat) + (1 : Nat)) % (8 : Nat))), V.i (gi (g :: hx) ((m + (1 : Nat)) % (8 : Nat) % (8 : Nat))), V.i (↑((m + (1 : Nat)) % (8 : Nat)) : Int), V.sl (1 : Nat) (List.length (Cv.feed c)) fun (k : Nat) => [V.i (gi (Cv.feed c) k)], V.sl (1 : Nat) (List.length (Cv.back c)) fun (k : Nat) => [V.i (gi (Cv.back c) k)], V.i (Cv.share c)]))]) (kp := [501]) (putI_ac c hy hx m m g hm) (by kernel_rfl) (by kernel_rfl) (by kernel_rfl) (by kernel_rfl) (by kernel_rfl) (by kernel_rfl) rfl rfl (by kernel_rfl) (.box (by kernel_rfl) (by kernel_rfl) .nil) (by kernel_rfl) (by kernel_rfl) (by kernel_rfl) ?_
    refine aops_nil ?_
    refine xt_n ?_
    refine hK _ ?_
    clear hK K
    refine aw_seq_k fun K hK => ?_
    refine w_region (n' := 7) (by kernel_rfl) (by kernel_rfl) ?_
    refine aops_n hTT (M := []) (n := 4) [pc (34 : Nat) ((0 : Nat) ≤ (1 : Nat)) (V.ref (501 : Nat) (0 : Nat)), pv (35 : Nat) (V.ref (501 : Nat) (0 : Nat)), pv (36 : Nat) (V.ref (501 : Nat) (0 : Nat)), pv (37 : Nat) (V.i (g + corr c hx hy))] (by kernel_rfl) (by kernel_rfl) ⟨(by omega), True.intro⟩ ?_
    refine aops_callM [501] (first := []) (caps := []) (ins' := [Ob.box (113 : Nat) [V.i (gi hy ((m + (7 : Nat)) % (8 : Nat))), V.i (gi hy ((m + (6 : Nat)) % (8 : Nat))), V.i (gi hy ((m + (5 : Nat)) % (8 : Nat))), V.i (gi hy ((m + (4 : Nat)) % (8 : Nat))), V.i (gi hy ((m + (3 : Nat)) % (8 : Nat))), V.i (gi hy ((m + (2 : Nat)) % (8 : Nat))), V.i (gi hy ((m + (1 : Nat)) % (8 : Nat))), V.i (gi hy (m % (8 : Nat))), V.i (↑m : Int), V.i (gi (g :: hx) (((m + (1 : Nat)) % (8 : Nat) + (7 : Nat)) % (8 : Nat))), V.i (gi (g :: hx) (((m + (1 : Nat)) % (8 : Nat) + (6 : Nat)) % (8 : Nat))), V.i (gi (g :: hx) (((m + (1 : Nat)) % (8 : Nat) + (5 : Nat)) % (8 : Nat))), V.i (gi (g :: hx) (((m + (1 : Nat)) % (8 : Nat) + (4 : Nat)) % (8 : Nat))), V.i (gi (g :: hx) (((m + (1 : Nat)) % (8 : Nat) + (3 : Nat)) % (8 : Nat))), V.i (gi (g :: hx) (((m + (1 : Nat)) % (8 : Nat) + (2 : Nat)) % (8 : Nat))), V.i (gi (g :: hx) (((m + (1 : Nat)) % (8 : Nat) + (1 : Nat)) % (8 : Nat))), V.i (gi (g :: hx) ((m + (1 : Nat)) % (8 : Nat) % (8 : Nat))), V.i (↑((m + (1 : Nat)) % (8 : Nat)) : Int), V.sl (1 : Nat) (List.length (Cv.feed c)) fun (k : Nat) => [V.i (gi (Cv.feed c) k)], V.sl (1 : Nat) (List.length (Cv.back c)) fun (k : Nat) => [V.i (gi (Cv.back c) k)], V.i (Cv.share c)]]) (v' := V.tup []) (δ := [(501, Option.some (Ob.box (113 : Nat) [V.i (gi ((g + corr c hx hy) :: hy) (((m + (1 : Nat)) % (8 : Nat) + (7 : Nat)) % (8 : Nat))), V.i (gi ((g + corr c hx hy) :: hy) (((m + (1 : Nat)) % (8 : Nat) + (6 : Nat)) % (8 : Nat))), V.i (gi ((g + corr c hx hy) :: hy) (((m + (1 : Nat)) % (8 : Nat) + (5 : Nat)) % (8 : Nat))), V.i (gi ((g + corr c hx hy) :: hy) (((m + (1 : Nat)) % (8 : Nat) + (4 : Nat)) % (8 : Nat))), V.i (gi ((g + corr c hx hy) :: hy) (((m + (1 : Nat)) % (8 : Nat) + (3 : Nat)) % (8 : Nat))), V.i (gi ((g + corr c hx hy) :: hy) (((m + (1 : Nat)) % (8 : Nat) + (2 : Nat)) % (8 : Nat))), V.i (gi ((g + corr c hx hy) :: hy) (((m + (1 : Nat)) % (8 : Nat) + (1 : Nat)) % (8 : Nat))), V.i (gi ((g + corr c hx hy) :: hy) ((m + (1 : Nat)) % (8 : Nat) % (8 : Nat))), V.i (↑((m + (1 : Nat)) % (8 : Nat)) : Int), V.i (gi (g :: hx) (((m + (1 : Nat)) % (8 : Nat) + (7 : Nat)) % (8 : Nat))), V.i (gi (g :: hx) (((m + (1 : Nat)) % (8 : Nat) + (6 : Nat)) % (8 : Nat))), V.i (gi (g :: hx) (((m + (1 : Nat)) % (8 : Nat) + (5 : Nat)) % (8 : Nat))), V.i (gi (g :: hx) (((m + (1 : Nat)) % (8 : Nat) + (4 : Nat)) % (8 : Nat))), V.i (gi (g :: hx) (((m + (1 : Nat)) % (8 : Nat) + (3 : Nat)) % (8 : Nat))), V.i (gi (g :: hx) (((m + (1 : Nat)) % (8 : Nat) + (2 : Nat)) % (8 : Nat))), V.i (gi (g :: hx) (((m + (1 : Nat)) % (8 : Nat) + (1 : Nat)) % (8 : Nat))), V.i (gi (g :: hx) ((m + (1 : Nat)) % (8 : Nat) % (8 : Nat))), V.i (↑((m + (1 : Nat)) % (8 : Nat)) : Int), V.sl (1 : Nat) (List.length (Cv.feed c)) fun (k : Nat) => [V.i (gi (Cv.feed c) k)], V.sl (1 : Nat) (List.length (Cv.back c)) fun (k : Nat) => [V.i (gi (Cv.back c) k)], V.i (Cv.share c)]))]) (kp := [501]) (putO_ac c hy (g :: hx) m ((m + 1) % 8) (g + corr c hx hy) hm) (by kernel_rfl) (by kernel_rfl) (by kernel_rfl) (by kernel_rfl) (by kernel_rfl) (by kernel_rfl) rfl rfl (by kernel_rfl) (.box (by kernel_rfl) (by kernel_rfl) .nil) (by kernel_rfl) (by kernel_rfl) (by kernel_rfl) ?_
    refine aops_nil ?_
    refine xt_n ?_
    refine hK _ ?_
    clear hK K
    refine aw_seq_k fun K hK => ?_
    refine w_region (n' := 8) (by kernel_rfl) (by kernel_rfl) ?_
    refine aops_n hTT (M := []) (n := 2) [pv (39 : Nat) (V.i (g + corr c hx hy)), pv (4 : Nat) (V.i (g + corr c hx hy))] (by kernel_rfl) (by kernel_rfl) True.intro ?_
    refine aops_nil ?_
    refine xt_n ?_
    refine hK _ ?_
    clear hK K
    refine aw_ret ?_
    refine retM (v' := V.i (g + corr c hx hy)) [] [(4, V.i (g + corr c hx hy))] (.inr rfl) (.cons (by kernel_rfl) .nil) (.cons ⟨Ob.box (108 : Nat) [V.ref (501 : Nat) (0 : Nat)], (by kernel_rfl), .box (by kernel_rfl)⟩ (.cons ⟨Ob.box (113 : Nat) [V.i (gi ((g + corr c hx hy) :: hy) (((m + (1 : Nat)) % (8 : Nat) + (7 : Nat)) % (8 : Nat))), V.i (gi ((g + corr c hx hy) :: hy) (((m + (1 : Nat)) % (8 : Nat) + (6 : Nat)) % (8 : Nat))), V.i (gi ((g + corr c hx hy) :: hy) (((m + (1 : Nat)) % (8 : Nat) + (5 : Nat)) % (8 : Nat))), V.i (gi ((g + corr c hx hy) :: hy) (((m + (1 : Nat)) % (8 : Nat) + (4 : Nat)) % (8 : Nat))), V.i (gi ((g + corr c hx hy) :: hy) (((m + (1 : Nat)) % (8 : Nat) + (3 : Nat)) % (8 : Nat))), V.i (gi ((g + corr c hx hy) :: hy) (((m + (1 : Nat)) % (8 : Nat) + (2 : Nat)) % (8 : Nat))), V.i (gi ((g + corr c hx hy) :: hy) (((m + (1 : Nat)) % (8 : Nat) + (1 : Nat)) % (8 : Nat))), V.i (gi ((g + corr c hx hy) :: hy) ((m + (1 : Nat)) % (8 : Nat) % (8 : Nat))), V.i (↑((m + (1 : Nat)) % (8 : Nat)) : Int), V.i (gi (g :: hx) (((m + (1 : Nat)) % (8 : Nat) + (7 : Nat)) % (8 : Nat))), V.i (gi (g :: hx) (((m + (1 : Nat)) % (8 : Nat) + (6 : Nat)) % (8 : Nat))), V.i (gi (g :: hx) (((m + (1 : Nat)) % (8 : Nat) + (5 : Nat)) % (8 : Nat))), V.i (gi (g :: hx) (((m + (1 : Nat)) % (8 : Nat) + (4 : Nat)) % (8 : Nat))), V.i (gi (g :: hx) (((m + (1 : Nat)) % (8 : Nat) + (3 : Nat)) % (8 : Nat))), V.i (gi (g :: hx) (((m + (1 : Nat)) % (8 : Nat) + (2 : Nat)) % (8 : Nat))), V.i (gi (g :: hx) (((m + (1 : Nat)) % (8 : Nat) + (1 : Nat)) % (8 : Nat))), V.i (gi (g :: hx) ((m + (1 : Nat)) % (8 : Nat) % (8 : Nat))), V.i (↑((m + (1 : Nat)) % (8 : Nat)) : Int), V.sl (1 : Nat) (List.length (Cv.feed c)) fun (k : Nat) => [V.i (gi (Cv.feed c) k)], V.sl (1 : Nat) (List.length (Cv.back c)) fun (k : Nat) => [V.i (gi (Cv.back c) k)], V.i (Cv.share c)], (by kernel_rfl), .box (by kernel_rfl)⟩ .nil)) (by kernel_rfl) (by kernel_rfl) (by kernel_rfl) (by kernel_rfl) (by kernel_rfl) (by kernel_rfl) (by kernel_rfl)
abbrev FStep (u : Bool) (k : Nat) : V := .fn (.func 105) [] [.ptr [.b u], .ref k 0]
abbrev FIn (m : Int) : V := .fn (.func 108) [] [.ptr [.i m]]
set_option maxRecDepth 100000 in
theorem fStep_ac (c : Cv) (u : Bool) : AC Try.prog 90 [V.cv c, .b u] (FStep u 0) [PB 1, St c [] [] 0] := by
  refine ac_intro hTT hMX (fn := Try.f90) (N := _) ⟨Try.func90, rfl, Try.ntmps90, by kernel_rfl⟩ (by simp) fun C hC hF => ?_
  refine aw_seq_k fun K hK => ?_
  refine w_region (n' := 2) (by kernel_rfl) (by kernel_rfl) ?_
  refine aops_n hTT (M := [8]) (n := 3) [pv (2 : Nat) (V.ptr [V.sl (1 : Nat) (List.length (Cv.feed c)) fun (k : Nat) => [V.i (gi (Cv.feed c) k)], V.sl (1 : Nat) (List.length (Cv.back c)) fun (k : Nat) => [V.i (gi (Cv.back c) k)], V.i (Cv.share c)]), pv (3 : Nat) (V.ptr [V.b u]), pv (4 : Nat) (V.c Value.nilFunc)] (by kernel_rfl) (by kernel_rfl) True.intro ?_
  refine aops_nil ?_
  refine xt_n ?_
  refine hK _ ?_
  clear hK K
  refine aw_seq_k fun K hK => ?_
  refine w_region (n' := 3) (by kernel_rfl) (by kernel_rfl) ?_
  refine aops_n hTT (M := [8]) (n := 5) [pv (6 : Nat) (V.agg [V.sl (1 : Nat) (List.length (Cv.feed c)) fun (k : Nat) => [V.i (gi (Cv.feed c) k)], V.sl (1 : Nat) (List.length (Cv.back c)) fun (k : Nat) => [V.i (gi (Cv.back c) k)], V.i (Cv.share c)]), pv (7 : Nat) (V.agg [V.i (0 : Int), V.i (0 : Int), V.i (0 : Int), V.i (0 : Int), V.i (0 : Int), V.i (0 : Int), V.i (0 : Int), V.i (0 : Int), V.i (0 : Int), V.i (0 : Int), V.i (0 : Int), V.i (0 : Int), V.i (0 : Int), V.i (0 : Int), V.i (0 : Int), V.i (0 : Int), V.i (0 : Int), V.i (0 : Int), V.sl (1 : Nat) (List.length (Cv.feed c)) fun (k : Nat) => [V.i (gi (Cv.feed c) k)], V.sl (1 : Nat) (List.length (Cv.back c)) fun (k : Nat) => [V.i (gi (Cv.back c) k)], V.i (Cv.share c)]), pn (8 : Nat) (V.ref (200008 : Nat) (0 : Nat)) (200008 : Nat) (Ob.box (113 : Nat) [V.i (0 : Int), V.i (0 : Int), V.i (0 : Int), V.i (0 : Int), V.i (0 : Int), V.i (0 : Int), V.i (0 : Int), V.i (0 : Int), V.i (0 : Int), V.i (0 : Int), V.i (0 : Int), V.i (0 : Int), V.i (0 : Int), V.i (0 : Int), V.i (0 : Int), V.i (0 : Int), V.i (0 : Int), V.i (0 : Int), V.sl (1 : Nat) (List.length (Cv.feed c)) fun (k : Nat) => [V.i (gi (Cv.feed c) k)], V.sl (1 : Nat) (List.length (Cv.back c)) fun (k : Nat) => [V.i (gi (Cv.back c) k)], V.i (Cv.share c)]), pn (5 : Nat) (V.ref (200005 : Nat) (0 : Nat)) (200005 : Nat) (Ob.box (108 : Nat) [V.c (Value.pointer none)]), pw ((0 : Nat) + (1 : Nat) ≤ (1 : Nat)) (200005 : Nat) (Ob.box (108 : Nat) [V.ref (200008 : Nat) (0 : Nat)])] (by kernel_rfl) (by kernel_rfl) ⟨(by omega), True.intro⟩ ?_
  refine aops_nil ?_
  refine xt_n ?_
  refine hK _ ?_
  clear hK K
  refine aw_seq_k fun K hK => ?_
  refine w_region (n' := 4) (by kernel_rfl) (by kernel_rfl) ?_
  refine aops_n hTT (M := [8]) (n := 2) [pv (9 : Nat) (V.fn (Fn.func (105 : Nat)) [] [V.ptr [V.b u], V.ref (200005 : Nat) (0 : Nat)]), pv (4 : Nat) (V.fn (Fn.func (105 : Nat)) [] [V.ptr [V.b u], V.ref (200005 : Nat) (0 : Nat)])] (by kernel_rfl) (by kernel_rfl) True.intro ?_
  refine aops_nil ?_
  refine xt_n ?_
  refine hK _ ?_
  clear hK K
  refine aw_ret ?_
  refine ret_of_M ?_
  refine retM (v' := V.fn (Fn.func (105 : Nat)) [] [V.ptr [V.b u], V.ref (0 : Nat) (0 : Nat)]) [(0, 200005), (1, 200008)] [(4, V.fn (Fn.func (105 : Nat)) [] [V.ptr [V.b u], V.ref (0 : Nat) (0 : Nat)])] (.inr rfl) (.cons (by kernel_rfl) .nil) (.cons ⟨Ob.box (108 : Nat) [V.ref (200008 : Nat) (0 : Nat)], (by kernel_rfl), .box (by kernel_rfl)⟩ (.cons ⟨Ob.box (113 : Nat) [V.i (0 : Int), V.i (0 : Int), V.i (0 : Int), V.i (0 : Int), V.i (0 : Int), V.i (0 : Int), V.i (0 : Int), V.i (0 : Int), V.i (0 : Int), V.i (0 : Int), V.i (0 : Int), V.i (0 : Int), V.i (0 : Int), V.i (0 : Int), V.i (0 : Int), V.i (0 : Int), V.i (0 : Int), V.i (0 : Int), V.sl (1 : Nat) (List.length (Cv.feed c)) fun (k : Nat) => [V.i (gi (Cv.feed c) k)], V.sl (1 : Nat) (List.length (Cv.back c)) fun (k : Nat) => [V.i (gi (Cv.back c) k)], V.i (Cv.share c)], (by kernel_rfl), .box (by kernel_rfl)⟩ .nil)) (by kernel_rfl) (by kernel_rfl) (by kernel_rfl) (by kernel_rfl) (by kernel_rfl) (by kernel_rfl) (by kernel_rfl)
set_option maxRecDepth 100000 in
theorem within_ac (m : Int) : AC Try.prog 91 [.i m] (FIn m) [] := by
  refine ac_intro hTT hMX (fn := Try.f91) (N := _) ⟨Try.func91, rfl, Try.ntmps91, by kernel_rfl⟩ (by simp) fun C hC hF => ?_
  refine aw_seq_k fun K hK => ?_
  refine w_region (n' := 2) (by kernel_rfl) (by kernel_rfl) ?_
  refine aops_n hTT (M := []) (n := 2) [pv (1 : Nat) (V.ptr [V.i m]), pv (2 : Nat) (V.c Value.nilFunc)] (by kernel_rfl) (by kernel_rfl) True.intro ?_
  refine aops_nil ?_
  refine xt_n ?_
  refine hK _ ?_
  clear hK K
  refine aw_seq_k fun K hK => ?_
  refine w_region (n' := 3) (by kernel_rfl) (by kernel_rfl) ?_
  refine aops_n hTT (M := []) (n := 2) [pv (3 : Nat) (V.fn (Fn.func (108 : Nat)) [] [V.ptr [V.i m]]), pv (2 : Nat) (V.fn (Fn.func (108 : Nat)) [] [V.ptr [V.i m]])] (by kernel_rfl) (by kernel_rfl) True.intro ?_
  refine aops_nil ?_
  refine xt_n ?_
  refine hK _ ?_
  clear hK K
  refine aw_ret ?_
  refine ret_pure (v' := V.fn (Fn.func (108 : Nat)) [] [V.ptr [V.i m]]) (.inr rfl) (by kernel_rfl) (by kernel_rfl) (by kernel_rfl)
set_option maxRecDepth 100000 in
theorem within1_ac (n m : Int) (hm : 0 ≤ m ∧ m ≤ 4611686018427387904) : AC Try.prog 108 [.i n, .ptr [.i m]] (.b (!bey n m)) [] := by
  refine ac_intro hTT hMX (fn := Try.f108) (N := _) ⟨Try.func108, rfl, Try.ntmps108, by kernel_rfl⟩ (by simp) fun C hC hF => ?_
  refine aw_seq_k fun K hK => ?_
  refine w_region (n' := 2) (by kernel_rfl) (by kernel_rfl) ?_
  refine aops_n hTT (M := []) (n := 1) [pv (3 : Nat) (V.b false)] (by kernel_rfl) (by kernel_rfl) True.intro ?_
  refine aops_nil ?_
  refine xt_n ?_
  refine hK _ ?_
  clear hK K
  refine aw_seq_k fun K hK => ?_
  refine w_region (n' := 3) (by kernel_rfl) (by kernel_rfl) ?_
  refine aops_n hTT (M := []) (n := 2) [pv (4 : Nat) (V.i n), pv (5 : Nat) (V.i m)] (by kernel_rfl) (by kernel_rfl) True.intro ?_
  refine e_call (first := []) (caps := []) (beyond_ac n m hm) (by kernel_rfl) (by kernel_rfl) (by kernel_rfl) (by kernel_rfl) (by kernel_rfl) ?_
  refine aops_n hTT (M := []) (n := 2) [pv (7 : Nat) (V.b !bey n m), pv (3 : Nat) (V.b !bey n m)] (by kernel_rfl) (by kernel_rfl) True.intro ?_
  refine aops_nil ?_
  refine xt_n ?_
  refine hK _ ?_
  clear hK K
  refine aw_ret ?_
  refine ret_pure (v' := V.b !bey n m) (.inr rfl) (by kernel_rfl) (by kernel_rfl) (by kernel_rfl)
end Go.Proofs.Ytblipieipldanaa
