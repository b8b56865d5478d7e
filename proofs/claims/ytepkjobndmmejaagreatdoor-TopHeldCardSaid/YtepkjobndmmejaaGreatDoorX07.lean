/-
  Several texts in one: A curve applied: steps, and each element in turn. Conditions: told in each theorem. .. Programmes that are valid, and needs: both copies. Condition: as many elements as a slice can have.
-/
import Derived.Test.YtepkjobndmmejaaGreatDoorAbs42
import Derived.Test.YtepkjobndmmejaaGreatDoorX06
import Derived.Test.YtepkjobndmmejaaGreatDoorX00
import Derived.Test.YtepkjobndmmejaaGreatDoorMC
import Derived.Test.YtepkjobndmmejaaGreatDoorX03
namespace Go.Proofs.YtepkjobndmmejaaGreatDoor
open Go.Ab Go.RowKit Go.Dw Go.Shelf
abbrev St (c : Cv) (hy hx : List Int) (m : Nat) : Ob := StO c hy hx m m
abbrev yyFA40 (c : Cv) (hy : List Int) (hx : List Int) (m : Nat) : Ob := Ob.box 239 [V.i (gi hy ((m + (7 : Nat)) % (8 : Nat))), V.i (gi hy ((m + (6 : Nat)) % (8 : Nat))), V.i (gi hy ((m + (5 : Nat)) % (8 : Nat))), V.i (gi hy ((m + (4 : Nat)) % (8 : Nat))), V.i (gi hy ((m + (3 : Nat)) % (8 : Nat))), V.i (gi hy ((m + (2 : Nat)) % (8 : Nat))), V.i (gi hy ((m + (1 : Nat)) % (8 : Nat))), V.i (gi hy (m % (8 : Nat))), V.i (↑m : Int), V.i (gi hx ((m + (7 : Nat)) % (8 : Nat))), V.i (gi hx ((m + (6 : Nat)) % (8 : Nat))), V.i (gi hx ((m + (5 : Nat)) % (8 : Nat))), V.i (gi hx ((m + (4 : Nat)) % (8 : Nat))), V.i (gi hx ((m + (3 : Nat)) % (8 : Nat))), V.i (gi hx ((m + (2 : Nat)) % (8 : Nat))), V.i (gi hx ((m + (1 : Nat)) % (8 : Nat))), V.i (gi hx (m % (8 : Nat))), V.i (↑m : Int), V.sl 1 (List.length (Cv.feed c)) fun (k : Nat) => [V.i (gi (Cv.feed c) k)], V.sl 1 (List.length (Cv.back c)) fun (k : Nat) => [V.i (gi (Cv.back c) k)], V.i (Cv.share c)]
abbrev yyFA41 (c : Cv) (hy : List Int) (hx : List Int) := (dot (Cv.feed c) hx (List.length (Cv.feed c)) + dot (Cv.back c) hy (List.length (Cv.back c)))
set_option maxRecDepth 100000 in
theorem correction_ac (c : Cv) (hy hx : List Int) (m : Nat) (n : Int) (hc : cvOk c) (hm : m < 8) (hn : 0 ≤ n ∧ n ≤ 131072) (h1 : AllLe n hx) (h2 : AllLe n hy) : AM Tryz.prog 159 [.ref 500 0] [St c hy hx m] (.i (corr c hx hy)) [some (St c hy hx m)] [] := by
 have b := corr_bd hc hn.1 h1 h2
 obtain ⟨l1, l2, a1, a2, s1, s2⟩ := hc
 refine am_intro hTT hMX (fn := Tryz.f159) (N := _) ⟨Tryz.func159, rfl, Tryz.ntmps159, by kernel_rfl⟩ (by simp) rfl (by simp) (by simp) fun C hF => ?_
 refine aw_seq_k fun K hK => wR 2 ?_; refine aX hTT 1 [] True.intro ?_; refine aops_nil (xt_n (hK _ ?_)); clear hK K; refine aw_seq_k fun K hK => wD 3 ?_; refine aX hTT 8 [(7, .c ((18 : Nat) ≤ (21 : Nat)))] ⟨(by omega), True.intro⟩ ?_
 refine aops_callR [500] (first := []) (caps := []) (ins' := [(yyFA40 c hy hx m)]) (v' := V.i (dot (Cv.feed c) hx (List.length (Cv.feed c)))) (δ := []) (kp := [500]) (weighI_ac c hy hx m m c.feed n hm a1 l1 hn h1) (by kernel_rfl) (by kernel_rfl) (by kernel_rfl) (by kernel_rfl) (by kernel_rfl) (by kernel_rfl) (by kernel_rfl) rfl (by kernel_rfl) (by kernel_rfl) ⟨(by kernel_rfl), True.intro⟩ (by kernel_rfl) (by kernel_rfl) (by kernel_rfl) ?_
 refine aX hTT 8 [(7, .c ((19 : Nat) ≤ (21 : Nat)))] ⟨(by omega), True.intro⟩ ?_
 refine aops_callR [500] (first := []) (caps := []) (ins' := [(yyFA40 c hy hx m)]) (v' := V.i (dot (Cv.back c) hy (List.length (Cv.back c)))) (δ := []) (kp := [500]) (weighO_ac c hy hx m m c.back n hm a2 l2 hn h2) (by kernel_rfl) (by kernel_rfl) (by kernel_rfl) (by kernel_rfl) (by kernel_rfl) (by kernel_rfl) (by kernel_rfl) rfl (by kernel_rfl) (by kernel_rfl) ⟨(by kernel_rfl), True.intro⟩ (by kernel_rfl) (by kernel_rfl) (by kernel_rfl) ?_
 refine aops_n hTT (M := []) (n := 6) [pc 21 ((-9223372036854775808 : Int) ≤ dot (Cv.feed c) hx (List.length (Cv.feed c)) + dot (Cv.back c) hy (List.length (Cv.back c)) ∧ dot (Cv.feed c) hx (List.length (Cv.feed c)) + dot (Cv.back c) hy (List.length (Cv.back c)) ≤ (9223372036854775807 : Int)) (V.i (yyFA41 c hy hx)), pv 22 (V.ref 500 0), pv 23 (V.ref 500 0), pv 24 (V.ref 500 18), pv 25 (V.ref 500 20), pc 26 ((20 : Nat) ≤ (21 : Nat)) (V.i (Cv.share c))] (by kernel_rfl) (by kernel_rfl) ⟨(by omega), (by omega), True.intro⟩ ?_
 refine eC (down_ac (dot c.feed hx c.feed.length + dot c.back hy c.back.length) c.share (by omega) s1) ?_
 refine aX hTT 1 [] True.intro ?_; refine aops_nil ⟨by kernel_rfl, ?_⟩; refine xt_n (hK _ ?_); clear hK K
 refine aw_ret ?_
 refine retM (v' := V.i ((yyFA41 c hy hx) / Cv.share c)) [] [(2, V.i ((yyFA41 c hy hx) / Cv.share c))] (.inr rfl) (.cons (by kernel_rfl) .nil) (.cons ⟨(yyFA40 c hy hx m), (by kernel_rfl), .box (by kernel_rfl)⟩ .nil) (by kernel_rfl) (by kernel_rfl) (by kernel_rfl) (by kernel_rfl) (by kernel_rfl) (by kernel_rfl) (by kernel_rfl)
abbrev PB (k : Nat) : Ob := .box 234 [.ref k 0]
abbrev qFA40 : Prop := (0 : Nat) ≤ (1 : Nat)
theorem qFA40_ : qFA40 := (by omega)
abbrev yyFA48 (m : Nat) := (((m + (1 : Nat)) % (8 : Nat) + (7 : Nat)) % (8 : Nat))
abbrev yyFA49 (m : Nat) := (((m + (1 : Nat)) % (8 : Nat) + (6 : Nat)) % (8 : Nat))
abbrev yyFA410 (m : Nat) := (((m + (1 : Nat)) % (8 : Nat) + (5 : Nat)) % (8 : Nat))
abbrev yyFA411 (m : Nat) := (((m + (1 : Nat)) % (8 : Nat) + (4 : Nat)) % (8 : Nat))
abbrev yyFA412 (m : Nat) := (((m + (1 : Nat)) % (8 : Nat) + (3 : Nat)) % (8 : Nat))
abbrev yyFA413 (m : Nat) := (((m + (1 : Nat)) % (8 : Nat) + (2 : Nat)) % (8 : Nat))
abbrev yyFA414 (m : Nat) := (((m + (1 : Nat)) % (8 : Nat) + (1 : Nat)) % (8 : Nat))
abbrev yyFA46 (c : Cv) : V := V.sl 1 (List.length (Cv.feed c)) fun (k : Nat) => [V.i (gi (Cv.feed c) k)]
abbrev yyFA47 (c : Cv) : V := V.sl 1 (List.length (Cv.back c)) fun (k : Nat) => [V.i (gi (Cv.back c) k)]
abbrev yyFA42 (c : Cv) (hy : List Int) (hx : List Int) (m : Nat) (g : Int) : Ob := Ob.box 239 [V.i (gi (g :: hy) (yyFA48 m)), V.i (gi (g :: hy) (yyFA49 m)), V.i (gi (g :: hy) (yyFA410 m)), V.i (gi (g :: hy) (yyFA411 m)), V.i (gi (g :: hy) (yyFA412 m)), V.i (gi (g :: hy) (yyFA413 m)), V.i (gi (g :: hy) (yyFA414 m)), V.i (gi (g :: hy) ((m + (1 : Nat)) % (8 : Nat) % (8 : Nat))), V.i (↑((m + (1 : Nat)) % (8 : Nat)) : Int), V.i (gi ((g - corr c hx hy) :: hx) (yyFA48 m)), V.i (gi ((g - corr c hx hy) :: hx) (yyFA49 m)), V.i (gi ((g - corr c hx hy) :: hx) (yyFA410 m)), V.i (gi ((g - corr c hx hy) :: hx) (yyFA411 m)), V.i (gi ((g - corr c hx hy) :: hx) (yyFA412 m)), V.i (gi ((g - corr c hx hy) :: hx) (yyFA413 m)), V.i (gi ((g - corr c hx hy) :: hx) (yyFA414 m)), V.i (gi ((g - corr c hx hy) :: hx) ((m + (1 : Nat)) % (8 : Nat) % (8 : Nat))), V.i (↑((m + (1 : Nat)) % (8 : Nat)) : Int), (yyFA46 c), (yyFA47 c), V.i (Cv.share c)]
abbrev yyFA43 (c : Cv) (hy : List Int) (hx : List Int) (m : Nat) (g : Int) : Ob := Ob.box 239 [V.i (gi ((g + corr c hx hy) :: hy) (yyFA48 m)), V.i (gi ((g + corr c hx hy) :: hy) (yyFA49 m)), V.i (gi ((g + corr c hx hy) :: hy) (yyFA410 m)), V.i (gi ((g + corr c hx hy) :: hy) (yyFA411 m)), V.i (gi ((g + corr c hx hy) :: hy) (yyFA412 m)), V.i (gi ((g + corr c hx hy) :: hy) (yyFA413 m)), V.i (gi ((g + corr c hx hy) :: hy) (yyFA414 m)), V.i (gi ((g + corr c hx hy) :: hy) ((m + (1 : Nat)) % (8 : Nat) % (8 : Nat))), V.i (↑((m + (1 : Nat)) % (8 : Nat)) : Int), V.i (gi (g :: hx) (yyFA48 m)), V.i (gi (g :: hx) (yyFA49 m)), V.i (gi (g :: hx) (yyFA410 m)), V.i (gi (g :: hx) (yyFA411 m)), V.i (gi (g :: hx) (yyFA412 m)), V.i (gi (g :: hx) (yyFA413 m)), V.i (gi (g :: hx) (yyFA414 m)), V.i (gi (g :: hx) ((m + (1 : Nat)) % (8 : Nat) % (8 : Nat))), V.i (↑((m + (1 : Nat)) % (8 : Nat)) : Int), (yyFA46 c), (yyFA47 c), V.i (Cv.share c)]
abbrev yyFA44 (c : Cv) (hy : List Int) (hx : List Int) (m : Nat) (g : Int) : Ob := Ob.box 239 [V.i (gi hy ((m + (7 : Nat)) % (8 : Nat))), V.i (gi hy ((m + (6 : Nat)) % (8 : Nat))), V.i (gi hy ((m + (5 : Nat)) % (8 : Nat))), V.i (gi hy ((m + (4 : Nat)) % (8 : Nat))), V.i (gi hy ((m + (3 : Nat)) % (8 : Nat))), V.i (gi hy ((m + (2 : Nat)) % (8 : Nat))), V.i (gi hy ((m + (1 : Nat)) % (8 : Nat))), V.i (gi hy (m % (8 : Nat))), V.i (↑m : Int), V.i (gi ((g - corr c hx hy) :: hx) (yyFA48 m)), V.i (gi ((g - corr c hx hy) :: hx) (yyFA49 m)), V.i (gi ((g - corr c hx hy) :: hx) (yyFA410 m)), V.i (gi ((g - corr c hx hy) :: hx) (yyFA411 m)), V.i (gi ((g - corr c hx hy) :: hx) (yyFA412 m)), V.i (gi ((g - corr c hx hy) :: hx) (yyFA413 m)), V.i (gi ((g - corr c hx hy) :: hx) (yyFA414 m)), V.i (gi ((g - corr c hx hy) :: hx) ((m + (1 : Nat)) % (8 : Nat) % (8 : Nat))), V.i (↑((m + (1 : Nat)) % (8 : Nat)) : Int), (yyFA46 c), (yyFA47 c), V.i (Cv.share c)]
abbrev yyFA45 (c : Cv) (hy : List Int) (hx : List Int) (m : Nat) (g : Int) : Ob := Ob.box 239 [V.i (gi hy ((m + (7 : Nat)) % (8 : Nat))), V.i (gi hy ((m + (6 : Nat)) % (8 : Nat))), V.i (gi hy ((m + (5 : Nat)) % (8 : Nat))), V.i (gi hy ((m + (4 : Nat)) % (8 : Nat))), V.i (gi hy ((m + (3 : Nat)) % (8 : Nat))), V.i (gi hy ((m + (2 : Nat)) % (8 : Nat))), V.i (gi hy ((m + (1 : Nat)) % (8 : Nat))), V.i (gi hy (m % (8 : Nat))), V.i (↑m : Int), V.i (gi (g :: hx) (yyFA48 m)), V.i (gi (g :: hx) (yyFA49 m)), V.i (gi (g :: hx) (yyFA410 m)), V.i (gi (g :: hx) (yyFA411 m)), V.i (gi (g :: hx) (yyFA412 m)), V.i (gi (g :: hx) (yyFA413 m)), V.i (gi (g :: hx) (yyFA414 m)), V.i (gi (g :: hx) ((m + (1 : Nat)) % (8 : Nat) % (8 : Nat))), V.i (↑((m + (1 : Nat)) % (8 : Nat)) : Int), (yyFA46 c), (yyFA47 c), V.i (Cv.share c)]
set_option maxRecDepth 100000 in
theorem step1_ac (c : Cv) (u : Bool) (hy hx : List Int) (m : Nat) (n g : Int) (hc : cvOk c) (hm : m < 8) (hn : 0 ≤ n ∧ n ≤ 131072) (h1 : AllLe n hx) (h2 : AllLe n hy) (hg : -n ≤ g ∧ g ≤ n) :
  AM Tryz.prog 158 [.i g, .ptr [.b u], .ref 500 0] [PB 501, St c hy hx m] (.i (if u then g - corr c hx hy else g + corr c hx hy)) [some (PB 501), some (St c ((if u then g else g + corr c hx hy) :: hy) ((if u then g - corr c hx hy else g) :: hx) ((m + 1) % 8))] [] := by
 have b := corr_bd hc hn.1 h1 h2
 refine am_intro hTT hMX (fn := Tryz.f158) (N := _) ⟨Tryz.func158, rfl, Tryz.ntmps158, by kernel_rfl⟩ (by simp) rfl (by simp) (by simp) fun C hF => ?_
 refine aw_seq_k fun K hK => wR 2 ?_; refine aX hTT 1 [] True.intro ?_; refine aops_nil (xt_n (hK _ ?_)); clear hK K; refine aw_seq_k fun K hK => wR 3 ?_; refine aX hTT 4 [] True.intro ?_; refine aops_nil (xt_n (hK _ ?_)); clear hK K; refine aw_seq_k fun K hK => ?_; refine aw_seq_k fun K hK => wR 4 ?_; refine aX hTT 1 [] True.intro ?_; refine aops_nil (xt_n (hK _ ?_)); clear hK K
 refine w_cond (t := u) (by kernel_rfl) (fun c1 => ?_) (fun c1 => ?_)
 ·
  subst c1
  refine aw_seq_k fun K hK => wR 5 ?_; refine aX hTT 2 [(1, .c qFA40)] ⟨qFA40_, True.intro⟩ ?_
  refine aops_callR [501] (first := []) (caps := []) (ins' := [(yyFA40 c hy hx m)]) (v' := V.i (corr c hx hy)) (δ := []) (kp := [501]) (correction_ac c hy hx m n hc hm hn h1 h2) (by kernel_rfl) (by kernel_rfl) (by kernel_rfl) (by kernel_rfl) (by kernel_rfl) (by kernel_rfl) (by kernel_rfl) rfl (by kernel_rfl) (by kernel_rfl) ⟨(by kernel_rfl), True.intro⟩ (by kernel_rfl) (by kernel_rfl) (by kernel_rfl) ?_
  refine aX hTT 2 [(0, .i (g - corr c hx hy))] ⟨(by omega), True.intro⟩ ?_; refine aops_nil (xt_n (hK _ ?_)); clear hK K; refine aw_seq_k fun K hK => wR 6 ?_; refine aX hTT 4 [(0, .c qFA40)] ⟨qFA40_, True.intro⟩ ?_
  refine aops_callM [501] (first := []) (caps := []) (ins' := [(yyFA40 c hy hx m)]) (v' := V.tup []) (δ := [(501, Option.some ((yyFA44 c hy hx m g)))]) (kp := [501]) (putI_ac c hy hx m m (g - corr c hx hy) hm) (by kernel_rfl) (by kernel_rfl) (by kernel_rfl) (by kernel_rfl) (by kernel_rfl) (by kernel_rfl) rfl rfl (by kernel_rfl) (.box (by kernel_rfl) (by kernel_rfl) .nil) (by kernel_rfl) (by kernel_rfl) (by kernel_rfl) ?_
  refine aops_nil (xt_n (hK _ ?_)); clear hK K; refine aw_seq_k fun K hK => wR 7 ?_; refine aX hTT 4 [(0, .c qFA40)] ⟨qFA40_, True.intro⟩ ?_
  refine aops_callM [501] (first := []) (caps := []) (ins' := [(yyFA44 c hy hx m g)]) (v' := V.tup []) (δ := [(501, Option.some ((yyFA42 c hy hx m g)))]) (kp := [501]) (putO_ac c hy ((g - corr c hx hy) :: hx) m ((m + 1) % 8) g hm) (by kernel_rfl) (by kernel_rfl) (by kernel_rfl) (by kernel_rfl) (by kernel_rfl) (by kernel_rfl) rfl rfl (by kernel_rfl) (.box (by kernel_rfl) (by kernel_rfl) .nil) (by kernel_rfl) (by kernel_rfl) (by kernel_rfl) ?_
  refine aops_nil (xt_n (hK _ ?_)); clear hK K; refine aw_seq_k fun K hK => wR 8 ?_; refine aX hTT 2 [] True.intro ?_; refine aops_nil (xt_n (hK _ ?_)); clear hK K
  refine aw_ret ?_
  refine xt_r ?_
  refine retM (v' := V.i (g - corr c hx hy)) [] [(4, V.i (g - corr c hx hy))] (.inr rfl) (.cons (by kernel_rfl) .nil) (.cons ⟨Ob.box 234 [V.ref 501 0], (by kernel_rfl), .box (by kernel_rfl)⟩ (.cons ⟨(yyFA42 c hy hx m g), (by kernel_rfl), .box (by kernel_rfl)⟩ .nil)) (by kernel_rfl) (by kernel_rfl) (by kernel_rfl) (by kernel_rfl) (by kernel_rfl) (by kernel_rfl) (by kernel_rfl)
 ·
  subst c1
  refine aw_skip ?_
  refine xt_n (hK _ ?_); clear hK K; refine aw_seq_k fun K hK => wR 5 ?_; refine aX hTT 2 [(1, .c qFA40)] ⟨qFA40_, True.intro⟩ ?_
  refine aops_callR [501] (first := []) (caps := []) (ins' := [(yyFA40 c hy hx m)]) (v' := V.i (corr c hx hy)) (δ := []) (kp := [501]) (correction_ac c hy hx m n hc hm hn h1 h2) (by kernel_rfl) (by kernel_rfl) (by kernel_rfl) (by kernel_rfl) (by kernel_rfl) (by kernel_rfl) (by kernel_rfl) rfl (by kernel_rfl) (by kernel_rfl) ⟨(by kernel_rfl), True.intro⟩ (by kernel_rfl) (by kernel_rfl) (by kernel_rfl) ?_
  refine aX hTT 2 [(0, .i (g + corr c hx hy))] ⟨(by omega), True.intro⟩ ?_; refine aops_nil (xt_n (hK _ ?_)); clear hK K; refine aw_seq_k fun K hK => wR 6 ?_; refine aX hTT 4 [(0, .c qFA40)] ⟨qFA40_, True.intro⟩ ?_
  refine aops_callM [501] (first := []) (caps := []) (ins' := [(yyFA40 c hy hx m)]) (v' := V.tup []) (δ := [(501, Option.some ((yyFA45 c hy hx m g)))]) (kp := [501]) (putI_ac c hy hx m m g hm) (by kernel_rfl) (by kernel_rfl) (by kernel_rfl) (by kernel_rfl) (by kernel_rfl) (by kernel_rfl) rfl rfl (by kernel_rfl) (.box (by kernel_rfl) (by kernel_rfl) .nil) (by kernel_rfl) (by kernel_rfl) (by kernel_rfl) ?_
  refine aops_nil (xt_n (hK _ ?_)); clear hK K; refine aw_seq_k fun K hK => wR 7 ?_; refine aX hTT 4 [(0, .c qFA40)] ⟨qFA40_, True.intro⟩ ?_
  refine aops_callM [501] (first := []) (caps := []) (ins' := [(yyFA45 c hy hx m g)]) (v' := V.tup []) (δ := [(501, Option.some ((yyFA43 c hy hx m g)))]) (kp := [501]) (putO_ac c hy (g :: hx) m ((m + 1) % 8) (g + corr c hx hy) hm) (by kernel_rfl) (by kernel_rfl) (by kernel_rfl) (by kernel_rfl) (by kernel_rfl) (by kernel_rfl) rfl rfl (by kernel_rfl) (.box (by kernel_rfl) (by kernel_rfl) .nil) (by kernel_rfl) (by kernel_rfl) (by kernel_rfl) ?_
  refine aops_nil (xt_n (hK _ ?_)); clear hK K; refine aw_seq_k fun K hK => wR 8 ?_; refine aX hTT 2 [] True.intro ?_; refine aops_nil (xt_n (hK _ ?_)); clear hK K
  refine aw_ret ?_
  refine retM (v' := V.i (g + corr c hx hy)) [] [(4, V.i (g + corr c hx hy))] (.inr rfl) (.cons (by kernel_rfl) .nil) (.cons ⟨Ob.box 234 [V.ref 501 0], (by kernel_rfl), .box (by kernel_rfl)⟩ (.cons ⟨(yyFA43 c hy hx m g), (by kernel_rfl), .box (by kernel_rfl)⟩ .nil)) (by kernel_rfl) (by kernel_rfl) (by kernel_rfl) (by kernel_rfl) (by kernel_rfl) (by kernel_rfl) (by kernel_rfl)
abbrev FStep (u : Bool) (k : Nat) : V := .fn (.func 158) [] [.ptr [.b u], .ref k 0]
abbrev FIn (m : Int) : V := .fn (.func 161) [] [.ptr [.i m]]
abbrev yyFA415 (c : Cv) : Ob := Ob.box 239 [V.i 0, V.i 0, V.i 0, V.i 0, V.i 0, V.i 0, V.i 0, V.i 0, V.i 0, V.i 0, V.i 0, V.i 0, V.i 0, V.i 0, V.i 0, V.i 0, V.i 0, V.i 0, (yyFA46 c), (yyFA47 c), V.i (Cv.share c)]
set_option maxRecDepth 100000 in
theorem fStep_ac (c : Cv) (u : Bool) : AC Tryz.prog 139 [V.cv c, .b u] (FStep u 0) [PB 1, St c [] [] 0] := by
 refine acI hTT hMX Tryz.func139 Tryz.ntmps139 fun C hC hF => ?_
 refine aw_seq_k fun K hK => wR 2 ?_
 refine aops_x (M := [8]) hTT 3 [] True.intro ?_
 refine aops_nil (xt_n (hK _ ?_)); clear hK K; refine aw_seq_k fun K hK => wR 3 ?_
 refine aops_x (M := [8]) hTT 5 [(2, .r (pn 8 (V.ref 200008 0) (200008 : Nat) ((yyFA415 c)))), (3, .r (pn 5 (V.ref 200005 0) (200005 : Nat) (Ob.box 234 [V.c (Value.pointer none)]))), (4, .r (pw ((0 : Nat) + (1 : Nat) ≤ (1 : Nat)) (200005 : Nat) (Ob.box 234 [V.ref 200008 0])))] ⟨(by omega), True.intro⟩ ?_
 refine aops_nil (xt_n (hK _ ?_)); clear hK K; refine aw_seq_k fun K hK => wR 4 ?_
 refine aops_x (M := [8]) hTT 2 [] True.intro ?_
 refine aops_nil (xt_n (hK _ ?_)); clear hK K
 refine aw_ret ?_
 refine ret_of_M ?_
 refine retM (v' := V.fn (Fn.func (158 : Nat)) [] [V.ptr [V.b u], V.ref 0 0]) [(0, 200005), (1, 200008)] [(4, V.fn (Fn.func (158 : Nat)) [] [V.ptr [V.b u], V.ref 0 0])] (.inr rfl) (.cons (by kernel_rfl) .nil) (.cons ⟨Ob.box 234 [V.ref 200008 0], (by kernel_rfl), .box (by kernel_rfl)⟩ (.cons ⟨(yyFA415 c), (by kernel_rfl), .box (by kernel_rfl)⟩ .nil)) (by kernel_rfl) (by kernel_rfl) (by kernel_rfl) (by kernel_rfl) (by kernel_rfl) (by kernel_rfl) (by kernel_rfl)
set_option maxRecDepth 100000 in
theorem within_ac (m : Int) : AC Tryz.prog 140 [.i m] (FIn m) [] := by
 refine acI hTT hMX Tryz.func140 Tryz.ntmps140 fun C hC hF => ?_
 refine aw_seq_k fun K hK => wR 2 ?_; refine aX hTT 2 [] True.intro ?_; refine aops_nil (xt_n (hK _ ?_)); clear hK K; refine aw_seq_k fun K hK => wR 3 ?_; refine aX hTT 2 [] True.intro ?_; refine aops_nil (xt_n (hK _ ?_)); clear hK K
 refine aw_ret ?_
 refine rP (V.fn (Fn.func (161 : Nat)) [] [V.ptr [V.i m]])
set_option maxRecDepth 100000 in
theorem within1_ac (n m : Int) (hm : 0 ≤ m ∧ m ≤ 4611686018427387904) : AC Tryz.prog 161 [.i n, .ptr [.i m]] (.b (!bey n m)) [] := by
 refine acI hTT hMX Tryz.func161 Tryz.ntmps161 fun C hC hF => ?_
 refine aw_seq_k fun K hK => wR 2 ?_; refine aX hTT 1 [] True.intro ?_; refine aops_nil (xt_n (hK _ ?_)); clear hK K; refine aw_seq_k fun K hK => wR 3 ?_; refine aX hTT 2 [] True.intro ?_
 refine eC (beyond_ac n m hm) ?_
 refine aX hTT 2 [] True.intro ?_; refine aops_nil (xt_n (hK _ ?_)); clear hK K
 refine aw_ret ?_
 refine rP (V.b !bey n m)
end Go.Proofs.YtepkjobndmmejaaGreatDoor

namespace Go.Proofs.YtepkjobndmmejaaGreatDoor
open Go.Ab Go.RowKit Go.Dw Go.Shelf
theorem step1_hist (c : Cv) (u : Bool) (l : List Int) (k : Nat) (n : Int) (hc : cvOk c) (hn : 0 ≤ n ∧ n ≤ 131072) (ha : AllLe n l) (hf : fine c u l n k) :
  AM Tryz.prog 158 [.i (gi l k), .ptr [.b u], .ref 500 0] [PB 501, St c (hist c u l k).2 (hist c u l k).1 (k % 8)] (.i (outK c u l k)) [some (PB 501), some (St c (hist c u l (k + 1)).2 (hist c u l (k + 1)).1 ((k + 1) % 8))] [] := by
 obtain ⟨b1, b2⟩ := hist_bd hn.1 ha hf
 refine (step1_ac c u (hist c u l k).2 (hist c u l k).1 (k % 8) n (gi l k) hc (by omega) hn b1 b2 (ha.gi hn.1 k)).conv rfl ?_
 rw [show (k + 1) % 8 = (k % 8 + 1) % 8 by omega, hist_x, hist_y]
 cases u <;> rfl
abbrev yyFA50 (c : Cv) : V := V.sl 1 (List.length (Cv.feed c)) fun (k : Nat) => [V.i (gi (Cv.feed c) k)]
abbrev yyFA51 (c : Cv) : V := V.sl 1 (List.length (Cv.back c)) fun (k : Nat) => [V.i (gi (Cv.back c) k)]
set_option maxRecDepth 100000 in
theorem each_ok (c : Cv) (u : Bool) (l : List Int) (mx : Int) (hc : cvOk c) (hl : l.length ≤ 8192) (hm : 0 ≤ mx ∧ mx ≤ 131072) (ha : AllLe mx l) (hf : fine c u l mx l.length) :
  AM Tryz.prog 138 [V.ints l, FStep u 500, FIn mx] [PB 501, St c [] [] 0] (.tup [.own 0, .i 0]) [none, none] [.row 2 1 l.length fun k => [.i (gi (resL c u l) k)]] := by
 refine am_intro hTT hMX (fn := Tryz.f138) (N := _) ⟨Tryz.func138, rfl, Tryz.ntmps138, by kernel_rfl⟩ (by simp) rfl (by simp) (by simp) fun C hF => ?_
 refine aw_seq_k fun K hK => wR 2 ?_; refine aX hTT 2 [] True.intro ?_; refine aops_nil (xt_n (hK _ ?_)); clear hK K; refine aw_seq_k fun K hK => wR 3 ?_; refine aX hTT 4 [(2, .r (PR.mk (some (14 : Nat)) (some ((0 : Int) ≤ (0 : Int) ∧ (0 : Int) ≤ (↑(List.length l) : Int) ∧ (↑(List.length l) : Int) ≤ (1099511627776 : Int))) (V.own 200014) [((200014 : Nat), some (Ob.row 2 1 0 fun (x : Nat) => [V.c (Value.int IntKind.i64 0)]))] false))] ⟨⟨(by omega), (by omega)⟩, True.intro⟩ ?_; refine aops_nil (xt_n (hK _ ?_)); clear hK K; refine aw_seq_k fun K hK => ?_; refine aw_seq_k fun K hK => wR 4 ?_; refine aX hTT 3 [] True.intro ?_; refine aops_nil (xt_n (hK _ ?_)); clear hK K
 refine aw_block ?_
 refine w_loop (ι := Nat) (fun k => [(1, FStep u 500), (2, FIn mx), (8, .own 8), (15, V.ints l), (16, .i l.length), (17, .i k)])
  (fun k => [(500, PB 501), (501, St c (hist c u l k).2 (hist c u l k).1 (k % 8)), (8, .row 2 1 k fun j => [.i (gi (resL c u l) j)])]) (fun k => k ≤ l.length ∧ fine c u l mx k) (fun k => l.length - k) 0 ⟨Nat.zero_le _, fun j hj => by omega⟩ ?_ ?_
 ·
  refine le_ren (tl := [(1, V.fn (Fn.func (158 : Nat)) [] [V.ptr [V.b u], V.ref 500 0]), (2, V.fn (Fn.func (161 : Nat)) [] [V.ptr [V.i mx]]), (8, V.own 8), (15, V.sl 1 (List.length l) fun (k : Nat) => [V.i (gi l k)]), (16, V.i (↑(List.length l) : Int)), (17, V.i 0)]) (sl := [(500, Ob.box 234 [V.ref 501 0]), (501, Ob.box 239 [V.i (gi (Prod.snd (hist c u l (0 : Nat))) (((0 : Nat) % (8 : Nat) + (7 : Nat)) % (8 : Nat))), V.i (gi (Prod.snd (hist c u l (0 : Nat))) (((0 : Nat) % (8 : Nat) + (6 : Nat)) % (8 : Nat))), V.i (gi (Prod.snd (hist c u l (0 : Nat))) (((0 : Nat) % (8 : Nat) + (5 : Nat)) % (8 : Nat))), V.i (gi (Prod.snd (hist c u l (0 : Nat))) (((0 : Nat) % (8 : Nat) + (4 : Nat)) % (8 : Nat))), V.i (gi (Prod.snd (hist c u l (0 : Nat))) (((0 : Nat) % (8 : Nat) + (3 : Nat)) % (8 : Nat))), V.i (gi (Prod.snd (hist c u l (0 : Nat))) (((0 : Nat) % (8 : Nat) + (2 : Nat)) % (8 : Nat))), V.i (gi (Prod.snd (hist c u l (0 : Nat))) (((0 : Nat) % (8 : Nat) + (1 : Nat)) % (8 : Nat))), V.i (gi (Prod.snd (hist c u l (0 : Nat))) ((0 : Nat) % (8 : Nat) % (8 : Nat))), V.i 0, V.i (gi (Prod.fst (hist c u l (0 : Nat))) (((0 : Nat) % (8 : Nat) + (7 : Nat)) % (8 : Nat))), V.i (gi (Prod.fst (hist c u l (0 : Nat))) (((0 : Nat) % (8 : Nat) + (6 : Nat)) % (8 : Nat))), V.i (gi (Prod.fst (hist c u l (0 : Nat))) (((0 : Nat) % (8 : Nat) + (5 : Nat)) % (8 : Nat))), V.i (gi (Prod.fst (hist c u l (0 : Nat))) (((0 : Nat) % (8 : Nat) + (4 : Nat)) % (8 : Nat))), V.i (gi (Prod.fst (hist c u l (0 : Nat))) (((0 : Nat) % (8 : Nat) + (3 : Nat)) % (8 : Nat))), V.i (gi (Prod.fst (hist c u l (0 : Nat))) (((0 : Nat) % (8 : Nat) + (2 : Nat)) % (8 : Nat))), V.i (gi (Prod.fst (hist c u l (0 : Nat))) (((0 : Nat) % (8 : Nat) + (1 : Nat)) % (8 : Nat))), V.i (gi (Prod.fst (hist c u l (0 : Nat))) ((0 : Nat) % (8 : Nat) % (8 : Nat))), V.i 0, (yyFA50 c), (yyFA51 c), V.i (Cv.share c)]), (8, Ob.row 2 1 0 fun (j : Nat) => [V.i (gi (resL c u l) j)])]) [(8, 200014)] (.cons (by kernel_rfl) (.cons (by kernel_rfl) (.cons (by kernel_rfl) (.cons (by kernel_rfl) (.cons (by kernel_rfl) (.cons (by kernel_rfl) .nil)))))) (.cons ⟨Ob.box 234 [V.ref 501 0], (by kernel_rfl), .box (by kernel_rfl)⟩ (.cons ⟨Ob.box 239 [V.i (gi [] (((0 : Nat) + (7 : Nat)) % (8 : Nat))), V.i (gi [] (((0 : Nat) + (6 : Nat)) % (8 : Nat))), V.i (gi [] (((0 : Nat) + (5 : Nat)) % (8 : Nat))), V.i (gi [] (((0 : Nat) + (4 : Nat)) % (8 : Nat))), V.i (gi [] (((0 : Nat) + (3 : Nat)) % (8 : Nat))), V.i (gi [] (((0 : Nat) + (2 : Nat)) % (8 : Nat))), V.i (gi [] (((0 : Nat) + (1 : Nat)) % (8 : Nat))), V.i (gi [] ((0 : Nat) % (8 : Nat))), V.i 0, V.i (gi [] (((0 : Nat) + (7 : Nat)) % (8 : Nat))), V.i (gi [] (((0 : Nat) + (6 : Nat)) % (8 : Nat))), V.i (gi [] (((0 : Nat) + (5 : Nat)) % (8 : Nat))), V.i (gi [] (((0 : Nat) + (4 : Nat)) % (8 : Nat))), V.i (gi [] (((0 : Nat) + (3 : Nat)) % (8 : Nat))), V.i (gi [] (((0 : Nat) + (2 : Nat)) % (8 : Nat))), V.i (gi [] (((0 : Nat) + (1 : Nat)) % (8 : Nat))), V.i (gi [] ((0 : Nat) % (8 : Nat))), V.i 0, (yyFA50 c), (yyFA51 c), V.i (Cv.share c)], (by kernel_rfl), .box (by kernel_rfl)⟩ (.cons ⟨Ob.row 2 1 0 fun (x : Nat) => [V.c (Value.int IntKind.i64 0)], (by kernel_rfl), .row (by kernel_rfl) ?_⟩ .nil))) (by kernel_rfl) (by kernel_rfl)
  intro i hi
  omega
 rintro k ⟨hk, hfk⟩
 refine aw_seq_k fun K hK => wR 2 ?_; refine aX hTT 1 [] True.intro ?_; refine aops_nil (xt_n (hK _ ?_)); clear hK K; refine aw_seq_k fun K hK => ?_
 refine w_cond (t := decide ((↑k : Int) < (↑(List.length l) : Int))) (by kernel_rfl) (fun c1 => ?_) (fun c1 => ?_)
 ·
  simp at c1
  refine aw_skip ?_
  refine xt_n (hK _ ?_); clear hK K; refine aw_seq_k fun K hK => ?_
  refine aw_block ?_
  refine aw_seq_k fun K hK => wR 3 ?_; refine aX hTT 3 [(0, .c ((0 : Int) ≤ (↑k : Int) ∧ (↑k : Int) < (↑(List.length l) : Int)))] ⟨(by omega), True.intro⟩ ?_; refine aops_nil (xt_n (hK _ ?_)); clear hK K; refine aw_seq_k fun K hK => wR 4 ?_; refine aX hTT 2 [] True.intro ?_
  refine aops_callM [500, 501] (first := []) (caps := [V.ptr [V.b u], V.ref 500 0]) (ins' := [Ob.box 234 [V.ref 501 0], Ob.box 239 [V.i (gi (Prod.snd (hist c u l k)) ((k % (8 : Nat) + (7 : Nat)) % (8 : Nat))), V.i (gi (Prod.snd (hist c u l k)) ((k % (8 : Nat) + (6 : Nat)) % (8 : Nat))), V.i (gi (Prod.snd (hist c u l k)) ((k % (8 : Nat) + (5 : Nat)) % (8 : Nat))), V.i (gi (Prod.snd (hist c u l k)) ((k % (8 : Nat) + (4 : Nat)) % (8 : Nat))), V.i (gi (Prod.snd (hist c u l k)) ((k % (8 : Nat) + (3 : Nat)) % (8 : Nat))), V.i (gi (Prod.snd (hist c u l k)) ((k % (8 : Nat) + (2 : Nat)) % (8 : Nat))), V.i (gi (Prod.snd (hist c u l k)) ((k % (8 : Nat) + (1 : Nat)) % (8 : Nat))), V.i (gi (Prod.snd (hist c u l k)) (k % (8 : Nat) % (8 : Nat))), V.i (↑(k % (8 : Nat)) : Int), V.i (gi (Prod.fst (hist c u l k)) ((k % (8 : Nat) + (7 : Nat)) % (8 : Nat))), V.i (gi (Prod.fst (hist c u l k)) ((k % (8 : Nat) + (6 : Nat)) % (8 : Nat))), V.i (gi (Prod.fst (hist c u l k)) ((k % (8 : Nat) + (5 : Nat)) % (8 : Nat))), V.i (gi (Prod.fst (hist c u l k)) ((k % (8 : Nat) + (4 : Nat)) % (8 : Nat))), V.i (gi (Prod.fst (hist c u l k)) ((k % (8 : Nat) + (3 : Nat)) % (8 : Nat))), V.i (gi (Prod.fst (hist c u l k)) ((k % (8 : Nat) + (2 : Nat)) % (8 : Nat))), V.i (gi (Prod.fst (hist c u l k)) ((k % (8 : Nat) + (1 : Nat)) % (8 : Nat))), V.i (gi (Prod.fst (hist c u l k)) (k % (8 : Nat) % (8 : Nat))), V.i (↑(k % (8 : Nat)) : Int), (yyFA50 c), (yyFA51 c), V.i (Cv.share c)]]) (v' := V.i (outK c u l k)) (δ := [(500, Option.some (Ob.box 234 [V.ref 501 0])), (501, Option.some (Ob.box 239 [V.i (gi (Prod.snd (hist c u l (k + (1 : Nat)))) (((k + (1 : Nat)) % (8 : Nat) + (7 : Nat)) % (8 : Nat))), V.i (gi (Prod.snd (hist c u l (k + (1 : Nat)))) (((k + (1 : Nat)) % (8 : Nat) + (6 : Nat)) % (8 : Nat))), V.i (gi (Prod.snd (hist c u l (k + (1 : Nat)))) (((k + (1 : Nat)) % (8 : Nat) + (5 : Nat)) % (8 : Nat))), V.i (gi (Prod.snd (hist c u l (k + (1 : Nat)))) (((k + (1 : Nat)) % (8 : Nat) + (4 : Nat)) % (8 : Nat))), V.i (gi (Prod.snd (hist c u l (k + (1 : Nat)))) (((k + (1 : Nat)) % (8 : Nat) + (3 : Nat)) % (8 : Nat))), V.i (gi (Prod.snd (hist c u l (k + (1 : Nat)))) (((k + (1 : Nat)) % (8 : Nat) + (2 : Nat)) % (8 : Nat))), V.i (gi (Prod.snd (hist c u l (k + (1 : Nat)))) (((k + (1 : Nat)) % (8 : Nat) + (1 : Nat)) % (8 : Nat))), V.i (gi (Prod.snd (hist c u l (k + (1 : Nat)))) ((k + (1 : Nat)) % (8 : Nat) % (8 : Nat))), V.i (↑((k + (1 : Nat)) % (8 : Nat)) : Int), V.i (gi (Prod.fst (hist c u l (k + (1 : Nat)))) (((k + (1 : Nat)) % (8 : Nat) + (7 : Nat)) % (8 : Nat))), V.i (gi (Prod.fst (hist c u l (k + (1 : Nat)))) (((k + (1 : Nat)) % (8 : Nat) + (6 : Nat)) % (8 : Nat))), V.i (gi (Prod.fst (hist c u l (k + (1 : Nat)))) (((k + (1 : Nat)) % (8 : Nat) + (5 : Nat)) % (8 : Nat))), V.i (gi (Prod.fst (hist c u l (k + (1 : Nat)))) (((k + (1 : Nat)) % (8 : Nat) + (4 : Nat)) % (8 : Nat))), V.i (gi (Prod.fst (hist c u l (k + (1 : Nat)))) (((k + (1 : Nat)) % (8 : Nat) + (3 : Nat)) % (8 : Nat))), V.i (gi (Prod.fst (hist c u l (k + (1 : Nat)))) (((k + (1 : Nat)) % (8 : Nat) + (2 : Nat)) % (8 : Nat))), V.i (gi (Prod.fst (hist c u l (k + (1 : Nat)))) (((k + (1 : Nat)) % (8 : Nat) + (1 : Nat)) % (8 : Nat))), V.i (gi (Prod.fst (hist c u l (k + (1 : Nat)))) ((k + (1 : Nat)) % (8 : Nat) % (8 : Nat))), V.i (↑((k + (1 : Nat)) % (8 : Nat)) : Int), (yyFA50 c), (yyFA51 c), V.i (Cv.share c)]))]) (kp := [500, 501]) (step1_hist c u l k mx hc hm ha hfk) (by kernel_rfl) (by kernel_rfl) (by kernel_rfl) (by kernel_rfl) (by kernel_rfl) (by kernel_rfl) rfl rfl (by kernel_rfl) (.box (by kernel_rfl) (by kernel_rfl) (.box (by kernel_rfl) (by kernel_rfl) .nil)) (by kernel_rfl) (by kernel_rfl) (by kernel_rfl) ?_
  refine aX hTT 1 [] True.intro ?_; refine aops_nil (xt_n (hK _ ?_)); clear hK K; refine aw_seq_k fun K hK => ?_; refine aw_seq_k fun K hK => wR 5 ?_; refine aX hTT 2 [] True.intro ?_
  refine e_call (first := []) (caps := [V.ptr [V.i mx]]) (within1_ac (outK c u l k) mx (by omega)) (by kernel_rfl) (by kernel_rfl) (by kernel_rfl) (by kernel_rfl) (by kernel_rfl) ?_
  refine aX hTT 1 [] True.intro ?_; refine aops_nil (xt_n (hK _ ?_)); clear hK K
  refine w_cond (t := !!bey (outK c u l k) mx) (by kernel_rfl) (fun c2 => ?_) (fun c2 => ?_)
  ·
   simp at c2
   rw [hf k c1] at c2
   cases c2
  simp at c2
  refine aw_skip ?_
  refine xt_n (hK _ ?_); clear hK K; refine wR 6 ?_; refine aX hTT 5 [(3, .r (PR.mk (some (31 : Nat)) (some (k + (1 : Nat) ≤ (1099511627776 : Nat))) (V.own 500031) [((8 : Nat), none), ((500031 : Nat), some (Ob.row 2 1 (k + (1 : Nat)) (appRow k (fun (j : Nat) => [V.i (gi (resL c u l) j)]) fun (i : Nat) => List.take (1 : Nat) (List.drop (i * (1 : Nat)) [V.i (outK c u l k)]))))] false))] ⟨(by omega), True.intro⟩ ?_; refine aops_nil ?_; refine xb_n ?_; refine xt_n (hK _ ?_); clear hK K; refine wR 7 ?_; refine aX hTT 2 [(0, .i ((↑k : Int) + (1 : Int)))] ⟨(by omega), True.intro⟩ ?_; refine aops_nil ?_; refine xt_n ?_
  refine ⟨k + 1, ⟨by omega, fun i hi => ?_⟩, ?_, by omega⟩
  ·
   by_cases h : i < k
   ·
    exact hfk i h
   ·
    obtain rfl : i = k := by omega
    exact c2
  refine le_ren (tl := [(1, V.fn (Fn.func (158 : Nat)) [] [V.ptr [V.b u], V.ref 500 0]), (2, V.fn (Fn.func (161 : Nat)) [] [V.ptr [V.i mx]]), (8, V.own 8), (15, V.sl 1 (List.length l) fun (k : Nat) => [V.i (gi l k)]), (16, V.i (↑(List.length l) : Int)), (17, V.i (↑(k + (1 : Nat)) : Int))]) (sl := [(500, Ob.box 234 [V.ref 501 0]), (501, Ob.box 239 [V.i (gi (Prod.snd (hist c u l (k + (1 : Nat)))) (((k + (1 : Nat)) % (8 : Nat) + (7 : Nat)) % (8 : Nat))), V.i (gi (Prod.snd (hist c u l (k + (1 : Nat)))) (((k + (1 : Nat)) % (8 : Nat) + (6 : Nat)) % (8 : Nat))), V.i (gi (Prod.snd (hist c u l (k + (1 : Nat)))) (((k + (1 : Nat)) % (8 : Nat) + (5 : Nat)) % (8 : Nat))), V.i (gi (Prod.snd (hist c u l (k + (1 : Nat)))) (((k + (1 : Nat)) % (8 : Nat) + (4 : Nat)) % (8 : Nat))), V.i (gi (Prod.snd (hist c u l (k + (1 : Nat)))) (((k + (1 : Nat)) % (8 : Nat) + (3 : Nat)) % (8 : Nat))), V.i (gi (Prod.snd (hist c u l (k + (1 : Nat)))) (((k + (1 : Nat)) % (8 : Nat) + (2 : Nat)) % (8 : Nat))), V.i (gi (Prod.snd (hist c u l (k + (1 : Nat)))) (((k + (1 : Nat)) % (8 : Nat) + (1 : Nat)) % (8 : Nat))), V.i (gi (Prod.snd (hist c u l (k + (1 : Nat)))) ((k + (1 : Nat)) % (8 : Nat) % (8 : Nat))), V.i (↑((k + (1 : Nat)) % (8 : Nat)) : Int), V.i (gi (Prod.fst (hist c u l (k + (1 : Nat)))) (((k + (1 : Nat)) % (8 : Nat) + (7 : Nat)) % (8 : Nat))), V.i (gi (Prod.fst (hist c u l (k + (1 : Nat)))) (((k + (1 : Nat)) % (8 : Nat) + (6 : Nat)) % (8 : Nat))), V.i (gi (Prod.fst (hist c u l (k + (1 : Nat)))) (((k + (1 : Nat)) % (8 : Nat) + (5 : Nat)) % (8 : Nat))), V.i (gi (Prod.fst (hist c u l (k + (1 : Nat)))) (((k + (1 : Nat)) % (8 : Nat) + (4 : Nat)) % (8 : Nat))), V.i (gi (Prod.fst (hist c u l (k + (1 : Nat)))) (((k + (1 : Nat)) % (8 : Nat) + (3 : Nat)) % (8 : Nat))), V.i (gi (Prod.fst (hist c u l (k + (1 : Nat)))) (((k + (1 : Nat)) % (8 : Nat) + (2 : Nat)) % (8 : Nat))), V.i (gi (Prod.fst (hist c u l (k + (1 : Nat)))) (((k + (1 : Nat)) % (8 : Nat) + (1 : Nat)) % (8 : Nat))), V.i (gi (Prod.fst (hist c u l (k + (1 : Nat)))) ((k + (1 : Nat)) % (8 : Nat) % (8 : Nat))), V.i (↑((k + (1 : Nat)) % (8 : Nat)) : Int), (yyFA50 c), (yyFA51 c), V.i (Cv.share c)]), (8, Ob.row 2 1 (k + (1 : Nat)) fun (j : Nat) => [V.i (gi (resL c u l) j)])]) [(8, 500031)] (.cons (by kernel_rfl) (.cons (by kernel_rfl) (.cons (by kernel_rfl) (.cons (by kernel_rfl) (.cons (by kernel_rfl) (.cons (by kernel_rfl) .nil)))))) (.cons ⟨Ob.box 234 [V.ref 501 0], (by kernel_rfl), .box (by kernel_rfl)⟩ (.cons ⟨Ob.box 239 [V.i (gi (Prod.snd (hist c u l (k + (1 : Nat)))) (((k + (1 : Nat)) % (8 : Nat) + (7 : Nat)) % (8 : Nat))), V.i (gi (Prod.snd (hist c u l (k + (1 : Nat)))) (((k + (1 : Nat)) % (8 : Nat) + (6 : Nat)) % (8 : Nat))), V.i (gi (Prod.snd (hist c u l (k + (1 : Nat)))) (((k + (1 : Nat)) % (8 : Nat) + (5 : Nat)) % (8 : Nat))), V.i (gi (Prod.snd (hist c u l (k + (1 : Nat)))) (((k + (1 : Nat)) % (8 : Nat) + (4 : Nat)) % (8 : Nat))), V.i (gi (Prod.snd (hist c u l (k + (1 : Nat)))) (((k + (1 : Nat)) % (8 : Nat) + (3 : Nat)) % (8 : Nat))), V.i (gi (Prod.snd (hist c u l (k + (1 : Nat)))) (((k + (1 : Nat)) % (8 : Nat) + (2 : Nat)) % (8 : Nat))), V.i (gi (Prod.snd (hist c u l (k + (1 : Nat)))) (((k + (1 : Nat)) % (8 : Nat) + (1 : Nat)) % (8 : Nat))), V.i (gi (Prod.snd (hist c u l (k + (1 : Nat)))) ((k + (1 : Nat)) % (8 : Nat) % (8 : Nat))), V.i (↑((k + (1 : Nat)) % (8 : Nat)) : Int), V.i (gi (Prod.fst (hist c u l (k + (1 : Nat)))) (((k + (1 : Nat)) % (8 : Nat) + (7 : Nat)) % (8 : Nat))), V.i (gi (Prod.fst (hist c u l (k + (1 : Nat)))) (((k + (1 : Nat)) % (8 : Nat) + (6 : Nat)) % (8 : Nat))), V.i (gi (Prod.fst (hist c u l (k + (1 : Nat)))) (((k + (1 : Nat)) % (8 : Nat) + (5 : Nat)) % (8 : Nat))), V.i (gi (Prod.fst (hist c u l (k + (1 : Nat)))) (((k + (1 : Nat)) % (8 : Nat) + (4 : Nat)) % (8 : Nat))), V.i (gi (Prod.fst (hist c u l (k + (1 : Nat)))) (((k + (1 : Nat)) % (8 : Nat) + (3 : Nat)) % (8 : Nat))), V.i (gi (Prod.fst (hist c u l (k + (1 : Nat)))) (((k + (1 : Nat)) % (8 : Nat) + (2 : Nat)) % (8 : Nat))), V.i (gi (Prod.fst (hist c u l (k + (1 : Nat)))) (((k + (1 : Nat)) % (8 : Nat) + (1 : Nat)) % (8 : Nat))), V.i (gi (Prod.fst (hist c u l (k + (1 : Nat)))) ((k + (1 : Nat)) % (8 : Nat) % (8 : Nat))), V.i (↑((k + (1 : Nat)) % (8 : Nat)) : Int), (yyFA50 c), (yyFA51 c), V.i (Cv.share c)], (by kernel_rfl), .box (by kernel_rfl)⟩ (.cons ⟨Ob.row 2 1 (k + (1 : Nat)) (appRow k (fun (j : Nat) => [V.i (gi (resL c u l) j)]) fun (i : Nat) => List.take (1 : Nat) (List.drop (i * (1 : Nat)) [V.i (outK c u l k)])), (by kernel_rfl), .row (by kernel_rfl) ?_⟩ .nil))) (by kernel_rfl) (by kernel_rfl)
  intro i hi
  by_cases h : i < k
  ·
   rw [appRow, if_pos h]
   rfl
  ·
   obtain rfl : i = k := by omega
   rw [appRow, if_neg h, Nat.sub_self]
   show _ = [V.i (gi (resL c u l) i)]
   rw [resL_gi c1]
   rfl
 ·
  simp at c1
  obtain rfl : k = l.length := by omega
  refine aw_exit ?_
  refine xt_x ?_; refine xt_x ?_
  refine xb_same ?_
  refine xt_n ?_; clear hK K; refine hK _ ?_; clear hK K; refine aw_seq_k fun K hK => wR 3 ?_; refine aX hTT 3 [] True.intro ?_; refine aops_nil (xt_n (hK _ ?_)); clear hK K
  refine aw_ret ?_
  refine retM (v' := V.tup [V.own 0, V.i 0]) [(0, 8)] [(6, V.own 0), (7, V.i 0)] (.inr rfl) (.cons (by kernel_rfl) (.cons (by kernel_rfl) .nil)) (.cons ⟨Ob.row 2 1 (List.length l) fun (j : Nat) => [V.i (gi (resL c u l) j)], (by kernel_rfl), .row (by kernel_rfl) (fun _ _ => rfl)⟩ .nil) (by kernel_rfl) (by kernel_rfl) (by kernel_rfl) (by kernel_rfl) (by kernel_rfl) (by kernel_rfl) (by kernel_rfl)
set_option maxRecDepth 100000 in
theorem each_no (c : Cv) (u : Bool) (l : List Int) (mx : Int) (hc : cvOk c) (hl : l.length ≤ 8192) (hm : 0 ≤ mx ∧ mx ≤ 131072) (ha : AllLe mx l) {j : Nat} (hj : j < l.length) (hb : bey (outK c u l j) mx = true) :
  AM Tryz.prog 138 [V.ints l, FStep u 500, FIn mx] [PB 501, St c [] [] 0] (.tup [.nil, .i 4]) [none, none] [] := by
 refine am_intro hTT hMX (fn := Tryz.f138) (N := _) ⟨Tryz.func138, rfl, Tryz.ntmps138, by kernel_rfl⟩ (by simp) rfl (by simp) (by simp) fun C hF => ?_
 refine aw_seq_k fun K hK => wR 2 ?_; refine aX hTT 2 [] True.intro ?_; refine aops_nil (xt_n (hK _ ?_)); clear hK K; refine aw_seq_k fun K hK => wR 3 ?_; refine aX hTT 4 [(2, .r (PR.mk (some (14 : Nat)) (some ((0 : Int) ≤ (0 : Int) ∧ (0 : Int) ≤ (↑(List.length l) : Int) ∧ (↑(List.length l) : Int) ≤ (1099511627776 : Int))) (V.own 200014) [((200014 : Nat), some (Ob.row 2 1 0 fun (x : Nat) => [V.c (Value.int IntKind.i64 0)]))] false))] ⟨⟨(by omega), (by omega)⟩, True.intro⟩ ?_; refine aops_nil (xt_n (hK _ ?_)); clear hK K; refine aw_seq_k fun K hK => ?_; refine aw_seq_k fun K hK => wR 4 ?_; refine aX hTT 3 [] True.intro ?_; refine aops_nil (xt_n (hK _ ?_)); clear hK K
 refine aw_block ?_
 refine w_loop (ι := Nat) (fun k => [(1, FStep u 500), (2, FIn mx), (8, .own 8), (15, V.ints l), (16, .i l.length), (17, .i k)])
  (fun k => [(500, PB 501), (501, St c (hist c u l k).2 (hist c u l k).1 (k % 8)), (8, .row 2 1 k fun j => [.i (gi (resL c u l) j)])]) (fun k => k ≤ l.length ∧ fine c u l mx k) (fun k => l.length - k) 0 ⟨Nat.zero_le _, fun j hj => by omega⟩ ?_ ?_
 ·
  refine le_ren (tl := [(1, V.fn (Fn.func (158 : Nat)) [] [V.ptr [V.b u], V.ref 500 0]), (2, V.fn (Fn.func (161 : Nat)) [] [V.ptr [V.i mx]]), (8, V.own 8), (15, V.sl 1 (List.length l) fun (k : Nat) => [V.i (gi l k)]), (16, V.i (↑(List.length l) : Int)), (17, V.i 0)]) (sl := [(500, Ob.box 234 [V.ref 501 0]), (501, Ob.box 239 [V.i (gi (Prod.snd (hist c u l (0 : Nat))) (((0 : Nat) % (8 : Nat) + (7 : Nat)) % (8 : Nat))), V.i (gi (Prod.snd (hist c u l (0 : Nat))) (((0 : Nat) % (8 : Nat) + (6 : Nat)) % (8 : Nat))), V.i (gi (Prod.snd (hist c u l (0 : Nat))) (((0 : Nat) % (8 : Nat) + (5 : Nat)) % (8 : Nat))), V.i (gi (Prod.snd (hist c u l (0 : Nat))) (((0 : Nat) % (8 : Nat) + (4 : Nat)) % (8 : Nat))), V.i (gi (Prod.snd (hist c u l (0 : Nat))) (((0 : Nat) % (8 : Nat) + (3 : Nat)) % (8 : Nat))), V.i (gi (Prod.snd (hist c u l (0 : Nat))) (((0 : Nat) % (8 : Nat) + (2 : Nat)) % (8 : Nat))), V.i (gi (Prod.snd (hist c u l (0 : Nat))) (((0 : Nat) % (8 : Nat) + (1 : Nat)) % (8 : Nat))), V.i (gi (Prod.snd (hist c u l (0 : Nat))) ((0 : Nat) % (8 : Nat) % (8 : Nat))), V.i 0, V.i (gi (Prod.fst (hist c u l (0 : Nat))) (((0 : Nat) % (8 : Nat) + (7 : Nat)) % (8 : Nat))), V.i (gi (Prod.fst (hist c u l (0 : Nat))) (((0 : Nat) % (8 : Nat) + (6 : Nat)) % (8 : Nat))), V.i (gi (Prod.fst (hist c u l (0 : Nat))) (((0 : Nat) % (8 : Nat) + (5 : Nat)) % (8 : Nat))), V.i (gi (Prod.fst (hist c u l (0 : Nat))) (((0 : Nat) % (8 : Nat) + (4 : Nat)) % (8 : Nat))), V.i (gi (Prod.fst (hist c u l (0 : Nat))) (((0 : Nat) % (8 : Nat) + (3 : Nat)) % (8 : Nat))), V.i (gi (Prod.fst (hist c u l (0 : Nat))) (((0 : Nat) % (8 : Nat) + (2 : Nat)) % (8 : Nat))), V.i (gi (Prod.fst (hist c u l (0 : Nat))) (((0 : Nat) % (8 : Nat) + (1 : Nat)) % (8 : Nat))), V.i (gi (Prod.fst (hist c u l (0 : Nat))) ((0 : Nat) % (8 : Nat) % (8 : Nat))), V.i 0, (yyFA50 c), (yyFA51 c), V.i (Cv.share c)]), (8, Ob.row 2 1 0 fun (j : Nat) => [V.i (gi (resL c u l) j)])]) [(8, 200014)] (.cons (by kernel_rfl) (.cons (by kernel_rfl) (.cons (by kernel_rfl) (.cons (by kernel_rfl) (.cons (by kernel_rfl) (.cons (by kernel_rfl) .nil)))))) (.cons ⟨Ob.box 234 [V.ref 501 0], (by kernel_rfl), .box (by kernel_rfl)⟩ (.cons ⟨Ob.box 239 [V.i (gi [] (((0 : Nat) + (7 : Nat)) % (8 : Nat))), V.i (gi [] (((0 : Nat) + (6 : Nat)) % (8 : Nat))), V.i (gi [] (((0 : Nat) + (5 : Nat)) % (8 : Nat))), V.i (gi [] (((0 : Nat) + (4 : Nat)) % (8 : Nat))), V.i (gi [] (((0 : Nat) + (3 : Nat)) % (8 : Nat))), V.i (gi [] (((0 : Nat) + (2 : Nat)) % (8 : Nat))), V.i (gi [] (((0 : Nat) + (1 : Nat)) % (8 : Nat))), V.i (gi [] ((0 : Nat) % (8 : Nat))), V.i 0, V.i (gi [] (((0 : Nat) + (7 : Nat)) % (8 : Nat))), V.i (gi [] (((0 : Nat) + (6 : Nat)) % (8 : Nat))), V.i (gi [] (((0 : Nat) + (5 : Nat)) % (8 : Nat))), V.i (gi [] (((0 : Nat) + (4 : Nat)) % (8 : Nat))), V.i (gi [] (((0 : Nat) + (3 : Nat)) % (8 : Nat))), V.i (gi [] (((0 : Nat) + (2 : Nat)) % (8 : Nat))), V.i (gi [] (((0 : Nat) + (1 : Nat)) % (8 : Nat))), V.i (gi [] ((0 : Nat) % (8 : Nat))), V.i 0, (yyFA50 c), (yyFA51 c), V.i (Cv.share c)], (by kernel_rfl), .box (by kernel_rfl)⟩ (.cons ⟨Ob.row 2 1 0 fun (x : Nat) => [V.c (Value.int IntKind.i64 0)], (by kernel_rfl), .row (by kernel_rfl) ?_⟩ .nil))) (by kernel_rfl) (by kernel_rfl)
  intro i hi
  omega
 rintro k ⟨hk, hfk⟩
 refine aw_seq_k fun K hK => wR 2 ?_; refine aX hTT 1 [] True.intro ?_; refine aops_nil (xt_n (hK _ ?_)); clear hK K; refine aw_seq_k fun K hK => ?_
 refine w_cond (t := decide ((↑k : Int) < (↑(List.length l) : Int))) (by kernel_rfl) (fun c1 => ?_) (fun c1 => ?_)
 ·
  simp at c1
  refine aw_skip ?_
  refine xt_n (hK _ ?_); clear hK K; refine aw_seq_k fun K hK => ?_
  refine aw_block ?_
  refine aw_seq_k fun K hK => wR 3 ?_; refine aX hTT 3 [(0, .c ((0 : Int) ≤ (↑k : Int) ∧ (↑k : Int) < (↑(List.length l) : Int)))] ⟨(by omega), True.intro⟩ ?_; refine aops_nil (xt_n (hK _ ?_)); clear hK K; refine aw_seq_k fun K hK => wR 4 ?_; refine aX hTT 2 [] True.intro ?_
  refine aops_callM [500, 501] (first := []) (caps := [V.ptr [V.b u], V.ref 500 0]) (ins' := [Ob.box 234 [V.ref 501 0], Ob.box 239 [V.i (gi (Prod.snd (hist c u l k)) ((k % (8 : Nat) + (7 : Nat)) % (8 : Nat))), V.i (gi (Prod.snd (hist c u l k)) ((k % (8 : Nat) + (6 : Nat)) % (8 : Nat))), V.i (gi (Prod.snd (hist c u l k)) ((k % (8 : Nat) + (5 : Nat)) % (8 : Nat))), V.i (gi (Prod.snd (hist c u l k)) ((k % (8 : Nat) + (4 : Nat)) % (8 : Nat))), V.i (gi (Prod.snd (hist c u l k)) ((k % (8 : Nat) + (3 : Nat)) % (8 : Nat))), V.i (gi (Prod.snd (hist c u l k)) ((k % (8 : Nat) + (2 : Nat)) % (8 : Nat))), V.i (gi (Prod.snd (hist c u l k)) ((k % (8 : Nat) + (1 : Nat)) % (8 : Nat))), V.i (gi (Prod.snd (hist c u l k)) (k % (8 : Nat) % (8 : Nat))), V.i (↑(k % (8 : Nat)) : Int), V.i (gi (Prod.fst (hist c u l k)) ((k % (8 : Nat) + (7 : Nat)) % (8 : Nat))), V.i (gi (Prod.fst (hist c u l k)) ((k % (8 : Nat) + (6 : Nat)) % (8 : Nat))), V.i (gi (Prod.fst (hist c u l k)) ((k % (8 : Nat) + (5 : Nat)) % (8 : Nat))), V.i (gi (Prod.fst (hist c u l k)) ((k % (8 : Nat) + (4 : Nat)) % (8 : Nat))), V.i (gi (Prod.fst (hist c u l k)) ((k % (8 : Nat) + (3 : Nat)) % (8 : Nat))), V.i (gi (Prod.fst (hist c u l k)) ((k % (8 : Nat) + (2 : Nat)) % (8 : Nat))), V.i (gi (Prod.fst (hist c u l k)) ((k % (8 : Nat) + (1 : Nat)) % (8 : Nat))), V.i (gi (Prod.fst (hist c u l k)) (k % (8 : Nat) % (8 : Nat))), V.i (↑(k % (8 : Nat)) : Int), (yyFA50 c), (yyFA51 c), V.i (Cv.share c)]]) (v' := V.i (outK c u l k)) (δ := [(500, Option.some (Ob.box 234 [V.ref 501 0])), (501, Option.some (Ob.box 239 [V.i (gi (Prod.snd (hist c u l (k + (1 : Nat)))) (((k + (1 : Nat)) % (8 : Nat) + (7 : Nat)) % (8 : Nat))), V.i (gi (Prod.snd (hist c u l (k + (1 : Nat)))) (((k + (1 : Nat)) % (8 : Nat) + (6 : Nat)) % (8 : Nat))), V.i (gi (Prod.snd (hist c u l (k + (1 : Nat)))) (((k + (1 : Nat)) % (8 : Nat) + (5 : Nat)) % (8 : Nat))), V.i (gi (Prod.snd (hist c u l (k + (1 : Nat)))) (((k + (1 : Nat)) % (8 : Nat) + (4 : Nat)) % (8 : Nat))), V.i (gi (Prod.snd (hist c u l (k + (1 : Nat)))) (((k + (1 : Nat)) % (8 : Nat) + (3 : Nat)) % (8 : Nat))), V.i (gi (Prod.snd (hist c u l (k + (1 : Nat)))) (((k + (1 : Nat)) % (8 : Nat) + (2 : Nat)) % (8 : Nat))), V.i (gi (Prod.snd (hist c u l (k + (1 : Nat)))) (((k + (1 : Nat)) % (8 : Nat) + (1 : Nat)) % (8 : Nat))), V.i (gi (Prod.snd (hist c u l (k + (1 : Nat)))) ((k + (1 : Nat)) % (8 : Nat) % (8 : Nat))), V.i (↑((k + (1 : Nat)) % (8 : Nat)) : Int), V.i (gi (Prod.fst (hist c u l (k + (1 : Nat)))) (((k + (1 : Nat)) % (8 : Nat) + (7 : Nat)) % (8 : Nat))), V.i (gi (Prod.fst (hist c u l (k + (1 : Nat)))) (((k + (1 : Nat)) % (8 : Nat) + (6 : Nat)) % (8 : Nat))), V.i (gi (Prod.fst (hist c u l (k + (1 : Nat)))) (((k + (1 : Nat)) % (8 : Nat) + (5 : Nat)) % (8 : Nat))), V.i (gi (Prod.fst (hist c u l (k + (1 : Nat)))) (((k + (1 : Nat)) % (8 : Nat) + (4 : Nat)) % (8 : Nat))), V.i (gi (Prod.fst (hist c u l (k + (1 : Nat)))) (((k + (1 : Nat)) % (8 : Nat) + (3 : Nat)) % (8 : Nat))), V.i (gi (Prod.fst (hist c u l (k + (1 : Nat)))) (((k + (1 : Nat)) % (8 : Nat) + (2 : Nat)) % (8 : Nat))), V.i (gi (Prod.fst (hist c u l (k + (1 : Nat)))) (((k + (1 : Nat)) % (8 : Nat) + (1 : Nat)) % (8 : Nat))), V.i (gi (Prod.fst (hist c u l (k + (1 : Nat)))) ((k + (1 : Nat)) % (8 : Nat) % (8 : Nat))), V.i (↑((k + (1 : Nat)) % (8 : Nat)) : Int), (yyFA50 c), (yyFA51 c), V.i (Cv.share c)]))]) (kp := [500, 501]) (step1_hist c u l k mx hc hm ha hfk) (by kernel_rfl) (by kernel_rfl) (by kernel_rfl) (by kernel_rfl) (by kernel_rfl) (by kernel_rfl) rfl rfl (by kernel_rfl) (.box (by kernel_rfl) (by kernel_rfl) (.box (by kernel_rfl) (by kernel_rfl) .nil)) (by kernel_rfl) (by kernel_rfl) (by kernel_rfl) ?_
  refine aX hTT 1 [] True.intro ?_; refine aops_nil (xt_n (hK _ ?_)); clear hK K; refine aw_seq_k fun K hK => ?_; refine aw_seq_k fun K hK => wR 5 ?_; refine aX hTT 2 [] True.intro ?_
  refine e_call (first := []) (caps := [V.ptr [V.i mx]]) (within1_ac (outK c u l k) mx (by omega)) (by kernel_rfl) (by kernel_rfl) (by kernel_rfl) (by kernel_rfl) (by kernel_rfl) ?_
  refine aX hTT 1 [] True.intro ?_; refine aops_nil (xt_n (hK _ ?_)); clear hK K
  refine w_cond (t := !!bey (outK c u l k) mx) (by kernel_rfl) (fun c2 => ?_) (fun c2 => ?_)
  ·
   simp at c2
   refine aw_seq_k fun K hK => wR 6 ?_; refine aX hTT 2 [] True.intro ?_; refine aops_nil (xt_n (hK _ ?_)); clear hK K
   refine aw_ret ?_
   refine xt_r ?_
   refine xb_r ?_
   refine xt_r ?_; refine xt_r ?_
   refine xb_r ?_
   refine xt_r ?_
   refine retM (v' := V.tup [V.nil, V.i 4]) [] [(6, V.nil), (7, V.i 4)] (.inr rfl) (.cons (by kernel_rfl) (.cons (by kernel_rfl) .nil)) .nil (by kernel_rfl) (by kernel_rfl) (by kernel_rfl) (by kernel_rfl) (by kernel_rfl) (by kernel_rfl) (by kernel_rfl)
  simp at c2
  refine aw_skip ?_
  refine xt_n (hK _ ?_); clear hK K; refine wR 6 ?_; refine aX hTT 5 [(3, .r (PR.mk (some (31 : Nat)) (some (k + (1 : Nat) ≤ (1099511627776 : Nat))) (V.own 500031) [((8 : Nat), none), ((500031 : Nat), some (Ob.row 2 1 (k + (1 : Nat)) (appRow k (fun (j : Nat) => [V.i (gi (resL c u l) j)]) fun (i : Nat) => List.take (1 : Nat) (List.drop (i * (1 : Nat)) [V.i (outK c u l k)]))))] false))] ⟨(by omega), True.intro⟩ ?_; refine aops_nil ?_; refine xb_n ?_; refine xt_n (hK _ ?_); clear hK K; refine wR 7 ?_; refine aX hTT 2 [(0, .i ((↑k : Int) + (1 : Int)))] ⟨(by omega), True.intro⟩ ?_; refine aops_nil ?_; refine xt_n ?_
  refine ⟨k + 1, ⟨by omega, fun i hi => ?_⟩, ?_, by omega⟩
  ·
   by_cases h : i < k
   ·
    exact hfk i h
   ·
    obtain rfl : i = k := by omega
    exact c2
  refine le_ren (tl := [(1, V.fn (Fn.func (158 : Nat)) [] [V.ptr [V.b u], V.ref 500 0]), (2, V.fn (Fn.func (161 : Nat)) [] [V.ptr [V.i mx]]), (8, V.own 8), (15, V.sl 1 (List.length l) fun (k : Nat) => [V.i (gi l k)]), (16, V.i (↑(List.length l) : Int)), (17, V.i (↑(k + (1 : Nat)) : Int))]) (sl := [(500, Ob.box 234 [V.ref 501 0]), (501, Ob.box 239 [V.i (gi (Prod.snd (hist c u l (k + (1 : Nat)))) (((k + (1 : Nat)) % (8 : Nat) + (7 : Nat)) % (8 : Nat))), V.i (gi (Prod.snd (hist c u l (k + (1 : Nat)))) (((k + (1 : Nat)) % (8 : Nat) + (6 : Nat)) % (8 : Nat))), V.i (gi (Prod.snd (hist c u l (k + (1 : Nat)))) (((k + (1 : Nat)) % (8 : Nat) + (5 : Nat)) % (8 : Nat))), V.i (gi (Prod.snd (hist c u l (k + (1 : Nat)))) (((k + (1 : Nat)) % (8 : Nat) + (4 : Nat)) % (8 : Nat))), V.i (gi (Prod.snd (hist c u l (k + (1 : Nat)))) (((k + (1 : Nat)) % (8 : Nat) + (3 : Nat)) % (8 : Nat))), V.i (gi (Prod.snd (hist c u l (k + (1 : Nat)))) (((k + (1 : Nat)) % (8 : Nat) + (2 : Nat)) % (8 : Nat))), V.i (gi (Prod.snd (hist c u l (k + (1 : Nat)))) (((k + (1 : Nat)) % (8 : Nat) + (1 : Nat)) % (8 : Nat))), V.i (gi (Prod.snd (hist c u l (k + (1 : Nat)))) ((k + (1 : Nat)) % (8 : Nat) % (8 : Nat))), V.i (↑((k + (1 : Nat)) % (8 : Nat)) : Int), V.i (gi (Prod.fst (hist c u l (k + (1 : Nat)))) (((k + (1 : Nat)) % (8 : Nat) + (7 : Nat)) % (8 : Nat))), V.i (gi (Prod.fst (hist c u l (k + (1 : Nat)))) (((k + (1 : Nat)) % (8 : Nat) + (6 : Nat)) % (8 : Nat))), V.i (gi (Prod.fst (hist c u l (k + (1 : Nat)))) (((k + (1 : Nat)) % (8 : Nat) + (5 : Nat)) % (8 : Nat))), V.i (gi (Prod.fst (hist c u l (k + (1 : Nat)))) (((k + (1 : Nat)) % (8 : Nat) + (4 : Nat)) % (8 : Nat))), V.i (gi (Prod.fst (hist c u l (k + (1 : Nat)))) (((k + (1 : Nat)) % (8 : Nat) + (3 : Nat)) % (8 : Nat))), V.i (gi (Prod.fst (hist c u l (k + (1 : Nat)))) (((k + (1 : Nat)) % (8 : Nat) + (2 : Nat)) % (8 : Nat))), V.i (gi (Prod.fst (hist c u l (k + (1 : Nat)))) (((k + (1 : Nat)) % (8 : Nat) + (1 : Nat)) % (8 : Nat))), V.i (gi (Prod.fst (hist c u l (k + (1 : Nat)))) ((k + (1 : Nat)) % (8 : Nat) % (8 : Nat))), V.i (↑((k + (1 : Nat)) % (8 : Nat)) : Int), (yyFA50 c), (yyFA51 c), V.i (Cv.share c)]), (8, Ob.row 2 1 (k + (1 : Nat)) fun (j : Nat) => [V.i (gi (resL c u l) j)])]) [(8, 500031)] (.cons (by kernel_rfl) (.cons (by kernel_rfl) (.cons (by kernel_rfl) (.cons (by kernel_rfl) (.cons (by kernel_rfl) (.cons (by kernel_rfl) .nil)))))) (.cons ⟨Ob.box 234 [V.ref 501 0], (by kernel_rfl), .box (by kernel_rfl)⟩ (.cons ⟨Ob.box 239 [V.i (gi (Prod.snd (hist c u l (k + (1 : Nat)))) (((k + (1 : Nat)) % (8 : Nat) + (7 : Nat)) % (8 : Nat))), V.i (gi (Prod.snd (hist c u l (k + (1 : Nat)))) (((k + (1 : Nat)) % (8 : Nat) + (6 : Nat)) % (8 : Nat))), V.i (gi (Prod.snd (hist c u l (k + (1 : Nat)))) (((k + (1 : Nat)) % (8 : Nat) + (5 : Nat)) % (8 : Nat))), V.i (gi (Prod.snd (hist c u l (k + (1 : Nat)))) (((k + (1 : Nat)) % (8 : Nat) + (4 : Nat)) % (8 : Nat))), V.i (gi (Prod.snd (hist c u l (k + (1 : Nat)))) (((k + (1 : Nat)) % (8 : Nat) + (3 : Nat)) % (8 : Nat))), V.i (gi (Prod.snd (hist c u l (k + (1 : Nat)))) (((k + (1 : Nat)) % (8 : Nat) + (2 : Nat)) % (8 : Nat))), V.i (gi (Prod.snd (hist c u l (k + (1 : Nat)))) (((k + (1 : Nat)) % (8 : Nat) + (1 : Nat)) % (8 : Nat))), V.i (gi (Prod.snd (hist c u l (k + (1 : Nat)))) ((k + (1 : Nat)) % (8 : Nat) % (8 : Nat))), V.i (↑((k + (1 : Nat)) % (8 : Nat)) : Int), V.i (gi (Prod.fst (hist c u l (k + (1 : Nat)))) (((k + (1 : Nat)) % (8 : Nat) + (7 : Nat)) % (8 : Nat))), V.i (gi (Prod.fst (hist c u l (k + (1 : Nat)))) (((k + (1 : Nat)) % (8 : Nat) + (6 : Nat)) % (8 : Nat))), V.i (gi (Prod.fst (hist c u l (k + (1 : Nat)))) (((k + (1 : Nat)) % (8 : Nat) + (5 : Nat)) % (8 : Nat))), V.i (gi (Prod.fst (hist c u l (k + (1 : Nat)))) (((k + (1 : Nat)) % (8 : Nat) + (4 : Nat)) % (8 : Nat))), V.i (gi (Prod.fst (hist c u l (k + (1 : Nat)))) (((k + (1 : Nat)) % (8 : Nat) + (3 : Nat)) % (8 : Nat))), V.i (gi (Prod.fst (hist c u l (k + (1 : Nat)))) (((k + (1 : Nat)) % (8 : Nat) + (2 : Nat)) % (8 : Nat))), V.i (gi (Prod.fst (hist c u l (k + (1 : Nat)))) (((k + (1 : Nat)) % (8 : Nat) + (1 : Nat)) % (8 : Nat))), V.i (gi (Prod.fst (hist c u l (k + (1 : Nat)))) ((k + (1 : Nat)) % (8 : Nat) % (8 : Nat))), V.i (↑((k + (1 : Nat)) % (8 : Nat)) : Int), (yyFA50 c), (yyFA51 c), V.i (Cv.share c)], (by kernel_rfl), .box (by kernel_rfl)⟩ (.cons ⟨Ob.row 2 1 (k + (1 : Nat)) (appRow k (fun (j : Nat) => [V.i (gi (resL c u l) j)]) fun (i : Nat) => List.take (1 : Nat) (List.drop (i * (1 : Nat)) [V.i (outK c u l k)])), (by kernel_rfl), .row (by kernel_rfl) ?_⟩ .nil))) (by kernel_rfl) (by kernel_rfl)
  intro i hi
  by_cases h : i < k
  ·
   rw [appRow, if_pos h]
   rfl
  ·
   obtain rfl : i = k := by omega
   rw [appRow, if_neg h, Nat.sub_self]
   show _ = [V.i (gi (resL c u l) i)]
   rw [resL_gi c1]
   rfl
 ·
  simp at c1
  obtain rfl : k = l.length := by omega
  rw [hfk j hj] at hb
  cases hb
theorem AC.emp {P : Program} {f : FuncId} {v : V} {obs : List Ob} {sz : Nat} {row : Nat → List V} (h : ∀ A c, AC P f [.c (.slice A 0 c)] v obs) : AC P f [.sl sz 0 row] v obs := by
 refine ⟨(h none 0).1, fun L w vs hL hgl hv => ?_⟩
 obtain ⟨vs⟩ := vs
 obtain ⟨x, e, hr⟩ := hv.get (i := 0) rfl
 obtain ⟨A, c, rfl, _⟩ := hr.sl_inv
 refine (h A c).2 L w _ hL hgl ?_
 have hn := hv.1
 match vs, hn, e with
 | [y], _, e =>
  simp at e; subst e
  exact .cons (.c _ _) .nil
theorem emp_ints {w : World} {L : Nat → Prop} {ρ : Nat → Option Value} {A : Option Addr} {c : Nat} {x : Value} (h : R w L ρ (.c (.slice A 0 c)) x) : R w L ρ (V.ints []) x := by
 rw [h.c_inv]
 exact .sl0 _ _ _ _ _
set_option maxRecDepth 100000 in
theorem Clone_pos (l : List Int) (hl : l.length ≤ 8192) (h0 : 0 < l.length) : AC Tryz.prog 137 [V.ints l] (V.ints l) [] := by
 refine acI hTT hMX Tryz.func137 Tryz.ntmps137 fun C hC hF => ?_
 refine aw_seq_k fun K hK => wR 2 ?_
 refine aops_x (M := [5]) hTT 1 [] True.intro ?_
 refine aops_nil (xt_n (hK _ ?_)); clear hK K; refine aw_seq_k fun K hK => ?_; refine aw_seq_k fun K hK => wR 3 ?_
 refine aops_x (M := [5]) hTT 2 [(1, .c ((0 : Nat) < List.length l))] ⟨(by omega), True.intro⟩ ?_
 refine aops_nil (xt_n (hK _ ?_)); clear hK K; refine w_false (t := false) (by kernel_rfl) rfl ?_
 refine aw_skip ?_
 refine xt_n (hK _ ?_); clear hK K; refine aw_seq_k fun K hK => wR 4 ?_
 refine aops_x (M := [5]) hTT 4 [(0, .r (pn 5 (V.own 300005) (300005 : Nat) (Ob.row 2 1 0 fun (i : Nat) => List.take (1 : Nat) (List.drop (i * (1 : Nat)) (repV (0 : Nat) [V.c (Value.int IntKind.i64 0)]))))), (2, .r (PR.mk (some (7 : Nat)) (some ((0 : Nat) + List.length l ≤ (1099511627776 : Nat))) (V.own 300007) [((300005 : Nat), none), ((300007 : Nat), some (Ob.row 2 1 ((0 : Nat) + List.length l) (appRow (0 : Nat) (fun (i : Nat) => List.take (1 : Nat) (List.drop (i * (1 : Nat)) (repV (0 : Nat) [V.c (Value.int IntKind.i64 0)]))) fun (k : Nat) => [V.i (gi l k)])))] false))] ⟨(by omega), True.intro⟩ ?_
 refine aops_nil (xt_n (hK _ ?_)); clear hK K
 refine aw_ret ?_
 refine ret_of_le (le_shut 2 300007 (e := (2 : Nat)) (sz := (1 : Nat)) (n := (0 : Nat) + List.length l) (n' := l.length) (row := appRow (0 : Nat) (fun (i : Nat) => List.take (1 : Nat) (List.drop (i * (1 : Nat)) (repV (0 : Nat) [V.c (Value.int IntKind.i64 0)]))) fun (k : Nat) => [V.i (gi l k)]) (row' := (fun k => [.i (gi l k)])) (by kernel_rfl) (by kernel_rfl) (fun _ _ => rfl) ?_ ?_) ?_
 ·
  omega
 ·
  intro i hi
  rw [appRow, if_neg (by omega), Nat.sub_zero]
 refine rP (V.sl 1 (List.length l) fun (k : Nat) => [V.i (gi l k)])
theorem Clone_nil (c : Nat) : AC Tryz.prog 137 [.c (.slice none 0 c)] (V.ints []) [] := by
 refine acI hTT hMX Tryz.func137 Tryz.ntmps137 fun C hC hF => ?_
 refine aw_seq_k fun K hK => wR 2 ?_; refine aX hTT 1 [] True.intro ?_; refine aops_nil (xt_n (hK _ ?_)); clear hK K; refine aw_seq_k fun K hK => ?_; refine aw_seq_k fun K hK => wR 3 ?_; refine aX hTT 2 [] True.intro ?_; refine aops_nil (xt_n (hK _ ?_)); clear hK K; refine w_true (t := true) (by kernel_rfl) rfl ?_; refine aw_seq_k fun K hK => wR 4 ?_; refine aX hTT 1 [] True.intro ?_; refine aops_nil (xt_n (hK _ ?_)); clear hK K
 refine aw_ret ?_
 refine xt_r ?_
 refine ret_of_le (le_nil 2 (sz := 1) 0 (fun k => [.i (gi [] k)]) (by kernel_rfl) ?_) ?_
 ·
  rfl
 refine rP (V.sl 1 0 fun (k : Nat) => [V.i (gi [] k)])
set_option maxRecDepth 100000 in
theorem Clone_emp (a : Addr) (c : Nat) : AC Tryz.prog 137 [.c (.slice (some a) 0 c)] (V.ints []) [] := by
 refine acI hTT hMX Tryz.func137 Tryz.ntmps137 fun C hC hF => ?_
 refine aw_seq_k fun K hK => wR 2 ?_; refine aX hTT 1 [] True.intro ?_; refine aops_nil (xt_n (hK _ ?_)); clear hK K; refine aw_seq_k fun K hK => ?_; refine aw_seq_k fun K hK => wR 3 ?_; refine aX hTT 2 [] True.intro ?_; refine aops_nil (xt_n (hK _ ?_)); clear hK K; refine w_false (t := false) (by kernel_rfl) rfl ?_
 refine aw_skip ?_
 refine xt_n (hK _ ?_); clear hK K; refine aw_seq_k fun K hK => ?_
 refine w_le (le_val 0 (V.ints []) fun w L ρ x hx => emp_ints hx) ?_
 refine wR 4 ?_
 refine aops_x (M := [5]) hTT 4 [(0, .r (pn 5 (V.own 300005) (300005 : Nat) (Ob.row 2 1 0 fun (i : Nat) => List.take (1 : Nat) (List.drop (i * (1 : Nat)) (repV (0 : Nat) [V.c (Value.int IntKind.i64 0)]))))), (2, .r (PR.mk (some (7 : Nat)) (some ((0 : Nat) + (0 : Nat) ≤ (1099511627776 : Nat))) (V.own 300007) [((300005 : Nat), none), ((300007 : Nat), some (Ob.row 2 1 0 (appRow (0 : Nat) (fun (i : Nat) => List.take (1 : Nat) (List.drop (i * (1 : Nat)) (repV (0 : Nat) [V.c (Value.int IntKind.i64 0)]))) fun (k : Nat) => [V.i (gi [] k)])))] false))] ⟨(by omega), True.intro⟩ ?_
 refine aops_nil (xt_n (hK _ ?_)); clear hK K
 refine aw_ret ?_
 refine ret_of_le (le_shut 2 300007 (e := (2 : Nat)) (sz := (1 : Nat)) (n := (0 : Nat)) (n' := 0) (row := appRow (0 : Nat) (fun (i : Nat) => List.take (1 : Nat) (List.drop (i * (1 : Nat)) (repV (0 : Nat) [V.c (Value.int IntKind.i64 0)]))) fun (k : Nat) => [V.i (gi [] k)]) (row' := (fun k => [.i (gi [] k)])) (by kernel_rfl) (by kernel_rfl) (fun _ _ => rfl) ?_ ?_) ?_
 ·
  rfl
 ·
  intro i hi
  omega
 refine rP (V.sl 1 0 fun (k : Nat) => [V.i (gi [] k)])
theorem Clone_ac (l : List Int) (hl : l.length ≤ 8192) : AC Tryz.prog 137 [V.ints l] (V.ints l) [] := by
 by_cases h0 : 0 < l.length
 ·
  exact Clone_pos l hl h0
 ·
  obtain rfl : l = [] := List.length_eq_zero_iff.1 (by omega)
  refine AC.emp fun A c => ?_
  cases A with
  | some a => exact Clone_emp a c
  | none => exact Clone_nil c
end Go.Proofs.YtepkjobndmmejaaGreatDoor

namespace Go.Proofs.YtepkjobndmmejaaGreatDoor
open Go.Ab Go.RowKit Go.Dw Go.Shelf
def seqC (l : List Cv) (u : Bool) : List Cv := if u then l.reverse else l
theorem seqC_len (l : List Cv) (u : Bool) : (seqC l u).length = l.length := by cases u <;> simp [seqC]
theorem seqC_gc {l : List Cv} {u : Bool} {k : Nat} (hk : k < l.length) : gc (seqC l u) k = gc l (if u then l.length - 1 - k else k) := by
 cases u
 ·
  rfl
 ·
  simp [seqC, gc, List.getElem?_reverse hk]
theorem take_gc {l : List Cv} {k : Nat} (hk : k < l.length) : l.take (k + 1) = l.take k ++ [gc l k] := by
 rw [gc_eq hk, List.take_succ_eq_append_getElem hk]
theorem chainI_fold (l : List Cv) (u : Bool) (m : Int) (x : List Int) : chainI l u m x = foldI u m (seqC l u) (some x) := by cases u <;> rfl
theorem foldI_snoc {u : Bool} {m : Int} {l : List Cv} {k : Nat} {x y : List Int} (hk : k < l.length) (h : foldI u m (l.take k) (some x) = some y) : foldI u m (l.take (k + 1)) (some x) = runI (gc l k) u m y := by
 rw [take_gc hk, foldI_append, h]; rfl
theorem foldI_stop {u : Bool} {m : Int} {l : List Cv} {k : Nat} {x : List Int} (h : foldI u m (l.take k) (some x) = none) : foldI u m l (some x) = none := by
 rw [← List.take_append_drop k l, foldI_append, h, foldI_none]
def chR (l : List Cv) (u : Bool) (x : List Int) : Int × List Int :=
 if fChE l ≠ 0 then (fChE l, []) else if sigE x ≠ 0 then (sigE x, []) else match chainI l u 32767 x with
  | some y => (0, y)
  | none => (4, [])
theorem chR_1 {l : List Cv} {u : Bool} {x : List Int} (h : ¬ fChE l = 0) : chR l u x = (fChE l, []) := by rw [chR, if_pos h]
theorem chR_2 {l : List Cv} {u : Bool} {x : List Int} (h : fChE l = 0) (h2 : ¬ sigE x = 0) : chR l u x = (sigE x, []) := by rw [chR, if_neg (by simp [h]), if_pos h2]
theorem chR_3 {l : List Cv} {u : Bool} {x : List Int} (h : fChE l = 0) (h2 : sigE x = 0) (h3 : chainI l u 32767 x = none) : chR l u x = (4, []) := by rw [chR, if_neg (by simp [h]), if_neg (by simp [h2]), h3]
theorem chR_4 {l : List Cv} {u : Bool} {x y : List Int} (h : fChE l = 0) (h2 : sigE x = 0) (h3 : chainI l u 32767 x = some y) : chR l u x = (0, y) := by rw [chR, if_neg (by simp [h]), if_neg (by simp [h2]), h3]
theorem fine_or (c : Cv) (u : Bool) (l : List Int) (m : Int) : fine c u l m l.length ∨ ∃ j, j < l.length ∧ bey (outK c u l j) m = true := by
 by_cases h : ∃ j, j < l.length ∧ bey (outK c u l j) m = true
 ·
  exact .inr h
 ·
  refine .inl fun j hj => ?_
  cases hb : bey (outK c u l j) m with
  | false => rfl
  | true => exact absurd ⟨j, hj, hb⟩ h
abbrev zzFA60 : V := V.tup [V.sl 1 0 fun (k : Nat) => [V.i (gi [] k)], V.i 4]
set_option maxRecDepth 100000 in
theorem chain_ac (l : List Cv) (x : List Int) (u : Bool) (hl : cvsL l) (hx : x.length ≤ bigL) : AC Tryz.prog 120 [V.cvs l, V.ints x, .b u] (.tup [V.ints (chR l u x).2, .i (chR l u x).1]) [] := by
 refine acI hTT hMX Tryz.func120 Tryz.ntmps120 fun C hC hF => ?_
 refine aw_seq_k fun K hK => wR 2 ?_; refine aX hTT 2 [] True.intro ?_; refine aops_nil (xt_n (hK _ ?_)); clear hK K; refine aw_seq_k fun K hK => ?_; refine aw_seq_k fun K hK => wR 3 ?_; refine aX hTT 1 [] True.intro ?_
 refine eC (checkChain_ac l hl) ?_
 refine aX hTT 1 [] True.intro ?_; refine aops_nil (xt_n (hK _ ?_)); clear hK K; refine aw_seq_k fun K hK => wR 4 ?_; refine aX hTT 2 [] True.intro ?_; refine aops_nil (xt_n (hK _ ?_)); clear hK K
 refine w_cond (t := !decide (fChE l = (0 : Int))) (by kernel_rfl) (fun c1 => ?_) (fun c1 => ?_)
 ·
  simp at c1
  refine aw_seq_k fun K hK => wR 5 ?_; refine aX hTT 3 [] True.intro ?_; refine aops_nil (xt_n (hK _ ?_)); clear hK K
  refine aw_ret ?_
  refine xt_r ?_
  rw [chR_1 c1]
  refine ret_of_le (le_nil 6 (sz := 1) 0 (fun k => [.i (gi [] k)]) (by kernel_rfl) ?_) ?_
  ·
   rfl
  refine rP (V.tup [V.sl 1 0 fun (k : Nat) => [V.i (gi [] k)], V.i (fChE l)])
 simp at c1
 refine aw_skip ?_
 refine xt_n (hK _ ?_); clear hK K; refine aw_seq_k fun K hK => ?_; refine aw_seq_k fun K hK => wR 5 ?_; refine aX hTT 1 [] True.intro ?_
 refine eC (checkSignal_ac x hx) ?_
 refine aX hTT 1 [] True.intro ?_; refine aops_nil (xt_n (hK _ ?_)); clear hK K; refine aw_seq_k fun K hK => wR 6 ?_; refine aX hTT 2 [] True.intro ?_; refine aops_nil (xt_n (hK _ ?_)); clear hK K
 refine w_cond (t := !decide (sigE x = (0 : Int))) (by kernel_rfl) (fun c2 => ?_) (fun c2 => ?_)
 ·
  simp at c2
  refine aw_seq_k fun K hK => wR 7 ?_; refine aX hTT 3 [] True.intro ?_; refine aops_nil (xt_n (hK _ ?_)); clear hK K
  refine aw_ret ?_
  refine xt_r ?_
  rw [chR_2 c1 c2]
  refine ret_of_le (le_nil 6 (sz := 1) 0 (fun k => [.i (gi [] k)]) (by kernel_rfl) ?_) ?_
  ·
   rfl
  refine rP (V.tup [V.sl 1 0 fun (k : Nat) => [V.i (gi [] k)], V.i (sigE x)])
 simp at c2
 obtain ⟨g1, g2⟩ := sigE_ok.1 c2
 obtain ⟨g3, g4⟩ := fChE_ok.1 c1
 refine aw_skip ?_
 refine xt_n (hK _ ?_); clear hK K; refine aw_seq_k fun K hK => wR 7 ?_; refine aX hTT 1 [] True.intro ?_
 refine eC (Clone_ac x (by omega)) ?_
 refine aX hTT 1 [] True.intro ?_; refine aops_nil (xt_n (hK _ ?_)); clear hK K; refine aw_seq_k fun K hK => ?_; refine aw_seq_k fun K hK => wR 8 ?_; refine aX hTT 3 [] True.intro ?_; refine aops_nil (xt_n (hK _ ?_)); clear hK K
 refine aw_block ?_
 refine w_loop (ι := Nat × List Int) (fun y => [(0, V.cvs l), (1, V.ints y.2), (2, .b u), (27, .i l.length), (28, .i y.1)]) (fun _ => []) (fun y => y.1 ≤ l.length ∧ y.2.length = x.length ∧ AllLe 32767 y.2 ∧ foldI u 32767 ((seqC l u).take y.1) (some x) = some y.2) (fun y => l.length - y.1) (0, x) ⟨Nat.zero_le _, rfl, g2, rfl⟩ ?_ ?_
 ·
  show Le _ ⟨mkT [(0, V.cvs l), (1, V.ints x), (2, .b u), (27, .i l.length), (28, .i 0)], mkS [], 1⟩
  refine le_ren [] (.cons (by kernel_rfl) (.cons (by kernel_rfl) (.cons (by kernel_rfl) (.cons (by kernel_rfl) (.cons (by kernel_rfl) .nil))))) .nil (by kernel_rfl) (by kernel_rfl)
 rintro ⟨k, y⟩ ⟨hk, hy, ha, hf⟩
 simp only at hk hy ha hf ⊢
 refine aw_seq_k fun K hK => wR 2 ?_; refine aX hTT 1 [] True.intro ?_; refine aops_nil (xt_n (hK _ ?_)); clear hK K; refine aw_seq_k fun K hK => ?_
 refine w_cond (t := decide ((↑k : Int) < (↑(List.length l) : Int))) (by kernel_rfl) (fun c3 => ?_) (fun c3 => ?_)
 ·
  simp at c3
  have hcv : cvOk (gc (seqC l u) k) := by
   rw [seqC_gc c3]
   refine cvE_ok.1 (g4 _ ?_)
   split <;> omega
  have hsn := foldI_snoc (u := u) (m := 32767) (l := seqC l u) (by rw [seqC_len]; exact c3) hf
  have hsq := seqC_gc (l := l) (u := u) c3
  refine aw_skip ?_
  refine xt_n (hK _ ?_); clear hK K; refine aw_seq_k fun K hK => ?_
  refine aw_block ?_
  refine aw_seq_k fun K hK => wR 3 ?_; refine aX hTT 2 [] True.intro ?_; refine aops_nil (xt_n (hK _ ?_)); clear hK K; refine aw_seq_k fun K hK => wR 4 ?_; refine aX hTT 6 [(2, .c ((0 : Int) ≤ (↑k : Int) ∧ (↑k : Int) < (↑(List.length l) : Int))), (4, .r (pn 11 (V.ref 300011 0) (300011 : Nat) (Ob.box 162 [V.nil, V.nil, V.i 0]))), (5, .r (pw ((0 : Nat) + (3 : Nat) ≤ (3 : Nat)) (300011 : Nat) (Ob.box 162 [V.sl 1 (List.length (Cv.feed (gc l k))) fun (k_1 : Nat) => [V.i (gi (Cv.feed (gc l k)) k_1)], V.sl 1 (List.length (Cv.back (gc l k))) fun (k_1 : Nat) => [V.i (gi (Cv.back (gc l k)) k_1)], V.i (Cv.share (gc l k))])))] ⟨(by omega), (by omega), True.intro⟩ ?_; refine aops_nil (xt_n (hK _ ?_)); clear hK K; refine aw_seq_k fun K hK => ?_; refine aw_seq_k fun K hK => wR 5 ?_; refine aX hTT 1 [] True.intro ?_; refine aops_nil (xt_n (hK _ ?_)); clear hK K
  refine w_cond (t := u) (by kernel_rfl) (fun c4 => ?_) (fun c4 => ?_)
  ·
   subst c4
   have hq : gc (seqC l true) k = gc l ((l.length : Int) - 1 - (k : Int)).toNat := by
    rw [hsq, if_pos rfl]
    congr 1
    omega
   rw [hq] at hcv hsn
   refine wR 6 ?_; refine aX hTT 9 [(3, .i ((↑(List.length l) : Int) - (1 : Int))), (5, .i ((↑(List.length l) : Int) - (1 : Int) - (↑k : Int))), (6, .c ((0 : Int) ≤ (↑(List.length l) : Int) - (1 : Int) - (↑k : Int) ∧ (↑(List.length l) : Int) - (1 : Int) - (↑k : Int) < (↑(List.length l) : Int))), (8, .r (pw ((0 : Nat) + (3 : Nat) ≤ (3 : Nat)) (300011 : Nat) (Ob.box 162 [V.sl 1 (List.length (Cv.feed (gc l (Int.toNat ((↑(List.length l) : Int) - (1 : Int) - (↑k : Int)))))) fun (k_1 : Nat) => [V.i (gi (Cv.feed (gc l (Int.toNat ((↑(List.length l) : Int) - (1 : Int) - (↑k : Int))))) k_1)], V.sl 1 (List.length (Cv.back (gc l (Int.toNat ((↑(List.length l) : Int) - (1 : Int) - (↑k : Int)))))) fun (k_1 : Nat) => [V.i (gi (Cv.back (gc l (Int.toNat ((↑(List.length l) : Int) - (1 : Int) - (↑k : Int))))) k_1)], V.i (Cv.share (gc l (Int.toNat ((↑(List.length l) : Int) - (1 : Int) - (↑k : Int)))))])))] ⟨(by omega), (by omega), (by omega), (by omega), True.intro⟩ ?_; refine aops_nil (xt_n (hK _ ?_)); clear hK K; refine aw_seq_k fun K hK => wR 7 ?_; refine aX hTT 3 [(1, .c ((0 : Nat) ≤ (3 : Nat)))] ⟨(by omega), True.intro⟩ ?_
   refine aops_callN (first := []) (caps := []) (v' := V.fn (Fn.func (158 : Nat)) [] [V.ptr [V.b true], V.ref 600048 0]) (δ := [(600048, Option.some (Ob.box 234 [V.ref 601048 0])), (601048, Option.some (Ob.box 239 [V.i (gi [] (((0 : Nat) + (7 : Nat)) % (8 : Nat))), V.i (gi [] (((0 : Nat) + (6 : Nat)) % (8 : Nat))), V.i (gi [] (((0 : Nat) + (5 : Nat)) % (8 : Nat))), V.i (gi [] (((0 : Nat) + (4 : Nat)) % (8 : Nat))), V.i (gi [] (((0 : Nat) + (3 : Nat)) % (8 : Nat))), V.i (gi [] (((0 : Nat) + (2 : Nat)) % (8 : Nat))), V.i (gi [] (((0 : Nat) + (1 : Nat)) % (8 : Nat))), V.i (gi [] ((0 : Nat) % (8 : Nat))), V.i 0, V.i (gi [] (((0 : Nat) + (7 : Nat)) % (8 : Nat))), V.i (gi [] (((0 : Nat) + (6 : Nat)) % (8 : Nat))), V.i (gi [] (((0 : Nat) + (5 : Nat)) % (8 : Nat))), V.i (gi [] (((0 : Nat) + (4 : Nat)) % (8 : Nat))), V.i (gi [] (((0 : Nat) + (3 : Nat)) % (8 : Nat))), V.i (gi [] (((0 : Nat) + (2 : Nat)) % (8 : Nat))), V.i (gi [] (((0 : Nat) + (1 : Nat)) % (8 : Nat))), V.i (gi [] ((0 : Nat) % (8 : Nat))), V.i 0, V.sl 1 (List.length (Cv.feed (gc l (Int.toNat ((↑(List.length l) : Int) - (1 : Int) - (↑k : Int)))))) fun (k_1 : Nat) => [V.i (gi (Cv.feed (gc l (Int.toNat ((↑(List.length l) : Int) - (1 : Int) - (↑k : Int))))) k_1)], V.sl 1 (List.length (Cv.back (gc l (Int.toNat ((↑(List.length l) : Int) - (1 : Int) - (↑k : Int)))))) fun (k_1 : Nat) => [V.i (gi (Cv.back (gc l (Int.toNat ((↑(List.length l) : Int) - (1 : Int) - (↑k : Int))))) k_1)], V.i (Cv.share (gc l (Int.toNat ((↑(List.length l) : Int) - (1 : Int) - (↑k : Int)))))]))]) (fStep_ac (gc l ((l.length : Int) - 1 - (k : Int)).toNat) true) (by kernel_rfl) (by kernel_rfl) (by kernel_rfl) (by kernel_rfl) (by kernel_rfl) (by kernel_rfl) (by kernel_rfl) ?_
   skip
   refine eC (within_ac 32767) ?_
   skip
   rcases fine_or (gc l ((l.length : Int) - 1 - (k : Int)).toNat) true y 32767 with hfi | ⟨j, hj, hb⟩
   ·
    rw [runI_some hfi] at hsn
    refine aops_callM [600048, 601048] (first := []) (caps := []) (ins' := [Ob.box 234 [V.ref 601048 0], Ob.box 239 [V.i (gi [] (((0 : Nat) + (7 : Nat)) % (8 : Nat))), V.i (gi [] (((0 : Nat) + (6 : Nat)) % (8 : Nat))), V.i (gi [] (((0 : Nat) + (5 : Nat)) % (8 : Nat))), V.i (gi [] (((0 : Nat) + (4 : Nat)) % (8 : Nat))), V.i (gi [] (((0 : Nat) + (3 : Nat)) % (8 : Nat))), V.i (gi [] (((0 : Nat) + (2 : Nat)) % (8 : Nat))), V.i (gi [] (((0 : Nat) + (1 : Nat)) % (8 : Nat))), V.i (gi [] ((0 : Nat) % (8 : Nat))), V.i 0, V.i (gi [] (((0 : Nat) + (7 : Nat)) % (8 : Nat))), V.i (gi [] (((0 : Nat) + (6 : Nat)) % (8 : Nat))), V.i (gi [] (((0 : Nat) + (5 : Nat)) % (8 : Nat))), V.i (gi [] (((0 : Nat) + (4 : Nat)) % (8 : Nat))), V.i (gi [] (((0 : Nat) + (3 : Nat)) % (8 : Nat))), V.i (gi [] (((0 : Nat) + (2 : Nat)) % (8 : Nat))), V.i (gi [] (((0 : Nat) + (1 : Nat)) % (8 : Nat))), V.i (gi [] ((0 : Nat) % (8 : Nat))), V.i 0, V.sl 1 (List.length (Cv.feed (gc l (Int.toNat ((↑(List.length l) : Int) - (1 : Int) - (↑k : Int)))))) fun (k_1 : Nat) => [V.i (gi (Cv.feed (gc l (Int.toNat ((↑(List.length l) : Int) - (1 : Int) - (↑k : Int))))) k_1)], V.sl 1 (List.length (Cv.back (gc l (Int.toNat ((↑(List.length l) : Int) - (1 : Int) - (↑k : Int)))))) fun (k_1 : Nat) => [V.i (gi (Cv.back (gc l (Int.toNat ((↑(List.length l) : Int) - (1 : Int) - (↑k : Int))))) k_1)], V.i (Cv.share (gc l (Int.toNat ((↑(List.length l) : Int) - (1 : Int) - (↑k : Int)))))]]) (v' := V.tup [V.own 600050, V.i 0]) (δ := [(600048, Option.none), (601048, Option.none), (600050, Option.some (Ob.row 2 1 (List.length y) fun (i : Nat) => V.renL (nameG (6 : Nat) (some 50) [(600048 : Nat), (601048 : Nat)]) [V.i (gi (resL (gc l (Int.toNat ((↑(List.length l) : Int) - (1 : Int) - (↑k : Int)))) true y) i)]))]) (kp := [600048, 601048]) (each_ok (gc l ((l.length : Int) - 1 - (k : Int)).toNat) true y 32767 hcv (by omega) (by decide) ha hfi) (by kernel_rfl) (by kernel_rfl) (by kernel_rfl) (by kernel_rfl) (by kernel_rfl) (by kernel_rfl) rfl rfl (by kernel_rfl) (.box (by kernel_rfl) (by kernel_rfl) (.box (by kernel_rfl) (by kernel_rfl) .nil)) (by kernel_rfl) (by kernel_rfl) (by kernel_rfl) ?_
    refine aX hTT 5 [] True.intro ?_; refine aops_nil (xt_n (hK _ ?_)); clear hK K; refine aw_seq_k fun K hK => ?_; refine aw_seq_k fun K hK => ?_
    refine w_le (le_shut 12 600050 (e := (2 : Nat)) (sz := (1 : Nat)) (n := List.length y) (n' := (resL (gc l ((l.length : Int) - 1 - (k : Int)).toNat) true y).length) (row := fun (i : Nat) => V.renL (nameG (6 : Nat) (some (50 : Tmp)) [(600048 : Nat), (601048 : Nat)]) [V.i (gi (resL (gc l (Int.toNat ((↑(List.length l) : Int) - (1 : Int) - (↑k : Int)))) true y) i)]) (row' := (fun j => [.i (gi (resL (gc l ((l.length : Int) - 1 - (k : Int)).toNat) true y) j)])) (by kernel_rfl) (by kernel_rfl) (fun _ _ => rfl) ?_ ?_) ?_
    ·
     rw [resL_len]
    ·
     intro i hi
     rfl
    refine wR 8 ?_; refine aX hTT 2 [] True.intro ?_; refine aops_nil (xt_n (hK _ ?_)); clear hK K; refine w_false (t := false) (by kernel_rfl) rfl ?_
    refine aw_skip ?_
    refine xt_n (hK _ ?_); clear hK K; refine wR 9 ?_; refine aX hTT 2 [] True.intro ?_; refine aops_nil ?_; refine xb_n ?_; refine xt_n (hK _ ?_); clear hK K; refine wR 10 ?_; refine aX hTT 2 [(0, .i ((↑k : Int) + (1 : Int)))] ⟨(by omega), True.intro⟩ ?_; refine aops_nil ?_; refine xt_n ?_
    refine ⟨(k + 1, resL (gc l ((l.length : Int) - 1 - (k : Int)).toNat) true y), ⟨by omega, by simp only [resL_len, hy], any_bey.1 (any_resL.2 hfi), hsn⟩, ?_, by simp only; omega⟩
    show Le _ ⟨mkT [(0, V.cvs l), (1, V.ints (resL (gc l ((l.length : Int) - 1 - (k : Int)).toNat) true y)), (2, .b true), (27, .i l.length), (28, .i ((k + 1 : Nat) : Int))], mkS [], 1⟩
    refine le_ren [] (.cons (by kernel_rfl) (.cons (by kernel_rfl) (.cons (by kernel_rfl) (.cons (by kernel_rfl) (.cons (by kernel_rfl) .nil))))) .nil (by kernel_rfl) (by kernel_rfl)
   ·
    rw [runI_none hj hb] at hsn
    refine aops_callM [600048, 601048] (first := []) (caps := []) (ins' := [Ob.box 234 [V.ref 601048 0], Ob.box 239 [V.i (gi [] (((0 : Nat) + (7 : Nat)) % (8 : Nat))), V.i (gi [] (((0 : Nat) + (6 : Nat)) % (8 : Nat))), V.i (gi [] (((0 : Nat) + (5 : Nat)) % (8 : Nat))), V.i (gi [] (((0 : Nat) + (4 : Nat)) % (8 : Nat))), V.i (gi [] (((0 : Nat) + (3 : Nat)) % (8 : Nat))), V.i (gi [] (((0 : Nat) + (2 : Nat)) % (8 : Nat))), V.i (gi [] (((0 : Nat) + (1 : Nat)) % (8 : Nat))), V.i (gi [] ((0 : Nat) % (8 : Nat))), V.i 0, V.i (gi [] (((0 : Nat) + (7 : Nat)) % (8 : Nat))), V.i (gi [] (((0 : Nat) + (6 : Nat)) % (8 : Nat))), V.i (gi [] (((0 : Nat) + (5 : Nat)) % (8 : Nat))), V.i (gi [] (((0 : Nat) + (4 : Nat)) % (8 : Nat))), V.i (gi [] (((0 : Nat) + (3 : Nat)) % (8 : Nat))), V.i (gi [] (((0 : Nat) + (2 : Nat)) % (8 : Nat))), V.i (gi [] (((0 : Nat) + (1 : Nat)) % (8 : Nat))), V.i (gi [] ((0 : Nat) % (8 : Nat))), V.i 0, V.sl 1 (List.length (Cv.feed (gc l (Int.toNat ((↑(List.length l) : Int) - (1 : Int) - (↑k : Int)))))) fun (k_1 : Nat) => [V.i (gi (Cv.feed (gc l (Int.toNat ((↑(List.length l) : Int) - (1 : Int) - (↑k : Int))))) k_1)], V.sl 1 (List.length (Cv.back (gc l (Int.toNat ((↑(List.length l) : Int) - (1 : Int) - (↑k : Int)))))) fun (k_1 : Nat) => [V.i (gi (Cv.back (gc l (Int.toNat ((↑(List.length l) : Int) - (1 : Int) - (↑k : Int))))) k_1)], V.i (Cv.share (gc l (Int.toNat ((↑(List.length l) : Int) - (1 : Int) - (↑k : Int)))))]]) (v' := V.tup [V.nil, V.i 4]) (δ := [(600048, Option.none), (601048, Option.none)]) (kp := [600048, 601048]) (each_no (gc l ((l.length : Int) - 1 - (k : Int)).toNat) true y 32767 hcv (by omega) (by decide) ha hj hb) (by kernel_rfl) (by kernel_rfl) (by kernel_rfl) (by kernel_rfl) (by kernel_rfl) (by kernel_rfl) rfl rfl (by kernel_rfl) (.box (by kernel_rfl) (by kernel_rfl) (.box (by kernel_rfl) (by kernel_rfl) .nil)) (by kernel_rfl) (by kernel_rfl) (by kernel_rfl) ?_
    refine aX hTT 5 [] True.intro ?_; refine aops_nil (xt_n (hK _ ?_)); clear hK K; refine aw_seq_k fun K hK => ?_; refine aw_seq_k fun K hK => wR 8 ?_; refine aX hTT 2 [] True.intro ?_; refine aops_nil (xt_n (hK _ ?_)); clear hK K; refine w_true (t := true) (by kernel_rfl) rfl ?_; refine aw_seq_k fun K hK => wR 9 ?_; refine aX hTT 3 [] True.intro ?_; refine aops_nil (xt_n (hK _ ?_)); clear hK K
    refine aw_ret ?_
    refine xt_r ?_
    refine xb_r ?_
    refine xt_r ?_; refine xt_r ?_
    refine xb_r ?_
    refine xt_r ?_
    rw [chR_3 c1 c2 ((chainI_fold l true 32767 x).trans (foldI_stop hsn))]
    refine ret_of_le (le_nil 6 (sz := 1) 0 (fun k => [.i (gi [] k)]) (by kernel_rfl) ?_) ?_
    ·
     rfl
    refine rP (zzFA60)
  ·
   subst c4
   have hq : gc (seqC l false) k = gc l k := hsq
   rw [hq] at hcv hsn
   refine aw_skip ?_
   refine xt_n (hK _ ?_); clear hK K; refine aw_seq_k fun K hK => wR 6 ?_; refine aX hTT 3 [(1, .c ((0 : Nat) ≤ (3 : Nat)))] ⟨(by omega), True.intro⟩ ?_
   refine aops_callN (first := []) (caps := []) (v' := V.fn (Fn.func (158 : Nat)) [] [V.ptr [V.b false], V.ref 500048 0]) (δ := [(500048, Option.some (Ob.box 234 [V.ref 501048 0])), (501048, Option.some (Ob.box 239 [V.i (gi [] (((0 : Nat) + (7 : Nat)) % (8 : Nat))), V.i (gi [] (((0 : Nat) + (6 : Nat)) % (8 : Nat))), V.i (gi [] (((0 : Nat) + (5 : Nat)) % (8 : Nat))), V.i (gi [] (((0 : Nat) + (4 : Nat)) % (8 : Nat))), V.i (gi [] (((0 : Nat) + (3 : Nat)) % (8 : Nat))), V.i (gi [] (((0 : Nat) + (2 : Nat)) % (8 : Nat))), V.i (gi [] (((0 : Nat) + (1 : Nat)) % (8 : Nat))), V.i (gi [] ((0 : Nat) % (8 : Nat))), V.i 0, V.i (gi [] (((0 : Nat) + (7 : Nat)) % (8 : Nat))), V.i (gi [] (((0 : Nat) + (6 : Nat)) % (8 : Nat))), V.i (gi [] (((0 : Nat) + (5 : Nat)) % (8 : Nat))), V.i (gi [] (((0 : Nat) + (4 : Nat)) % (8 : Nat))), V.i (gi [] (((0 : Nat) + (3 : Nat)) % (8 : Nat))), V.i (gi [] (((0 : Nat) + (2 : Nat)) % (8 : Nat))), V.i (gi [] (((0 : Nat) + (1 : Nat)) % (8 : Nat))), V.i (gi [] ((0 : Nat) % (8 : Nat))), V.i 0, V.sl 1 (List.length (Cv.feed (gc l k))) fun (k_1 : Nat) => [V.i (gi (Cv.feed (gc l k)) k_1)], V.sl 1 (List.length (Cv.back (gc l k))) fun (k_1 : Nat) => [V.i (gi (Cv.back (gc l k)) k_1)], V.i (Cv.share (gc l k))]))]) (fStep_ac (gc l k) false) (by kernel_rfl) (by kernel_rfl) (by kernel_rfl) (by kernel_rfl) (by kernel_rfl) (by kernel_rfl) (by kernel_rfl) ?_
   skip
   refine eC (within_ac 32767) ?_
   skip
   rcases fine_or (gc l k) false y 32767 with hfi | ⟨j, hj, hb⟩
   ·
    rw [runI_some hfi] at hsn
    refine aops_callM [500048, 501048] (first := []) (caps := []) (ins' := [Ob.box 234 [V.ref 501048 0], Ob.box 239 [V.i (gi [] (((0 : Nat) + (7 : Nat)) % (8 : Nat))), V.i (gi [] (((0 : Nat) + (6 : Nat)) % (8 : Nat))), V.i (gi [] (((0 : Nat) + (5 : Nat)) % (8 : Nat))), V.i (gi [] (((0 : Nat) + (4 : Nat)) % (8 : Nat))), V.i (gi [] (((0 : Nat) + (3 : Nat)) % (8 : Nat))), V.i (gi [] (((0 : Nat) + (2 : Nat)) % (8 : Nat))), V.i (gi [] (((0 : Nat) + (1 : Nat)) % (8 : Nat))), V.i (gi [] ((0 : Nat) % (8 : Nat))), V.i 0, V.i (gi [] (((0 : Nat) + (7 : Nat)) % (8 : Nat))), V.i (gi [] (((0 : Nat) + (6 : Nat)) % (8 : Nat))), V.i (gi [] (((0 : Nat) + (5 : Nat)) % (8 : Nat))), V.i (gi [] (((0 : Nat) + (4 : Nat)) % (8 : Nat))), V.i (gi [] (((0 : Nat) + (3 : Nat)) % (8 : Nat))), V.i (gi [] (((0 : Nat) + (2 : Nat)) % (8 : Nat))), V.i (gi [] (((0 : Nat) + (1 : Nat)) % (8 : Nat))), V.i (gi [] ((0 : Nat) % (8 : Nat))), V.i 0, V.sl 1 (List.length (Cv.feed (gc l k))) fun (k_1 : Nat) => [V.i (gi (Cv.feed (gc l k)) k_1)], V.sl 1 (List.length (Cv.back (gc l k))) fun (k_1 : Nat) => [V.i (gi (Cv.back (gc l k)) k_1)], V.i (Cv.share (gc l k))]]) (v' := V.tup [V.own 500050, V.i 0]) (δ := [(500048, Option.none), (501048, Option.none), (500050, Option.some (Ob.row 2 1 (List.length y) fun (i : Nat) => V.renL (nameG (5 : Nat) (some 50) [(500048 : Nat), (501048 : Nat)]) [V.i (gi (resL (gc l k) false y) i)]))]) (kp := [500048, 501048]) (each_ok (gc l k) false y 32767 hcv (by omega) (by decide) ha hfi) (by kernel_rfl) (by kernel_rfl) (by kernel_rfl) (by kernel_rfl) (by kernel_rfl) (by kernel_rfl) rfl rfl (by kernel_rfl) (.box (by kernel_rfl) (by kernel_rfl) (.box (by kernel_rfl) (by kernel_rfl) .nil)) (by kernel_rfl) (by kernel_rfl) (by kernel_rfl) ?_
    refine aX hTT 5 [] True.intro ?_; refine aops_nil (xt_n (hK _ ?_)); clear hK K; refine aw_seq_k fun K hK => ?_; refine aw_seq_k fun K hK => ?_
    refine w_le (le_shut 12 500050 (e := (2 : Nat)) (sz := (1 : Nat)) (n := List.length y) (n' := (resL (gc l k) false y).length) (row := fun (i : Nat) => V.renL (nameG (5 : Nat) (some (50 : Tmp)) [(500048 : Nat), (501048 : Nat)]) [V.i (gi (resL (gc l k) false y) i)]) (row' := (fun j => [.i (gi (resL (gc l k) false y) j)])) (by kernel_rfl) (by kernel_rfl) (fun _ _ => rfl) ?_ ?_) ?_
    ·
     rw [resL_len]
    ·
     intro i hi
     rfl
    refine wR 7 ?_; refine aX hTT 2 [] True.intro ?_; refine aops_nil (xt_n (hK _ ?_)); clear hK K; refine w_false (t := false) (by kernel_rfl) rfl ?_
    refine aw_skip ?_
    refine xt_n (hK _ ?_); clear hK K; refine wR 8 ?_; refine aX hTT 2 [] True.intro ?_; refine aops_nil ?_; refine xb_n ?_; refine xt_n (hK _ ?_); clear hK K; refine wR 9 ?_; refine aX hTT 2 [(0, .i ((↑k : Int) + (1 : Int)))] ⟨(by omega), True.intro⟩ ?_; refine aops_nil ?_; refine xt_n ?_
    refine ⟨(k + 1, resL (gc l k) false y), ⟨by omega, by simp only [resL_len, hy], any_bey.1 (any_resL.2 hfi), hsn⟩, ?_, by simp only; omega⟩
    show Le _ ⟨mkT [(0, V.cvs l), (1, V.ints (resL (gc l k) false y)), (2, .b false), (27, .i l.length), (28, .i ((k + 1 : Nat) : Int))], mkS [], 1⟩
    refine le_ren [] (.cons (by kernel_rfl) (.cons (by kernel_rfl) (.cons (by kernel_rfl) (.cons (by kernel_rfl) (.cons (by kernel_rfl) .nil))))) .nil (by kernel_rfl) (by kernel_rfl)
   ·
    rw [runI_none hj hb] at hsn
    refine aops_callM [500048, 501048] (first := []) (caps := []) (ins' := [Ob.box 234 [V.ref 501048 0], Ob.box 239 [V.i (gi [] (((0 : Nat) + (7 : Nat)) % (8 : Nat))), V.i (gi [] (((0 : Nat) + (6 : Nat)) % (8 : Nat))), V.i (gi [] (((0 : Nat) + (5 : Nat)) % (8 : Nat))), V.i (gi [] (((0 : Nat) + (4 : Nat)) % (8 : Nat))), V.i (gi [] (((0 : Nat) + (3 : Nat)) % (8 : Nat))), V.i (gi [] (((0 : Nat) + (2 : Nat)) % (8 : Nat))), V.i (gi [] (((0 : Nat) + (1 : Nat)) % (8 : Nat))), V.i (gi [] ((0 : Nat) % (8 : Nat))), V.i 0, V.i (gi [] (((0 : Nat) + (7 : Nat)) % (8 : Nat))), V.i (gi [] (((0 : Nat) + (6 : Nat)) % (8 : Nat))), V.i (gi [] (((0 : Nat) + (5 : Nat)) % (8 : Nat))), V.i (gi [] (((0 : Nat) + (4 : Nat)) % (8 : Nat))), V.i (gi [] (((0 : Nat) + (3 : Nat)) % (8 : Nat))), V.i (gi [] (((0 : Nat) + (2 : Nat)) % (8 : Nat))), V.i (gi [] (((0 : Nat) + (1 : Nat)) % (8 : Nat))), V.i (gi [] ((0 : Nat) % (8 : Nat))), V.i 0, V.sl 1 (List.length (Cv.feed (gc l k))) fun (k_1 : Nat) => [V.i (gi (Cv.feed (gc l k)) k_1)], V.sl 1 (List.length (Cv.back (gc l k))) fun (k_1 : Nat) => [V.i (gi (Cv.back (gc l k)) k_1)], V.i (Cv.share (gc l k))]]) (v' := V.tup [V.nil, V.i 4]) (δ := [(500048, Option.none), (501048, Option.none)]) (kp := [500048, 501048]) (each_no (gc l k) false y 32767 hcv (by omega) (by decide) ha hj hb) (by kernel_rfl) (by kernel_rfl) (by kernel_rfl) (by kernel_rfl) (by kernel_rfl) (by kernel_rfl) rfl rfl (by kernel_rfl) (.box (by kernel_rfl) (by kernel_rfl) (.box (by kernel_rfl) (by kernel_rfl) .nil)) (by kernel_rfl) (by kernel_rfl) (by kernel_rfl) ?_
    refine aX hTT 5 [] True.intro ?_; refine aops_nil (xt_n (hK _ ?_)); clear hK K; refine aw_seq_k fun K hK => ?_; refine aw_seq_k fun K hK => wR 7 ?_; refine aX hTT 2 [] True.intro ?_; refine aops_nil (xt_n (hK _ ?_)); clear hK K; refine w_true (t := true) (by kernel_rfl) rfl ?_; refine aw_seq_k fun K hK => wR 8 ?_; refine aX hTT 3 [] True.intro ?_; refine aops_nil (xt_n (hK _ ?_)); clear hK K
    refine aw_ret ?_
    refine xt_r ?_
    refine xb_r ?_
    refine xt_r ?_; refine xt_r ?_
    refine xb_r ?_
    refine xt_r ?_
    rw [chR_3 c1 c2 ((chainI_fold l false 32767 x).trans (foldI_stop hsn))]
    refine ret_of_le (le_nil 6 (sz := 1) 0 (fun k => [.i (gi [] k)]) (by kernel_rfl) ?_) ?_
    ·
     rfl
    refine rP (zzFA60)
 ·
  simp at c3
  obtain rfl : k = l.length := by omega
  rw [List.take_of_length_le (by rw [seqC_len]; omega)] at hf
  refine aw_exit ?_
  refine xt_x ?_; refine xt_x ?_
  refine xb_same ?_
  refine xt_n ?_; clear hK K; refine hK _ ?_; clear hK K; refine aw_seq_k fun K hK => wR 3 ?_; refine aX hTT 3 [] True.intro ?_; refine aops_nil (xt_n (hK _ ?_)); clear hK K
  refine aw_ret ?_
  rw [chR_4 c1 c2 ((chainI_fold l u 32767 x).trans hf)]
  refine rP (V.tup [V.sl 1 (List.length y) fun (k : Nat) => [V.i (gi y k)], V.i 0])
end Go.Proofs.YtepkjobndmmejaaGreatDoor

namespace Go.Proofs.YtepkjobndmmejaaGreatDoor
open Go.Ab Go.RowKit Go.Dw Go.Shelf
theorem cvs_one {c : Cv} (h : cvL c) : cvsL [c] := ⟨by unfold bigL; simp, fun k hk => by simp at hk; subst hk; exact h⟩
def apR (c : Cv) (u : Bool) (x : List Int) : Int × List Int := chR [c] u x
set_option maxRecDepth 100000 in
theorem Apply_ac (c : Cv) (x : List Int) (hc : cvL c) (hx : x.length ≤ bigL) : AC Tryz.prog 96 [V.cv c, V.ints x] (.tup [V.ints (apR c false x).2, .i (apR c false x).1]) [] := by
 refine acI hTT hMX Tryz.func96 Tryz.ntmps96 fun C hC hF => ?_
 refine aw_seq_k fun K hK => wR 2 ?_; refine aX hTT 3 [] True.intro ?_; refine aops_nil (xt_n (hK _ ?_)); clear hK K; refine aw_seq_k fun K hK => wR 3 ?_; refine aX hTT 3 [] True.intro ?_
 refine eC (AC.conv (chain_ac [c] x false (cvs_one hc) hx) (args' := [V.sl 3 1 fun (i : Nat) => List.take (3 : Nat) (List.drop (i * (3 : Nat)) [V.sl 1 (List.length (Cv.feed c)) fun (k : Nat) => [V.i (gi (Cv.feed c) k)], V.sl 1 (List.length (Cv.back c)) fun (k : Nat) => [V.i (gi (Cv.back c) k)], V.i (Cv.share c)]), V.sl 1 (List.length x) fun (k : Nat) => [V.i (gi x k)], V.b false]) ⟨?_, RImp.refl _, RImp.refl _, trivial⟩) ?_
 ·
  refine RImp.rows rfl fun i hi => ?_
  obtain rfl : i = 0 := by omega
  rfl
 refine aX hTT 4 [] True.intro ?_; refine aops_nil (xt_n (hK _ ?_)); clear hK K
 refine aw_ret ?_
 refine rP (V.tup [V.sl 1 (List.length (Prod.snd (chR [c] false x))) fun (k : Nat) => [V.i (gi (Prod.snd (chR [c] false x)) k)], V.i (Prod.fst (chR [c] false x))])
def hl (f : Nat → Int) : Nat → List Int
 | 0 => []
 | t + 1 => f t :: hl f t
abbrev RowI (n : Nat) (f : Nat → Int) : Ob := .row 2 1 n fun j => [.i (f j)]
end Go.Proofs.YtepkjobndmmejaaGreatDoor

namespace Go.Proofs.YtepkjobndmmejaaGreatDoor
open Go.Ab Go.RowKit Go.Dw Go.Shelf
end Go.Proofs.YtepkjobndmmejaaGreatDoor

namespace Go.Proofs.YtepkjobndmmejaaGreatDoor
open Go.Ab Go.RowKit Go.Dw Go.Shelf
attribute [local go_sem] Oper.semAt_some
def wayAt (n k : Nat) : Nat := if k + 1 < n then k + 1 else 2 * n - 3 - k
def wayB (n k : Nat) : Nat := if k + 1 < n then k else 2 * n - 2 - k
def wayE (n k : Nat) : Array Value := #[.int .i64 (wayAt n k : Nat), .int .i64 (wayB n k : Nat)]
def wayEs (n : Nat) : List (Array Value) := (List.range (2 * n - 2)).map (wayE n)
def wayV (n : Nat) : List (List V) := (List.range (2 * n - 2)).map fun k : Nat => [V.i (wayAt n k : Nat), V.i (wayB n k : Nat)]
set_option maxRecDepth 100000 in
set_option maxHeartbeats 1000000 in
theorem ways_iter (p : Addr) (n : Nat) (hn : n ≤ 65536) (w : World) (R : Nat → Prop) (l1 : p.block < w.heap.size) (h1 : w.cell? p = some (.int .i64 n)) (r1 : ¬ R p.block) :
  Iter Tryz.prog 105 #[.pointer (some p)] (wayEs n) R w := by
 intro l J Jx W hT hl hlW hJ hJx hY h0
 have hb : ∀ wr, Tch (fun k => R k ∨ k = l) W wr → wr.cell? p = some (.int .i64 n) := fun wr ht =>
  ((ht.cell (Nat.lt_of_lt_of_le l1 hT.size) (by rintro (e | e); exact r1 e; omega)).trans (hT.cell l1 r1)).trans h1
 have c1 := hb W (Tch.refl _ _)
 refine callsIn_of_wp Tryz.func105 rfl trivial ?_ rfl
 simp only [Tryz.ntmps105, List.size_toArray, List.length_cons, List.length_nil, Nat.reduceAdd, Nat.reduceSub, Array.replicate_succ, Array.replicate_zero, List.push_toArray, List.append_toArray, List.nil_append, List.cons_append]
 gi_wp2
 gi_loopw [3] (fun u wr => ∃ k : Nat, k ≤ n - 1 ∧ u = .int .i64 ((k : Int) + 1) ∧ J k wr ∧ Tch (fun k => R k ∨ k = l) W wr) (fun u wr => n + 1 - (intOf u).toNat)
 case atStart => exact ⟨0, Nat.zero_le _, rfl, h0, Tch.refl _ _⟩
 case round =>
  obtain ⟨k, hk, rfl, hJk, hTk⟩ := hrel
  have d1 := hb wr hTk
  by_cases hlt : k + 1 < n
  ·
   have hkl : k < (wayEs n).length := by simp only [wayEs, List.length_map, List.length_range]; omega
   obtain ⟨fn, tmps, assign, body, hy, hR⟩ := hY k (wayE n k) wr (by simp only [wayEs, List.length_map, List.length_range] at hkl; simp [wayEs, hkl]) hTk.size hJk
   rw [show wayE n k = #[.int .i64 ((k : Int) + 1), .int .i64 (k : Int)] by simp [wayE, wayAt, wayB, hlt]] at hy
   have e1 : (k : Int) + 1 - 1 = k := by omega
   gi_wp2
   refine hR.mono ?_
   rintro e W2 ⟨bb, rfl, hT2, hJ2, hJ3⟩
   cases bb
   rotate_left
   ·
    gi_wp2
    go_roundw
    case rel => exact ⟨k + 1, by omega, by go_num, hJ2 (by simp), hTk.trans hT2⟩
    case measure => simp [intOf]; omega
   ·
    gi_wp2
    refine bodyPost_ret (results_none rfl _ _ _) rfl ?_
    exact ⟨⟨_, rfl⟩, .inr ⟨k, hkl, hJ3 (by simp)⟩⟩
  ·
   obtain rfl : k = n - 1 := by omega
   gi_wp2
   gi_loopw [4] (fun u wr => ∃ j : Nat, j ≤ n - 1 ∧ u = .int .i64 ((n : Int) - 2 - (j : Int)) ∧ J (n - 1 + j) wr ∧ Tch (fun k => R k ∨ k = l) W wr) (fun u wr => (intOf u + 2).toNat)
   case atStart => exact ⟨0, by omega, by go_num, by rw [Nat.add_zero]; exact hJk, hTk⟩
   case round =>
    obtain ⟨j, hj, rfl, hJj, hTj⟩ := hrel
    have d2 := hb wr hTj
    by_cases hlt2 : 2 + j ≤ n
    ·
     have hkl : n - 1 + j < (wayEs n).length := by simp only [wayEs, List.length_map, List.length_range]; omega
     obtain ⟨fn, tmps, assign, body, hy, hR⟩ := hY (n - 1 + j) (wayE n (n - 1 + j)) wr (by simp only [wayEs, List.length_map, List.length_range] at hkl; simp [wayEs, hkl]) hTj.size hJj
     rw [show wayE n (n - 1 + j) = #[.int .i64 ((n : Int) - 2 - (j : Int)), .int .i64 ((n : Int) - 2 - (j : Int) + 1)] by
      have e1 : wayAt n (n - 1 + j) = n - 2 - j := by unfold wayAt; rw [if_neg (by omega)]; omega
      have e2 : wayB n (n - 1 + j) = n - 1 - j := by unfold wayB; rw [if_neg (by omega)]; omega
      rw [wayE, e1, e2, show ((n - 2 - j : Nat) : Int) = (n : Int) - 2 - (j : Int) by omega, show ((n - 1 - j : Nat) : Int) = (n : Int) - 2 - (j : Int) + 1 by omega]] at hy
     gi_wp2
     refine hR.mono ?_
     rintro e W2 ⟨bb, rfl, hT2, hJ2, hJ3⟩
     cases bb
     rotate_left
     ·
      gi_wp2
      go_roundw
      case rel => exact ⟨j + 1, by omega, by go_num, by rw [← Nat.add_assoc]; exact hJ2 (by simp), hTj.trans hT2⟩
      case measure => simp [intOf]; omega
     ·
      gi_wp2
      refine bodyPost_ret (results_none rfl _ _ _) rfl ?_
      exact ⟨⟨_, rfl⟩, .inr ⟨n - 1 + j, hkl, hJ3 (by simp)⟩⟩
    ·
     have he : n - 1 + j = (wayEs n).length := by simp only [wayEs, List.length_map, List.length_range]; omega
     gi_wp2
     go_end0
     exact ⟨⟨_, rfl⟩, .inl (by rw [← he]; exact hJj)⟩
set_option maxRecDepth 100000 in
theorem ways_ac (n : Int) : AC Tryz.prog 79 [.i n] (.fn (.func 105) [] [.ptr [.i n]]) [] := by
 refine acI hTT hMX Tryz.func79 Tryz.ntmps79 fun C hC hF => ?_
 refine aw_seq_k fun K hK => wR 2 ?_; refine aX hTT 2 [] True.intro ?_; refine aops_nil (xt_n (hK _ ?_)); clear hK K; refine aw_seq_k fun K hK => wR 3 ?_; refine aX hTT 2 [] True.intro ?_; refine aops_nil (xt_n (hK _ ?_)); clear hK K
 refine aw_ret ?_
 refine rP (V.fn (Fn.func (105 : Nat)) [] [V.ptr [V.i n]])
theorem ways_aiter (n : Nat) (hn : n ≤ 65536) : AIter Tryz.prog 105 [.ptr [.i n]] (wayV n) := by
 refine ⟨enters_of Tryz.func105 (by kernel_rfl) rfl, fun L w lb hL hlb => ?_⟩
 refine ⟨wayEs n, by simp [wayEs, wayV], fun k v x hv hx => ?_, fun R hR => ?_⟩
 ·
  simp only [wayV, wayEs, List.getElem?_map, Option.map_eq_some_iff] at hv hx
  obtain ⟨k1, h1, rfl⟩ := hv
  obtain ⟨k2, h2, rfl⟩ := hx
  rw [h1] at h2; injection h2 with h2; subst h2
  exact .cons (.c _ _) (.cons (.c _ _) .nil)
 ·
  obtain ⟨lb⟩ := lb
  obtain ⟨x1, e1, q1⟩ := hlb.get (i := 0) rfl
  obtain ⟨b1, o1, rfl, hb1, hc1⟩ := q1.ptr_inv
  obtain ⟨y1, g1, _, t1⟩ := hc1 0 _ rfl
  rw [t1.c_inv] at g1
  have hlen := hlb.1
  obtain rfl : lb = [.pointer (some ⟨b1, o1, none⟩)] := by
   match lb, hlen with
   | [a], _ => simp at e1; subst e1; rfl
  exact ways_iter _ n hn w R (hL b1 hb1) (by simpa using g1) (fun h => (hR _ h).2 hb1)
end Go.Proofs.YtepkjobndmmejaaGreatDoor

namespace Go.Proofs.YtepkjobndmmejaaGreatDoor
open Go.Ab Go.RowKit Go.Dw Go.Shelf
def amtS (p : Pt) : Int := max (max (max p.1 (-p.1)) p.2) (-p.2)
def needI (p : Pt) (c : Int) : Int := if amtS p = 0 then 256 else min 256 ((256 * (c + 1) - 1) / amtS p)
def withI (n g : Int) : Int := (n * g).tdiv 256
def absI (n : Int) : Int := max n (-n)
theorem amtS_bd {p : Pt} {m : Int} (h : (-m ≤ p.1 ∧ p.1 ≤ m) ∧ (-m ≤ p.2 ∧ p.2 ≤ m)) : 0 ≤ amtS p ∧ amtS p ≤ m := by unfold amtS; omega
theorem tdiv_abs (n : Int) : absI (n.tdiv 256) = absI n / 256 := by
  unfold absI
  by_cases h : 0 ≤ n
  · rw [Int.tdiv_eq_ediv_of_nonneg h]; omega
  · have e : n.tdiv 256 = -((-n) / 256) := by rw [← Int.tdiv_eq_ediv_of_nonneg (by omega), Int.neg_tdiv]; omega
    rw [e]; omega
theorem absI_mul {n g : Int} (hg : 0 ≤ g) : absI (n * g) = absI n * g := by
  unfold absI
  by_cases h : 0 ≤ n
  · have h1 := Int.mul_nonneg h hg
    rw [Int.max_eq_left (by omega), Int.max_eq_left (by omega)]
  · have h1 := Int.mul_nonneg (show 0 ≤ -n by omega) hg
    rw [Int.neg_mul] at h1
    rw [Int.max_eq_right (by omega), Int.max_eq_right (by omega), Int.neg_mul]
theorem withI_abs {n g : Int} (hg : 0 ≤ g) : absI (withI n g) = absI n * g / 256 := by rw [withI, tdiv_abs, absI_mul hg]
def okG (p : Pt) (c g : Int) : Bool := !(decide (c < absI (withI p.1 g)) || decide (c < absI (withI p.2 g)))
theorem amtS_max (p : Pt) : amtS p = max (absI p.1) (absI p.2) := by unfold amtS absI; omega
theorem absI_nonneg (n : Int) : 0 ≤ absI n := by unfold absI; omega
theorem okG_iff {p : Pt} {c g : Int} (hg : 0 ≤ g) : okG p c g = true ↔ amtS p * g ≤ 256 * (c + 1) - 1 := by
  have e : amtS p * g = max (absI p.1 * g) (absI p.2 * g) := by
    rw [amtS_max]
    by_cases h : absI p.1 ≤ absI p.2
    · rw [Int.max_eq_right h, Int.max_eq_right (Int.mul_le_mul_of_nonneg_right h hg)]
    · rw [Int.max_eq_left (by omega), Int.max_eq_left (Int.mul_le_mul_of_nonneg_right (by omega) hg)]
  unfold okG
  rw [withI_abs hg, withI_abs hg, e]
  simp
  omega
theorem needI_bd {p : Pt} {c : Int} (hc : 1 ≤ c) (h : 0 ≤ amtS p) : 0 ≤ needI p c ∧ needI p c ≤ 256 := by
  unfold needI
  split
  · omega
  · have := Int.ediv_nonneg (a := 256 * (c + 1) - 1) (b := amtS p) (by omega) h
    omega
theorem needI_iff {p : Pt} {c g : Int} (hc : 1 ≤ c) (h : 0 ≤ amtS p) (hg : 0 ≤ g ∧ g ≤ 256) : okG p c g = true ↔ g ≤ needI p c := by
  rw [okG_iff hg.1]
  unfold needI
  split
  · rename_i h0; rw [h0]; simp; omega
  · rename_i h0
    have h1 : 0 < amtS p := by omega
    constructor
    · intro h2
      have : g ≤ (256 * (c + 1) - 1) / amtS p := Int.le_ediv_of_mul_le h1 (by rw [Int.mul_comm]; exact h2)
      omega
    · intro h2
      have : g ≤ (256 * (c + 1) - 1) / amtS p := by omega
      have := Int.mul_le_of_le_ediv h1 this
      rw [Int.mul_comm]; exact this
def gUp (n : List Int) (s : Int) (t : Nat) : Nat → Int
  | 0 => gi n t
  | u + 1 => min (gUp n s t u) (gi n u + s * absI ((t : Int) - (u : Int)))
def gainAt (n : List Int) (s : Int) (t : Nat) : Int := gUp n s t n.length
def gainL (n : List Int) (s : Int) : List Int := (List.range n.length).map (gainAt n s)
theorem gainL_len (n : List Int) (s : Int) : (gainL n s).length = n.length := by simp [gainL]
theorem gainL_gi {n : List Int} {s : Int} {t : Nat} (h : t < n.length) : gi (gainL n s) t = gainAt n s t := by simp [gainL, gi, h]
theorem gUp_le (n : List Int) (s : Int) (t : Nat) : ∀ m, gUp n s t m ≤ gi n t ∧ ∀ u, u < m → gUp n s t m ≤ gi n u + s * absI ((t : Int) - (u : Int))
  | 0 => ⟨Int.le_refl _, fun u h => by omega⟩
  | m + 1 => by
    obtain ⟨h1, h2⟩ := gUp_le n s t m
    rw [gUp]
    refine ⟨by omega, fun u hu => ?_⟩
    by_cases h : u < m
    · have := h2 u h; omega
    · obtain rfl : u = m := by omega
      omega
theorem gUp_eq {n : List Int} {s : Int} {t : Nat} : ∀ m, gUp n s t m = gi n t ∨ ∃ u, u < m ∧ gUp n s t m = gi n u + s * absI ((t : Int) - (u : Int))
  | 0 => .inl rfl
  | m + 1 => by
    rw [gUp]
    by_cases h : gUp n s t m ≤ gi n m + s * absI ((t : Int) - (m : Int))
    · rw [Int.min_eq_left h]
      rcases gUp_eq m with h1 | ⟨u, h1, h2⟩
      · exact .inl h1
      · exact .inr ⟨u, by omega, h2⟩
    · rw [Int.min_eq_right (by omega)]
      exact .inr ⟨m, by omega, rfl⟩
theorem gainAt_le {n : List Int} {s : Int} {t : Nat} {u : Nat} (hu : u < n.length) : gainAt n s t ≤ gi n u + s * absI ((t : Int) - (u : Int)) := (gUp_le n s t n.length).2 u hu
theorem gainAt_eq {n : List Int} {s : Int} {t : Nat} (ht : t < n.length) : ∃ u, u < n.length ∧ gainAt n s t = gi n u + s * absI ((t : Int) - (u : Int)) := by
  rcases gUp_eq (n := n) (s := s) (t := t) n.length with h | h
  · exact ⟨t, ht, by rw [gainAt, h]; simp [absI]⟩
  · exact h
theorem gain_step {n : List Int} {s : Int} (hs : 0 ≤ s) {t t' : Nat} (ht : t < n.length) (h1 : t' = t + 1 ∨ t = t' + 1) : gainAt n s t' ≤ gainAt n s t + s := by
  obtain ⟨u, hu, he⟩ := gainAt_eq (s := s) ht
  have h2 := gainAt_le (s := s) (t := t') hu
  have h3 : s * absI ((t' : Int) - (u : Int)) ≤ s * (absI ((t : Int) - (u : Int)) + 1) := Int.mul_le_mul_of_nonneg_left (by unfold absI; omega) hs
  rw [Int.mul_add, Int.mul_one] at h3
  omega
def pA (n : List Int) (s : Int) : Nat → Int
  | 0 => gi n 0
  | j + 1 => min (gi n (j + 1)) (pA n s j + s)
def pB (n : List Int) (s : Int) : Nat → Int
  | 0 => pA n s (n.length - 1)
  | i + 1 => min (pA n s (n.length - 2 - i)) (pB n s i + s)
def wayF (n : List Int) (s : Int) : Nat → Nat → Int
  | 0 => gi n
  | k + 1 => fun j => if j = wayAt n.length k then min (wayF n s k j) (wayF n s k (wayB n.length k) + s) else wayF n s k j
theorem wayF_a {n : List Int} {s : Int} : ∀ {k : Nat}, k + 1 ≤ n.length → ∀ j, wayF n s k j = if j ≤ k then pA n s j else gi n j
  | 0, _, j => by
    rw [wayF]
    split
    · obtain rfl : j = 0 := by omega
      rfl
    · rfl
  | k + 1, h, j => by
    have ih := wayF_a (n := n) (s := s) (k := k) (by omega)
    have e1 : wayAt n.length k = k + 1 := by unfold wayAt; rw [if_pos (by omega)]
    have e2 : wayB n.length k = k := by unfold wayB; rw [if_pos (by omega)]
    simp only [wayF, e1, e2, ih]
    by_cases hj : j = k + 1
    · subst hj
      rw [if_pos rfl, if_neg (by omega), if_pos (Nat.le_refl k), if_pos (by omega), pA]
    · rw [if_neg hj]
      by_cases hk : j ≤ k
      · rw [if_pos hk, if_pos (by omega)]
      · rw [if_neg hk, if_neg (by omega)]
theorem wayF_b {n : List Int} {s : Int} (h0 : 0 < n.length) : ∀ {i : Nat}, i + 1 ≤ n.length → ∀ j, j < n.length → wayF n s (n.length - 1 + i) j = if n.length - 1 - i ≤ j then pB n s (n.length - 1 - j) else pA n s j
  | 0, _, j, hj => by
    rw [Nat.add_zero, wayF_a (by omega), if_pos (by omega)]
    split
    · obtain rfl : j = n.length - 1 := by omega
      rw [Nat.sub_self]; rfl
    · rfl
  | i + 1, h, j, hj => by
    have ih := wayF_b (n := n) (s := s) h0 (i := i) (by omega)
    have e1 : wayAt n.length (n.length - 1 + i) = n.length - 2 - i := by unfold wayAt; rw [if_neg (by omega)]; omega
    have e2 : wayB n.length (n.length - 1 + i) = n.length - 1 - i := by unfold wayB; rw [if_neg (by omega)]; omega
    rw [← Nat.add_assoc]
    simp only [wayF, e1, e2]
    by_cases hj2 : j = n.length - 2 - i
    · subst hj2
      rw [if_pos rfl, ih _ hj, ih _ (by omega), if_neg (by omega), if_pos (Nat.le_refl _), if_pos (by omega)]
      rw [show n.length - 1 - (n.length - 2 - i) = i + 1 by omega, show n.length - 1 - (n.length - 1 - i) = i by omega, pB]
    · rw [if_neg hj2, ih _ hj]
      by_cases hk : n.length - 1 - i ≤ j
      · rw [if_pos hk, if_pos (by omega)]
      · rw [if_neg hk, if_neg (by omega)]
theorem pA_le {n : List Int} {s : Int} : ∀ {j : Nat} (u : Nat), u ≤ j → pA n s j ≤ gi n u + s * ((j : Int) - (u : Int))
  | 0, u, h => by
    obtain rfl : u = 0 := by omega
    simp [pA]
  | j + 1, u, h => by
    rw [pA]
    by_cases hu : u = j + 1
    · subst hu; simp; omega
    · have ih := pA_le (n := n) (s := s) (j := j) u (by omega)
      have e : s * (((j + 1 : Nat) : Int) - (u : Int)) = s * ((j : Int) - (u : Int)) + s := by rw [show ((j + 1 : Nat) : Int) - (u : Int) = ((j : Int) - (u : Int)) + 1 by omega, Int.mul_add, Int.mul_one]
      omega
theorem pA_eq {n : List Int} {s : Int} : ∀ j : Nat, ∃ u, u ≤ j ∧ pA n s j = gi n u + s * ((j : Int) - (u : Int))
  | 0 => ⟨0, by omega, by simp [pA]⟩
  | j + 1 => by
    rw [pA]
    by_cases h : gi n (j + 1) ≤ pA n s j + s
    · exact ⟨j + 1, by omega, by rw [Int.min_eq_left h]; simp⟩
    · obtain ⟨u, h1, h2⟩ := pA_eq (n := n) (s := s) j
      refine ⟨u, by omega, ?_⟩
      rw [Int.min_eq_right (by omega), h2, show ((j + 1 : Nat) : Int) - (u : Int) = ((j : Int) - (u : Int)) + 1 by omega, Int.mul_add, Int.mul_one]
      omega
theorem gain_pA {n : List Int} {s : Int} {j : Nat} (hj : j < n.length) : gainAt n s j ≤ pA n s j := by
  obtain ⟨u, h1, h2⟩ := pA_eq (n := n) (s := s) j
  have h3 := gainAt_le (n := n) (s := s) (t := j) (u := u) (by omega)
  rw [show absI ((j : Int) - (u : Int)) = (j : Int) - (u : Int) by unfold absI; omega] at h3
  omega
theorem pB_gain {n : List Int} {s : Int} (hs : 0 ≤ s) (h0 : 0 < n.length) : ∀ {i : Nat}, i < n.length → pB n s i = gainAt n s (n.length - 1 - i) := by
  have low : ∀ i, i < n.length → gainAt n s (n.length - 1 - i) ≤ pB n s i := by
    intro i
    induction i with
    | zero => intro _; rw [pB]; exact gain_pA (by omega)
    | succ i ih =>
      intro hi
      have h1 := ih (by omega)
      have h2 := gain_pA (n := n) (s := s) (j := n.length - 2 - i) (by omega)
      have h3 := gain_step (n := n) hs (t := n.length - 1 - i) (t' := n.length - 2 - i) (by omega) (by omega)
      rw [pB, show n.length - 1 - (i + 1) = n.length - 2 - i by omega]
      omega
  have up : ∀ i, i < n.length → ∀ u, u < n.length → pB n s i ≤ gi n u + s * absI (((n.length - 1 - i : Nat) : Int) - (u : Int)) := by
    intro i
    induction i with
    | zero =>
      intro _ u hu
      have := pA_le (n := n) (s := s) (j := n.length - 1) u (by omega)
      rw [pB, Nat.sub_zero, show absI (((n.length - 1 : Nat) : Int) - (u : Int)) = ((n.length - 1 : Nat) : Int) - (u : Int) by unfold absI; omega]
      exact this
    | succ i ih =>
      intro hi u hu
      rw [pB, show n.length - 1 - (i + 1) = n.length - 2 - i by omega]
      by_cases h : u ≤ n.length - 2 - i
      · have := pA_le (n := n) (s := s) (j := n.length - 2 - i) u h
        rw [show absI (((n.length - 2 - i : Nat) : Int) - (u : Int)) = ((n.length - 2 - i : Nat) : Int) - (u : Int) by unfold absI; omega]
        omega
      · have h1 := ih (by omega) u hu
        rw [show absI (((n.length - 1 - i : Nat) : Int) - (u : Int)) = (u : Int) - ((n.length - 1 - i : Nat) : Int) by unfold absI; omega] at h1
        rw [show absI (((n.length - 2 - i : Nat) : Int) - (u : Int)) = ((u : Int) - ((n.length - 1 - i : Nat) : Int)) + 1 by unfold absI; omega, Int.mul_add, Int.mul_one]
        omega
  intro i hi
  obtain ⟨u, hu, he⟩ := gainAt_eq (n := n) (s := s) (t := n.length - 1 - i) (by omega)
  have h1 := low i hi
  have h2 := up i hi u hu
  omega
theorem wayF_gain {n : List Int} {s : Int} (hs : 0 ≤ s) {j : Nat} (hj : j < n.length) : wayF n s (2 * n.length - 2) j = gainAt n s j := by
  rw [show 2 * n.length - 2 = n.length - 1 + (n.length - 1) by omega, wayF_b (by omega) (by omega) j hj, if_pos (by omega), pB_gain hs (by omega) (by omega)]
  congr 1
  omega
end Go.Proofs.YtepkjobndmmejaaGreatDoor

namespace Go.Proofs.YtepkjobndmmejaaGreatDoor
open Go.Ab Go.RowKit Go.Dw Go.Shelf
def loudB (p : Pt) (m : Int) : Bool := bey p.1 m || bey p.2 m
theorem loudB_no {p : Pt} {m : Int} : loudB p m = false ↔ (-m ≤ p.1 ∧ p.1 ≤ m) ∧ (-m ≤ p.2 ∧ p.2 ≤ m) := by
 unfold loudB; rw [Bool.or_eq_false_iff, bey_no, bey_no]
def progE (l : List Pt) : Int := if 4096 < l.length then 6 else if l.any fun p => loudB p 32767 then 3 else 0
theorem any_gp {l : List Pt} {m : Int} : (l.any fun p => loudB p m) = true ↔ ∃ k, k < l.length ∧ loudB (gp l k) m = true := by
 rw [List.any_eq_true]
 constructor
 ·
  rintro ⟨x, hx, h⟩
  obtain ⟨k, hk, rfl⟩ := List.getElem_of_mem hx
  exact ⟨k, hk, by rw [gp_eq hk]; exact h⟩
 ·
  rintro ⟨k, hk, h⟩
  exact ⟨l[k], List.getElem_mem _, by rw [← gp_eq hk]; exact h⟩
theorem any_gp_no {l : List Pt} {m : Int} : (l.any fun p => loudB p m) = false ↔ ∀ k, k < l.length → loudB (gp l k) m = false := by
 constructor
 ·
  intro h k hk
  cases hb : loudB (gp l k) m with
  | false => rfl
  | true => rw [any_gp.2 ⟨k, hk, hb⟩] at h; cases h
 ·
  intro h
  cases hb : l.any fun p => loudB p m with
  | false => rfl
  | true =>
   obtain ⟨k, hk, h2⟩ := any_gp.1 hb
   rw [h k hk] at h2; cases h2
theorem progE_ok {l : List Pt} : progE l = 0 ↔ l.length ≤ 4096 ∧ ∀ k, k < l.length → (-32767 ≤ (gp l k).1 ∧ (gp l k).1 ≤ 32767) ∧ (-32767 ≤ (gp l k).2 ∧ (gp l k).2 ≤ 32767) := by
 unfold progE
 by_cases h : 4096 < l.length
 ·
  rw [if_pos h]; simp; omega
 ·
  rw [if_neg h]
  have e : (∀ k, k < l.length → (-32767 ≤ (gp l k).1 ∧ (gp l k).1 ≤ 32767) ∧ (-32767 ≤ (gp l k).2 ∧ (gp l k).2 ≤ 32767)) ↔ (l.any fun p => loudB p 32767) = false := by
   rw [any_gp_no]
   exact ⟨fun h k hk => loudB_no.2 (h k hk), fun h k hk => loudB_no.1 (h k hk)⟩
  rw [e]
  cases (l.any fun p => loudB p 32767) <;> simp
  omega
set_option maxRecDepth 100000 in
theorem loud_ac (p : Pt) (m : Int) (hm : 0 ≤ m ∧ m ≤ 4611686018427387904) : AC Tryz.prog 123 [.agg [.i p.1, .i p.2], .i m] (.b (loudB p m)) [] := by
 refine acI hTT hMX Tryz.func123 Tryz.ntmps123 fun C hC hF => ?_
 refine aw_seq_k fun K hK => wR 2 ?_; refine aX hTT 2 [] True.intro ?_; refine aops_nil (xt_n (hK _ ?_)); clear hK K; refine aw_seq_k fun K hK => wR 3 ?_; refine aX hTT 3 [] True.intro ?_
 refine eC (beyond_ac p.1 m hm) ?_
 refine aX hTT 4 [(1, .c (gA (bey (Prod.fst p) m == false) True)), (2, .c (gB (bey (Prod.fst p) m == false) True)), (3, .c (gA (bey (Prod.fst p) m == false) True))] ⟨⟨⟨True.intro, True.intro⟩, (fun _ => True.intro)⟩, ⟨⟨(by (exact fun h => h)), True.intro⟩, (fun _ => True.intro)⟩, ⟨⟨True.intro, True.intro⟩, (fun _ => True.intro)⟩, True.intro⟩ ?_
 refine eG 2 (g := bey (Prod.fst p) m == false) (fun h => beyond_ac p.2 m hm) ?_
 refine aX hTT 2 [(0, .c (True ∧ (bey (Prod.fst p) m = false → (bey (Prod.fst p) m == false) = true)))] ⟨⟨True.intro, (by (intro h; rw [h]; rfl))⟩, True.intro⟩ ?_; refine aops_nil (xt_n (hK _ ?_)); clear hK K
 refine aw_ret ?_
 refine rP (V.b (bey (Prod.fst p) m || bey (Prod.snd p) m))
set_option maxRecDepth 100000 in
theorem checkProgramme1_ac (p : Pt) : AC Tryz.prog 122 [.agg [.i p.1, .i p.2]] (.b (loudB p 32767)) [] := by
 refine acI hTT hMX Tryz.func122 Tryz.ntmps122 fun C hC hF => ?_
 refine aw_seq_k fun K hK => wR 2 ?_; refine aX hTT 2 [] True.intro ?_; refine aops_nil (xt_n (hK _ ?_)); clear hK K; refine aw_seq_k fun K hK => wR 3 ?_; refine aX hTT 1 [] True.intro ?_
 refine eC (loud_ac p 32767 (by decide)) ?_
 refine aX hTT 1 [] True.intro ?_; refine aops_nil (xt_n (hK _ ?_)); clear hK K
 refine aw_ret ?_
 refine rP (V.b (loudB p (32767 : Int)))
def firstP (l : List Pt) (m : Int) : Int := match (List.range l.length).find? fun k => loudB (gp l k) m with
 | some k => (k : Int)
 | none => -1
theorem firstP_some {l : List Pt} {m : Int} {k : Nat} (hk : k < l.length) (h : loudB (gp l k) m = true) (hj : ∀ j, j < k → loudB (gp l j) m = false) : firstP l m = k := by
 have : (List.range l.length).find? (fun k => loudB (gp l k) m) = some k := by
  rw [List.find?_range_eq_some]
  exact ⟨h, by simpa using hk, fun j hjk => by simp [hj j hjk]⟩
 rw [firstP, this]
theorem firstP_none {l : List Pt} {m : Int} (h : ∀ k, k < l.length → loudB (gp l k) m = false) : firstP l m = -1 := by
 have : (List.range l.length).find? (fun k => loudB (gp l k) m) = none := by
  rw [List.find?_eq_none]
  intro x hx
  simp [h x (by simpa using hx)]
 rw [firstP, this]
theorem firstP_any (l : List Pt) (m : Int) : decide (0 ≤ firstP l m) = l.any fun p => loudB p m := by
 by_cases h : ∃ k, k < l.length ∧ loudB (gp l k) m = true
 ·
  obtain ⟨k, ⟨h1, h2⟩, h3⟩ := least _ h
  rw [any_gp.2 ⟨k, h1, h2⟩, firstP_some h1 h2 fun j hj => by
   cases hb : loudB (gp l j) m with
   | false => rfl
   | true => have := h3 j ⟨by omega, hb⟩; omega]
  simp
 ·
  have h2 : ∀ k, k < l.length → loudB (gp l k) m = false := fun k hk => by
   cases hb : loudB (gp l k) m with
   | false => rfl
   | true => exact absurd ⟨k, hk, hb⟩ h
  rw [firstP_none h2, any_gp_no.2 h2]; rfl
set_option maxRecDepth 100000 in
theorem indexLoud_ac (l : List Pt) (hl : l.length ≤ bigL) : AC Tryz.prog 141 [V.pts l, .fn (.func 122) [] []] (.i (firstP l 32767)) [] := by
 unfold bigL at hl
 refine acI hTT hMX Tryz.func141 Tryz.ntmps141 fun C hC hF => ?_
 refine aw_seq_k fun K hK => wR 2 ?_; refine aX hTT 1 [] True.intro ?_; refine aops_nil (xt_n (hK _ ?_)); clear hK K; refine aw_seq_k fun K hK => ?_; refine aw_seq_k fun K hK => wR 3 ?_; refine aX hTT 3 [] True.intro ?_; refine aops_nil (xt_n (hK _ ?_)); clear hK K
 refine aw_block ?_
 refine w_loop (ι := Nat) (fun k => [(0, V.pts l), (1, .fn (.func 122) [] []), (7, .i l.length), (8, .i k)]) (fun _ => []) (fun k => k ≤ l.length ∧ ∀ j, j < k → loudB (gp l j) 32767 = false) (fun k => l.length - k) 0 ⟨Nat.zero_le _, fun j hj => by omega⟩ ?_ ?_
 ·
  refine le_ren [] (.cons (by kernel_rfl) (.cons (by kernel_rfl) (.cons (by kernel_rfl) (.cons (by kernel_rfl) .nil)))) .nil (by kernel_rfl) (by kernel_rfl)
 rintro k ⟨hk, hb⟩
 refine aw_seq_k fun K hK => wR 2 ?_; refine aX hTT 1 [] True.intro ?_; refine aops_nil (xt_n (hK _ ?_)); clear hK K; refine aw_seq_k fun K hK => ?_
 refine w_cond (t := decide ((↑k : Int) < (↑(List.length l) : Int))) (by kernel_rfl) (fun c1 => ?_) (fun c1 => ?_)
 ·
  simp at c1
  refine aw_skip ?_
  refine xt_n (hK _ ?_); clear hK K; refine aw_seq_k fun K hK => ?_
  refine aw_block ?_
  refine aw_seq_k fun K hK => wR 3 ?_; refine aX hTT 2 [] True.intro ?_; refine aops_nil (xt_n (hK _ ?_)); clear hK K; refine aw_seq_k fun K hK => wR 4 ?_; refine aX hTT 5 [(3, .c ((0 : Int) ≤ (↑k : Int) ∧ (↑k : Int) < (↑(List.length l) : Int)))] ⟨(by omega), True.intro⟩ ?_
  refine eC (checkProgramme1_ac (gp l k)) ?_
  refine aops_nil (xt_n (hK _ ?_)); clear hK K
  refine w_cond (t := loudB (gp l k) (32767 : Int)) (by kernel_rfl) (fun c2 => ?_) (fun c2 => ?_)
  ·
   refine aw_seq_k fun K hK => ?_
   refine wR 5 ?_; refine aX hTT 2 [] True.intro ?_; refine aops_nil (xt_n (hK _ ?_)); clear hK K
   refine aw_ret ?_
   refine xb_r ?_
   refine xt_r ?_; refine xt_r ?_
   refine xb_r ?_
   refine xt_r ?_
   rw [firstP_some c1 c2 hb]
   refine rP (V.i (↑k : Int))
  ·
   refine aw_skip ?_
   refine xb_n ?_; refine xt_n (hK _ ?_); clear hK K; refine wR 5 ?_; refine aX hTT 2 [(0, .i ((↑k : Int) + (1 : Int)))] ⟨(by omega), True.intro⟩ ?_; refine aops_nil ?_; refine xt_n ?_
   refine ⟨k + 1, ⟨by omega, fun j hj => ?_⟩, by refine le_ren [] (.cons (by kernel_rfl) (.cons (by kernel_rfl) (.cons (by kernel_rfl) (.cons (by kernel_rfl) .nil)))) .nil (by kernel_rfl) (by kernel_rfl), by omega⟩
   by_cases h : j < k
   ·
    exact hb j h
   ·
    obtain rfl : j = k := by omega
    exact c2
 ·
  simp at c1
  refine aw_exit ?_
  refine xt_x ?_; refine xt_x ?_
  refine xb_same ?_
  refine xt_n ?_; clear hK K; refine hK _ ?_; clear hK K; refine aw_seq_k fun K hK => wR 3 ?_; refine aX hTT 1 [] True.intro ?_; refine aops_nil (xt_n (hK _ ?_)); clear hK K
  refine aw_ret ?_
  rw [firstP_none fun j hj => hb j (by omega)]
  refine rP (V.i (-1))
set_option maxRecDepth 100000 in
theorem containsLoud_ac (l : List Pt) (hl : l.length ≤ bigL) : AC Tryz.prog 121 [V.pts l, .fn (.func 122) [] []] (.b (l.any fun p => loudB p 32767)) [] := by
 refine acI hTT hMX Tryz.func121 Tryz.ntmps121 fun C hC hF => ?_
 refine aw_seq_k fun K hK => wR 2 ?_; refine aX hTT 1 [] True.intro ?_; refine aops_nil (xt_n (hK _ ?_)); clear hK K; refine aw_seq_k fun K hK => wR 3 ?_; refine aX hTT 2 [] True.intro ?_
 refine eC (indexLoud_ac l hl) ?_
 refine aX hTT 2 [] True.intro ?_; refine aops_nil (xt_n (hK _ ?_)); clear hK K
 refine aw_ret ?_
 rw [← firstP_any]
 refine rP (V.b (decide ((0 : Int) ≤ firstP l (32767 : Int))))
set_option maxRecDepth 100000 in
theorem checkProgramme_ac (l : List Pt) (hl : l.length ≤ bigL) : AC Tryz.prog 103 [V.pts l] (.i (progE l)) [] := by
 have hl' := hl
 unfold bigL at hl'
 refine acI hTT hMX Tryz.func103 Tryz.ntmps103 fun C hC hF => ?_
 refine aw_seq_k fun K hK => wR 2 ?_; refine aX hTT 1 [] True.intro ?_; refine aops_nil (xt_n (hK _ ?_)); clear hK K; refine aw_seq_k fun K hK => ?_; refine aw_seq_k fun K hK => wR 3 ?_; refine aX hTT 3 [] True.intro ?_; refine aops_nil (xt_n (hK _ ?_)); clear hK K
 refine w_cond (t := decide ((4096 : Int) < (↑(List.length l) : Int))) (by kernel_rfl) (fun c1 => ?_) (fun c1 => ?_)
 ·
  simp at c1
  refine aw_seq_k fun K hK => wR 4 ?_; refine aX hTT 1 [] True.intro ?_; refine aops_nil (xt_n (hK _ ?_)); clear hK K
  refine aw_ret ?_
  refine xt_r ?_
  rw [show progE l = 6 by unfold progE; rw [if_pos (by omega)]]
  refine rP (V.i 6)
 ·
  simp at c1
  refine aw_skip ?_
  refine xt_n (hK _ ?_); clear hK K; refine aw_seq_k fun K hK => ?_; refine aw_seq_k fun K hK => wR 4 ?_; refine aX hTT 1 [] True.intro ?_
  refine eC (containsLoud_ac l hl) ?_
  refine aops_nil (xt_n (hK _ ?_)); clear hK K
  refine w_cond (t := List.any l fun (p : Pt) => loudB p (32767 : Int)) (by kernel_rfl) (fun c2 => ?_) (fun c2 => ?_)
  ·
   refine aw_seq_k fun K hK => ?_
   refine wR 5 ?_; refine aX hTT 1 [] True.intro ?_; refine aops_nil (xt_n (hK _ ?_)); clear hK K
   refine aw_ret ?_
   refine xt_r ?_
   rw [show progE l = 3 by unfold progE; rw [if_neg (by omega), if_pos c2]]
   refine rP (V.i 3)
  ·
   refine aw_skip ?_
   refine xt_n (hK _ ?_); clear hK K; refine aw_seq_k fun K hK => wR 5 ?_; refine aX hTT 1 [] True.intro ?_; refine aops_nil (xt_n (hK _ ?_)); clear hK K
   refine aw_ret ?_
   rw [show progE l = 0 by unfold progE; rw [if_neg (by omega), if_neg (by rw [c2]; decide)]]
   refine rP (V.i 0)
set_option maxRecDepth 100000 in
theorem need_ac (p : Pt) (c : Int) (h1 : (-32767 ≤ p.1 ∧ p.1 ≤ 32767) ∧ (-32767 ≤ p.2 ∧ p.2 ≤ 32767)) (hc : 1 ≤ c ∧ c ≤ 32767) : AC Tryz.prog 104 [.agg [.i p.1, .i p.2], .i c] (.i (needI p c)) [] := by
 have hb := amtS_bd h1
 have ha : amtS p = max (max (max p.1 (-p.1)) p.2) (-p.2) := rfl
 refine acI hTT hMX Tryz.func104 Tryz.ntmps104 fun C hC hF => ?_
 refine aw_seq_k fun K hK => wR 2 ?_; refine aX hTT 2 [] True.intro ?_; refine aops_nil (xt_n (hK _ ?_)); clear hK K; refine aw_seq_k fun K hK => wR 3 ?_; refine aX hTT 12 [(4, .i (-Prod.fst p)), (9, .i (-Prod.snd p))] ⟨(by omega), (by omega), True.intro⟩ ?_; refine aops_nil (xt_n (hK _ ?_)); clear hK K; refine aw_seq_k fun K hK => ?_; refine aw_seq_k fun K hK => wR 4 ?_; refine aX hTT 2 [] True.intro ?_; refine aops_nil (xt_n (hK _ ?_)); clear hK K
 refine w_cond (t := decide (max (max (max (Prod.fst p) (-Prod.fst p)) (Prod.snd p)) (-Prod.snd p) = (0 : Int))) (by kernel_rfl) (fun c1 => ?_) (fun c1 => ?_)
 ·
  have h0 : amtS p = 0 := by rw [ha]; simp at c1; omega
  refine aw_seq_k fun K hK => wR 5 ?_; refine aX hTT 1 [] True.intro ?_; refine aops_nil (xt_n (hK _ ?_)); clear hK K
  refine aw_ret ?_
  refine xt_r ?_
  rw [show needI p c = 256 by unfold needI; rw [if_pos h0]]
  refine rP (V.i 256)
 ·
  have h0 : ¬ amtS p = 0 := by rw [ha]; simp at c1; omega
  rw [ha] at hb h0
  refine aw_skip ?_
  refine xt_n (hK _ ?_); clear hK K; refine aw_seq_k fun K hK => wR 5 ?_; refine aX hTT 8 [(1, .i (c + (1 : Int))), (2, .i ((256 : Int) * (c + (1 : Int)))), (3, .i ((256 : Int) * (c + (1 : Int)) - (1 : Int))), (5, .c ((0 : Int) < max (max (max (Prod.fst p) (-Prod.fst p)) (Prod.snd p)) (-Prod.snd p) ∧ (-9223372036854775808 : Int) ≤ (256 : Int) * (c + (1 : Int)) - (1 : Int) ∧ (256 : Int) * (c + (1 : Int)) - (1 : Int) ≤ (9223372036854775807 : Int)))] ⟨(by omega), (by omega), (by omega), ⟨(by omega), (by omega)⟩, True.intro⟩ ?_; refine aops_nil (xt_n (hK _ ?_)); clear hK K
  refine aw_ret ?_
  rw [show needI p c = min 256 ((256 * (c + 1) - 1).tdiv (max (max (max p.1 (-p.1)) p.2) (-p.2))) by unfold needI; rw [ha, if_neg h0, Int.tdiv_eq_ediv_of_nonneg (by omega)]]
  refine rP (V.i (min (256 : Int) (Int.tdiv ((256 : Int) * (c + (1 : Int)) - (1 : Int)) (max (max (max (Prod.fst p) (-Prod.fst p)) (Prod.snd p)) (-Prod.snd p)))))
theorem with_bd {n g : Int} (hn : -32767 ≤ n ∧ n ≤ 32767) (hg : 0 ≤ g ∧ g ≤ 256) : (-8388352 ≤ n * g ∧ n * g ≤ 8388352) ∧ -32767 ≤ withI n g ∧ withI n g ≤ 32767 := by
 have h1 := mul_bd (a := n) (m := 32767) (b := g) (n := 256) hn ⟨by omega, hg.2⟩
 refine ⟨by omega, ?_⟩
 have h2 := withI_abs (n := n) hg.1
 have h3 : absI n * g ≤ 32767 * 256 := Int.mul_le_mul (by unfold absI; omega) hg.2 hg.1 (by decide)
 have h4 : absI (withI n g) ≤ 32767 := by rw [h2]; omega
 unfold absI at h4
 omega
end Go.Proofs.YtepkjobndmmejaaGreatDoor
