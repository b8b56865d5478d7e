/-
  Several texts in one: The search of a lathe: the walk of the program. Conditions: told in each theorem. .. The rules of grooves at a point, in plain Lean. Conditions: told in each theorem.
-/
import Derived.Test.YtplnhbenmgclfaaGreatDoorAbs42
import Derived.Test.YtplnhbenmgclfaaGreatDoorX03
import Derived.Test.YtplnhbenmgclfaaGreatDoorX01
namespace Go.Proofs.YtplnhbenmgclfaaGreatDoor
open Go.Ab Go.RowKit Go.Dw Go.Shelf
def chI (s : BS) : Int := match s.ch with
 | none => -1
 | some v => v
def rnd (b : Bl) (l : List Pt) (k : Nat) : BS := BS.rounds (edgesL b l) (rimI b l) k
def mid (b : Bl) (l : List Pt) (k j : Nat) : BS := (rnd b l k).begin.to k (edgesL b l) j
theorem mid_end (b : Bl) (l : List Pt) (k : Nat) : mid b l k (edgesL b l).length = rnd b l (k + 1) := rfl
theorem mid_succ {b : Bl} {l : List Pt} {k j : Nat} {e : BE} (h : (edgesL b l)[j]? = some e) : mid b l k (j + 1) = (mid b l k j).step k e := to_succ h
section
variable {b : Bl} {l : List Pt}
theorem SOk.e1 (h : SOk b l) : EOk l.length (edgesL b l) ∧ ∀ e ∈ edgesL b l, e.f ≠ e.t := edges_ok h.bl.1.1
theorem SOk.w (h : SOk b l) : ∀ e ∈ edgesL b l, -8454144 ≤ e.w ∧ e.w ≤ 8454144 := by
 obtain ⟨⟨q1, q2⟩, ⟨q3, q4⟩, ⟨q5, q6⟩, ⟨q7, q8⟩, ⟨q9, q10⟩, q11, q12⟩ := h.bl
 intro e he
 rcases edgesL_mem.1 he with ⟨i, hi, ⟨h1, rfl⟩ | ⟨h1, rfl⟩⟩ | ⟨i, h1, h2, rfl⟩
 ·
  simp only [slowE]; omega
 ·
  have a := h.pt i hi
  have c := h.pt (i - b.per.toNat) oM
  simp only [landE]; omega
 ·
  simp only [fastE]; omega
theorem SOk.i (h : SOk b l) (v : Nat) (hv : v < l.length) : -8454144 ≤ rimI b l v ∧ rimI b l v ≤ 8454144 := by
 obtain ⟨⟨q1, q2⟩, ⟨q3, q4⟩, ⟨q5, q6⟩, ⟨q7, q8⟩, ⟨q9, q10⟩, q11, q12⟩ := h.bl
 have a := h.pt v hv
 unfold rimI
 omega
theorem SOk.inv (h : SOk b l) (k : Nat) {j : Nat} (hj : j ≤ (edgesL b l).length) : BInv l.length (edgesL b l) (rimI b l) k j (mid b l k j) := binv_at h.e1.1 h.e1.2 k hj
theorem SOk.bd (h : SOk b l) {k j : Nat} (hk : k ≤ 4097) (hj : j ≤ (edgesL b l).length) {v : Nat} (hv : v < l.length) : -1152921504606846976 ≤ (mid b l k j).r v ∧ (mid b l k j).r v ≤ 8454144 := by
 have h1 := low_at (M := 8454144) (i := rimI b l) (by decide) h.e1.1 (fun e he => (h.w e he).1) (fun v hv => (h.i v hv).1) k j hj hv
 have h2 := (h.inv k hj).le v hv
 have h3 := (h.i v hv).2
 have h4 := edgesL_len (b := b) (l := l)
 have h5 := h.len
 have h6 : (k + 1) * (edgesL b l).length ≤ 4098 * 12288 := Nat.mul_le_mul oM oM
 have h7 : 8454144 * ((1 + (k + 1) * (edgesL b l).length : Nat) : Int) ≤ 8454144 * ((1 + 4098 * 12288 : Nat) : Int) := Int.mul_le_mul_of_nonneg_left oM (by decide)
 have e : mid b l k j = (BS.rounds (edgesL b l) (rimI b l) k).begin.to k (edgesL b l) j := rfl
 rw [e] at h2 ⊢
 omega
end
set_option maxRecDepth 100000 in
theorem edges_ac (b : Bl) (l : List Pt) : AC Tryz.prog 92 [.ptr (sdC b l)] (.fn (.func 132) [] [.ptr [.ptr (sdC b l)]]) [] := by
 refine acI hTT hMX Tryz.func92 Tryz.ntmps92 fun C hC hF => ?_
 refine aw_seq_k fun K hK => wR 2 ?_; refine aX hTT 2 [] tI ?_; refine aops_nil (xt_n (hK _ ?_)); clear hK K; refine aw_seq_k fun K hK => wR 3 ?_; refine aX hTT 2 [] tI ?_; refine aops_nil (xt_n (hK _ ?_)); clear hK K
 refine aw_ret ?_
 refine rP (V.fn (Fn.func (132 : Nat)) [] [V.ptr [V.ptr [V.i (Bl.per b), V.i (Bl.rim b), V.i (Bl.core b), V.i (Bl.land b), V.i (Bl.slow b), V.i (Bl.fast b), V.sl 2 (List.length l) fun (k : Nat) => [V.i (Prod.fst (gp l k)), V.i (Prod.snd (gp l k))], V.i (Bl.per b)]]])
def corB (b : Bl) (l : List Pt) (s : BS) (i : Nat) : Prop := 0 ≤ s.r i + ((gp l i).1 - b.core)
def corX (b : Bl) (l : List Pt) (i : Nat) : E5 := ⟨2, i, i, -1, (gp l i).1 - b.core⟩
structure SEnd (b : Bl) (l : List Pt) (K : Nat) (v : V) (obs : List Ob) : Prop where
 k : K ≤ l.length + 1
 go : ∀ k, k < K → (rnd b l (k + 1)).ch ≠ none
 out : ((rnd b l (K + 1)).ch = none ∧ (∀ i, i < l.length → corB b l (rnd b l (K + 1)) i) ∧ v = .agg [.own 0, .nil] ∧ obs = [.row 2 1 l.length fun i => [.i ((rnd b l (K + 1)).r i)]])
  ∨ (∃ i T, (rnd b l (K + 1)).ch = none ∧ i < l.length ∧ (∀ j, j < i → corB b l (rnd b l (K + 1)) j) ∧ ¬ corB b l (rnd b l (K + 1)) i ∧ T ≤ 1099511627775 ∧ (wayX (laE b l (rnd b l (K + 1))) (corX b l i) T).f = -1 ∧ (∀ t, t < T → ∃ u : Nat, (wayX (laE b l (rnd b l (K + 1))) (corX b l i) t).f = u ∧ u < l.length)
    ∧ v = .agg [.nil, .own 0] ∧ obs = [.row 149 2 (T + 1) (fun j => [.i (wayX (laE b l (rnd b l (K + 1))) (corX b l i) (T - j)).r, .i (wayX (laE b l (rnd b l (K + 1))) (corX b l i) (T - j)).a])])
  ∨ (∃ x p, K = l.length + 1 ∧ (rnd b l (K + 1)).ch = some x ∧ (∀ m, (rnd b l (K + 1)).ups x m < l.length ∧ (laE b l (rnd b l (K + 1)) ((rnd b l (K + 1)).ups x m)).f = ((rnd b l (K + 1)).ups x (m + 1) : Nat)) ∧ (0 < p ∧ p ≤ l.length ∧ (rnd b l (K + 1)).ups x (l.length + p) = (rnd b l (K + 1)).ups x l.length ∧ ∀ q, 0 < q → q < p → (rnd b l (K + 1)).ups x (l.length + q) ≠ (rnd b l (K + 1)).ups x l.length)
    ∧ v = .agg [.nil, .own 0] ∧ obs = [.row 149 2 p (fun j => [.i (laE b l (rnd b l (K + 1)) ((rnd b l (K + 1)).ups x (l.length + (p - 1 - j)))).r, .i (laE b l (rnd b l (K + 1)) ((rnd b l (K + 1)).ups x (l.length + (p - 1 - j)))).a])])
theorem chI_none {s : BS} : chI s = -1 ↔ s.ch = none := by
 unfold chI
 cases s.ch with
 | none => simp
 | some v => simp
abbrev radO (n : Nat) (s : BS) : Ob := .row 2 1 n fun v => [.i (s.r v)]
abbrev ini4 (b : Bl) (l : List Pt) (i : Nat) : Ob := .row 2 1 l.length fun v => [.i (if v < i then rimI b l v else 0)]
abbrev ini5 (b : Bl) (l : List Pt) (i : Nat) : Ob := .row 202 5 l.length fun v => [.i (if v < i then 1 else 0), .i (if v < i then (v : Int) else 0), .i (if v < i then -1 else 0), .i (if v < i then (v : Int) else 0), .i (if v < i then rimI b l v else 0)]
abbrev qTL50 : Prop := (0 : Nat) ≤ (1 : Nat)
theorem qTL50_ : qTL50 := oM
abbrev qTL51 : Prop := (3 : Nat) ≤ (5 : Nat)
theorem qTL51_ : qTL51 := oM
abbrev yyTL51 (b : Bl) (l : List Pt) (KE : Nat) : Ob := Ob.row 202 5 (List.length l) fun (v : Nat) => [V.i (E5.r (laE b l (rnd b l (KE + (1 : Nat))) v)), V.i (E5.a (laE b l (rnd b l (KE + (1 : Nat))) v)), V.i (E5.f (laE b l (rnd b l (KE + (1 : Nat))) v)), V.i (E5.t (laE b l (rnd b l (KE + (1 : Nat))) v)), V.i (E5.w (laE b l (rnd b l (KE + (1 : Nat))) v))]
abbrev yyTL50 (b : Bl) (l : List Pt) (KE : Nat) := (15, (yyTL51 b l KE))
abbrev yyTL53 (b : Bl) (l : List Pt) : V := V.ptr [V.i (Bl.per b), V.i (Bl.rim b), V.i (Bl.core b), V.i (Bl.land b), V.i (Bl.slow b), V.i (Bl.fast b), V.sl 2 (List.length l) fun (k : Nat) => [V.i (Prod.fst (gp l k)), V.i (Prod.snd (gp l k))], V.i (Bl.per b)]
abbrev yyTL52 (b : Bl) (l : List Pt) := (0, (yyTL53 b l))
abbrev yyTL54 (l : List Pt) : Ob := Ob.row 202 5 (List.length l) fun (x : Nat) => [V.c (Value.int IntKind.i64 0), V.c (Value.int IntKind.i64 0), V.c (Value.int IntKind.i64 0), V.c (Value.int IntKind.i64 0), V.c (Value.int IntKind.i64 0)]
abbrev yyTL55 (l : List Pt) := ((0 : Int) ≤ (↑(List.length l) : Int) ∧ (↑(List.length l) : Int) ≤ (↑(List.length l) : Int) ∧ (↑(List.length l) : Int) ≤ (1099511627776 : Int))
abbrev yyTL56 (b : Bl) (l : List Pt) (KE : Nat) : Ob := Ob.row 2 1 (List.length l) fun (v : Nat) => [V.i (BS.r (rnd b l (KE + (1 : Nat))) v)]
set_option maxRecDepth 100000 in
theorem search_ac (b : Bl) (l : List Pt) (h : SOk b l) {KE : Nat} {v : V} {obs : List Ob} (hE : SEnd b l KE v obs) : AC Tryz.prog 44 [.ptr (sdC b l)] v obs := by
 have hl := h.len
 refine acI hTT hMX Tryz.func44 Tryz.ntmps44 fun C hC hF => ?_
 refine aw_seq_k fun K hK => wR 2 ?_; refine aX hTT 1 [(0, .r (pn 2 (V.ref 100002 0) (100002 : Nat) (Ob.box 112 [V.nil, V.nil])))] tI ?_; refine aops_nil (xt_n (hK _ ?_)); clear hK K; refine aw_seq_k fun K hK => wR 3 ?_; refine aX hTT 6 [] tI ?_; refine aops_nil (xt_n (hK _ ?_)); clear hK K; refine aw_seq_k fun K hK => wD 4 ?_; refine aX hTT 8 [(1, .r (PR.mk (some (19 : Nat)) (some (yyTL55 l)) (V.own 300019) [((300019 : Nat), some (Ob.row 2 1 (List.length l) fun (x : Nat) => [V.c (Value.int IntKind.i64 0)]))] false)), (3, .r (PR.mk (some (21 : Nat)) (some (yyTL55 l)) (V.own 300021) [((300021 : Nat), some ((yyTL54 l)))] false)), (4, .r (pn 4 (V.ref 300004 0) (300004 : Nat) (Ob.box 38 [V.nil]))), (5, .r (pn 5 (V.ref 300005 0) (300005 : Nat) (Ob.box 200 [V.nil]))), (6, .r (pw ((0 : Nat) + (1 : Nat) ≤ (1 : Nat)) (300004 : Nat) (Ob.box 38 [V.own 300019]))), (7, .r (pw ((0 : Nat) + (1 : Nat) ≤ (1 : Nat)) (300005 : Nat) (Ob.box 200 [V.own 300021])))] ⟨⟨oM, oM⟩, ⟨oM, oM⟩, oM, oM, tI⟩ ?_; refine aops_nil ⟨kR, ?_⟩; refine xt_n (hK _ ?_); clear hK K; refine aw_seq_k fun K hK => ?_; refine aw_seq_k fun K hK => wR 5 ?_; refine aX hTT 2 [] tI ?_; refine aops_nil (xt_n (hK _ ?_)); clear hK K
 refine aw_block ?_
 refine w_loop (ι := Nat) (fun i => [(0, .ptr (sdC b l)), (2, .ref 2 0), (3, .i l.length), (4, .ref 4 0), (5, .ref 5 0), (22, .i l.length), (23, .i i)]) (fun i => [(2, .box 112 [.nil, .nil]), (4, .box 38 [.own 14]), (5, .box 200 [.own 15]), (14, ini4 b l i), (15, ini5 b l i)]) (fun i => i ≤ l.length) (fun i => l.length - i) 0 (Nat.zero_le _) ?_ ?_
 ·
  refine le_ren (sl := [(2, Ob.box 112 [V.nil, V.nil]), (4, Ob.box 38 [V.own 14]), (5, Ob.box 200 [V.own 15]), (14, Ob.row 2 1 (List.length l) fun (v : Nat) => [V.i (if v < (0 : Nat) then rimI b l v else (0 : Int))]), (15, Ob.row 202 5 (List.length l) fun (v : Nat) => [V.i (if v < (0 : Nat) then (1 : Int) else (0 : Int)), V.i (if v < (0 : Nat) then (↑v : Int) else (0 : Int)), V.i (if v < (0 : Nat) then (-1 : Int) else (0 : Int)), V.i (if v < (0 : Nat) then (↑v : Int) else (0 : Int)), V.i (if v < (0 : Nat) then rimI b l v else (0 : Int))])]) [(2, 100002), (4, 300004), (5, 300005), (14, 300019), (15, 300021)] (.cons kR (.cons kR (.cons kR (.cons kR (.cons kR (.cons kR (.cons kR .nil))))))) (.cons ⟨Ob.box 112 [V.nil, V.nil], kR, .box kR⟩ (.cons ⟨Ob.box 38 [V.own 300019], kR, .box kR⟩ (.cons ⟨Ob.box 200 [V.own 300021], kR, .box kR⟩ (.cons ⟨Ob.row 2 1 (List.length l) fun (x : Nat) => [V.c (Value.int IntKind.i64 0)], kR, .row kR (fun _ _ => rfl)⟩ (.cons ⟨(yyTL54 l), kR, .row kR (fun _ _ => rfl)⟩ .nil))))) kR kR
 intro i hi
 refine aw_seq_k fun K hK => wR 2 ?_; refine aX hTT 1 [] tI ?_; refine aops_nil (xt_n (hK _ ?_)); clear hK K; refine aw_seq_k fun K hK => ?_
 refine w_cond (t := decide ((↑i : Int) < (↑(List.length l) : Int))) kR (fun c1 => ?_) (fun c1 => ?_)
 ·
  have h1 : i < l.length := by simpa using c1
  have h2 := h.i i h1
  refine aw_skip ?_
  refine xt_n (hK _ ?_); clear hK K; refine aw_seq_k fun K hK => ?_
  refine aw_block ?_
  refine aw_seq_k fun K hK => wR 3 ?_; refine aX hTT 2 [] tI ?_; refine aops_nil (xt_n (hK _ ?_)); clear hK K; refine aw_seq_k fun K hK => wD 4 ?_; refine aX hTT 4 [(0, .c qTL50)] ⟨qTL50_, tI⟩ ?_
  refine eC (edge1_ac b l h i h1) ?_
  refine aX hTT 5 [(3, .c ((0 : Int) ≤ (↑i : Int) ∧ (↑i : Int) < (↑(List.length l) : Int))), (4, .r (pw (i < List.length l ∧ (0 : Nat) + (5 : Nat) ≤ (5 : Nat)) (15 : Nat) (Ob.row 202 5 (List.length l) fun (j : Nat) => if j = i then [V.i 1, V.i (↑i : Int), V.i (-1), V.i (↑i : Int), V.i (rimI b l i)] else [V.i (if j < i then (1 : Int) else (0 : Int)), V.i (if j < i then (↑j : Int) else (0 : Int)), V.i (if j < i then (-1 : Int) else (0 : Int)), V.i (if j < i then (↑j : Int) else (0 : Int)), V.i (if j < i then rimI b l j else (0 : Int))])))] ⟨oM, oM, tI⟩ ?_; refine aops_nil ⟨kR, ?_⟩; refine xt_n (hK _ ?_); clear hK K
  refine w_le (s' := ⟨mkT [(0, .ptr (sdC b l)), (2, .ref 2 0), (3, .i l.length), (4, .ref 4 0), (5, .ref 5 0), (6, .i i), (22, .i l.length), (23, .i i)], mkS [(2, .box 112 [.nil, .nil]), (4, .box 38 [.own 14]), (5, .box 200 [.own 15]), (14, ini4 b l i), (15, ini5 b l (i + 1))], 1⟩) ?_ ?_
  ·
   refine le_ren (tl := [(yyTL52 b l), (2, V.ref 2 0), (3, V.i (↑(List.length l) : Int)), (4, V.ref 4 0), (5, V.ref 5 0), (6, V.i (↑i : Int)), (22, V.i (↑(List.length l) : Int)), (23, V.i (↑i : Int))]) (sl := [(2, Ob.box 112 [V.nil, V.nil]), (4, Ob.box 38 [V.own 14]), (5, Ob.box 200 [V.own 15]), (14, Ob.row 2 1 (List.length l) fun (v : Nat) => [V.i (if v < i then rimI b l v else (0 : Int))]), (15, Ob.row 202 5 (List.length l) fun (v : Nat) => [V.i (if v < i + (1 : Nat) then (1 : Int) else (0 : Int)), V.i (if v < i + (1 : Nat) then (↑v : Int) else (0 : Int)), V.i (if v < i + (1 : Nat) then (-1 : Int) else (0 : Int)), V.i (if v < i + (1 : Nat) then (↑v : Int) else (0 : Int)), V.i (if v < i + (1 : Nat) then rimI b l v else (0 : Int))])]) [(2, 2), (4, 4), (5, 5), (14, 14), (15, 15)] (.cons kR (.cons kR (.cons kR (.cons kR (.cons kR (.cons kR (.cons kR (.cons kR .nil)))))))) (.cons ⟨Ob.box 112 [V.nil, V.nil], kR, .box kR⟩ (.cons ⟨Ob.box 38 [V.own 14], kR, .box kR⟩ (.cons ⟨Ob.box 200 [V.own 15], kR, .box kR⟩ (.cons ⟨Ob.row 2 1 (List.length l) fun (v : Nat) => [V.i (if v < i then rimI b l v else (0 : Int))], kR, .row kR (fun _ _ => rfl)⟩ (.cons ⟨Ob.row 202 5 (List.length l) fun (j : Nat) => if j = i then [V.i 1, V.i (↑i : Int), V.i (-1), V.i (↑i : Int), V.i (rimI b l i)] else [V.i (if j < i then (1 : Int) else (0 : Int)), V.i (if j < i then (↑j : Int) else (0 : Int)), V.i (if j < i then (-1 : Int) else (0 : Int)), V.i (if j < i then (↑j : Int) else (0 : Int)), V.i (if j < i then rimI b l j else (0 : Int))], kR, .row kR ?_⟩ .nil))))) kR kR
   intro j hj
   show _ = [V.i (if j < i + 1 then 1 else 0), V.i (if j < i + 1 then (j : Int) else 0), V.i (if j < i + 1 then -1 else 0), V.i (if j < i + 1 then (j : Int) else 0), V.i (if j < i + 1 then rimI b l j else 0)]
   by_cases h3 : j = i
   ·
    subst h3
    simp
   ·
    simp only [if_neg h3, show j < i + 1 ↔ j < i by omega]
  refine wD 2 ?_; refine aX hTT 9 [(0, .c qTL50), (2, .c qTL50), (4, .c ((0 : Int) ≤ (↑i : Int) ∧ (↑i : Int) < (↑(List.length l) : Int))), (6, .c (i < List.length l ∧ (4 : Nat) ≤ (5 : Nat))), (7, .c ((0 : Int) ≤ (↑i : Int) ∧ (↑i : Int) < (↑(List.length l) : Int))), (8, .r (pw (i < List.length l ∧ (0 : Nat) + (1 : Nat) ≤ (1 : Nat)) (14 : Nat) (Ob.row 2 1 (List.length l) fun (j : Nat) => if j = i then [V.i (if i < i + (1 : Nat) then rimI b l i else (0 : Int))] else [V.i (if j < i then rimI b l j else (0 : Int))])))] ⟨qTL50_, qTL50_, oM, oM, oM, oM, tI⟩ ?_; refine aops_nil ⟨kR, ?_⟩; refine xb_n ?_; refine xt_n (hK _ ?_); clear hK K; refine wR 3 ?_; refine aX hTT 2 [(0, .i ((↑i : Int) + (1 : Int)))] ⟨oM, tI⟩ ?_; refine aops_nil ?_; refine xt_n ?_
  refine ⟨i + 1, by omega, ?_, by omega⟩
  refine le_ren (tl := [(yyTL52 b l), (2, V.ref 2 0), (3, V.i (↑(List.length l) : Int)), (4, V.ref 4 0), (5, V.ref 5 0), (22, V.i (↑(List.length l) : Int)), (23, V.i (↑(i + (1 : Nat)) : Int))]) (sl := [(2, Ob.box 112 [V.nil, V.nil]), (4, Ob.box 38 [V.own 14]), (5, Ob.box 200 [V.own 15]), (14, Ob.row 2 1 (List.length l) fun (v : Nat) => [V.i (if v < i + (1 : Nat) then rimI b l v else (0 : Int))]), (15, Ob.row 202 5 (List.length l) fun (v : Nat) => [V.i (if v < i + (1 : Nat) then (1 : Int) else (0 : Int)), V.i (if v < i + (1 : Nat) then (↑v : Int) else (0 : Int)), V.i (if v < i + (1 : Nat) then (-1 : Int) else (0 : Int)), V.i (if v < i + (1 : Nat) then (↑v : Int) else (0 : Int)), V.i (if v < i + (1 : Nat) then rimI b l v else (0 : Int))])]) [(2, 2), (4, 4), (5, 5), (14, 14), (15, 15)] (.cons kR (.cons kR (.cons kR (.cons kR (.cons kR (.cons kR (.cons kR .nil))))))) (.cons ⟨Ob.box 112 [V.nil, V.nil], kR, .box kR⟩ (.cons ⟨Ob.box 38 [V.own 14], kR, .box kR⟩ (.cons ⟨Ob.box 200 [V.own 15], kR, .box kR⟩ (.cons ⟨Ob.row 2 1 (List.length l) fun (j : Nat) => if j = i then [V.i (if i < i + (1 : Nat) then rimI b l i else (0 : Int))] else [V.i (if j < i then rimI b l j else (0 : Int))], kR, .row kR ?_⟩ (.cons ⟨Ob.row 202 5 (List.length l) fun (v : Nat) => [V.i (if v < i + (1 : Nat) then (1 : Int) else (0 : Int)), V.i (if v < i + (1 : Nat) then (↑v : Int) else (0 : Int)), V.i (if v < i + (1 : Nat) then (-1 : Int) else (0 : Int)), V.i (if v < i + (1 : Nat) then (↑v : Int) else (0 : Int)), V.i (if v < i + (1 : Nat) then rimI b l v else (0 : Int))], kR, .row kR (fun _ _ => rfl)⟩ .nil))))) kR kR
  intro j hj
  show _ = [V.i (if j < i + 1 then rimI b l j else 0)]
  by_cases h3 : j = i
  ·
   subst h3
   simp
  ·
   simp only [if_neg h3, show j < i + 1 ↔ j < i by omega]
 ·
  have h1 : i = l.length := by simp at c1; omega
  refine aw_exit ?_
  refine xt_x ?_; refine xt_x ?_
  refine xb_same ?_
  refine xt_n ?_; clear hK K; refine hK _ ?_; clear hK K; refine aw_seq_k fun K hK => ?_; refine aw_seq_k fun K hK => wR 3 ?_; refine aX hTT 1 [] tI ?_; refine aops_nil (xt_n (hK _ ?_)); clear hK K
  refine aw_block ?_
  refine w_loop (ι := Nat) (fun k => [(0, .ptr (sdC b l)), (2, .ref 2 0), (3, .i l.length), (4, .ref 4 0), (5, .ref 5 0), (7, .i k)]) (fun k => [(2, .box 112 [.nil, .nil]), (4, .box 38 [.own 14]), (5, .box 200 [.own 15]), (14, radO l.length (rnd b l k)), (15, lasO l.length (laE b l (rnd b l k)))]) (fun k => k ≤ KE) (fun k => KE - k) 0 (Nat.zero_le _) ?_ ?_
  ·
   refine le_ren (tl := [(yyTL52 b l), (2, V.ref 2 0), (3, V.i (↑(List.length l) : Int)), (4, V.ref 4 0), (5, V.ref 5 0), (7, V.i 0)]) (sl := [(2, Ob.box 112 [V.nil, V.nil]), (4, Ob.box 38 [V.own 14]), (5, Ob.box 200 [V.own 15]), (14, Ob.row 2 1 (List.length l) fun (v : Nat) => [V.i (BS.r (rnd b l (0 : Nat)) v)]), (15, Ob.row 202 5 (List.length l) fun (v : Nat) => [V.i (E5.r (laE b l (rnd b l (0 : Nat)) v)), V.i (E5.a (laE b l (rnd b l (0 : Nat)) v)), V.i (E5.f (laE b l (rnd b l (0 : Nat)) v)), V.i (E5.t (laE b l (rnd b l (0 : Nat)) v)), V.i (E5.w (laE b l (rnd b l (0 : Nat)) v))])]) [(2, 2), (4, 4), (5, 5), (14, 14), (15, 15)] (.cons kR (.cons kR (.cons kR (.cons kR (.cons kR (.cons kR .nil)))))) (.cons ⟨Ob.box 112 [V.nil, V.nil], kR, .box kR⟩ (.cons ⟨Ob.box 38 [V.own 14], kR, .box kR⟩ (.cons ⟨Ob.box 200 [V.own 15], kR, .box kR⟩ (.cons ⟨Ob.row 2 1 (List.length l) fun (v : Nat) => [V.i (if v < i then rimI b l v else (0 : Int))], kR, .row kR ?_⟩ (.cons ⟨Ob.row 202 5 (List.length l) fun (v : Nat) => [V.i (if v < i then (1 : Int) else (0 : Int)), V.i (if v < i then (↑v : Int) else (0 : Int)), V.i (if v < i then (-1 : Int) else (0 : Int)), V.i (if v < i then (↑v : Int) else (0 : Int)), V.i (if v < i then rimI b l v else (0 : Int))], kR, .row kR ?_⟩ .nil))))) kR kR
   ·
    intro j hj
    have e : j < i := by omega
    simp only [e, if_true]
    rfl
   ·
    intro j hj
    have e : j < i := by omega
    simp only [e, if_true]
    rfl
  intro k hk
  have hk2 := hE.k
  have hes := h.e1.1
  refine aw_seq_k fun K hK => ?_
  refine aw_block ?_
  refine aw_scope ?_
  refine aw_seq_k fun K hK => wR 2 ?_; refine aX hTT 2 [(0, .r (pn 8 (V.ref 100008 0) (100008 : Nat) (Ob.box 3 [V.i 0]))), (1, .r (pw ((0 : Nat) + (1 : Nat) ≤ (1 : Nat)) (100008 : Nat) (Ob.box 3 [V.i (-1)])))] ⟨oM, tI⟩ ?_; refine aops_nil (xt_n (hK _ ?_)); clear hK K; refine aw_seq_k fun K hK => ?_
  refine aw_label ?_
  refine xt_n (hK _ ?_); clear hK K; refine aw_seq_k fun K hK => ?_; refine aw_seq_k fun K hK => wR 3 ?_; refine aX hTT 1 [] tI ?_
  refine eC (edges_ac b l) ?_
  refine aops_nil (xt_n (hK _ ?_)); clear hK K
  refine aw_block ?_
  refine w_rangeI (caps := [V.ptr [(yyTL53 b l)]]) hF hC ((edges_it b l h)) kR kR ?_ kR [500, 501, 502, 503, 504, 505] [(505, 2), (500, 4), (501, 5), (504, 100008), (502, 14), (503, 15)] [(0, .ptr (sdC b l)), (2, .ref 505 0), (3, .i l.length), (4, .ref 500 0), (5, .ref 501 0), (7, .i k), (8, .ref 504 0)] (fun _ => True) (fun j => [.box 38 [.own 502], .box 200 [.own 503], radO l.length (mid b l k j), lasO l.length (laE b l (mid b l k j)), .box 3 [.i (chI (mid b l k j))], .box 112 [.nil, .nil]]) (fun _ _ _ => False) ?_ kR kR kR (.cons kR (.cons kR (.cons kR (.cons kR (.cons kR (.cons kR (.cons kR .nil))))))) (.cons ⟨Ob.box 38 [V.own 14], kR, .box kR⟩ (.cons ⟨Ob.box 200 [V.own 15], kR, .box kR⟩ (.cons ⟨Ob.row 2 1 (List.length l) fun (v : Nat) => [V.i (BS.r (rnd b l k) v)], kR, .row kR (fun _ _ => rfl)⟩ (.cons ⟨Ob.row 202 5 (List.length l) fun (v : Nat) => [V.i (E5.r (laE b l (rnd b l k) v)), V.i (E5.a (laE b l (rnd b l k) v)), V.i (E5.f (laE b l (rnd b l k) v)), V.i (E5.t (laE b l (rnd b l k) v)), V.i (E5.w (laE b l (rnd b l k) v))], kR, .row kR (fun _ _ => rfl)⟩ (.cons ⟨Ob.box 3 [V.i (-1)], kR, .box kR⟩ (.cons ⟨Ob.box 112 [V.nil, V.nil], kR, .box kR⟩ .nil)))))) kR ?_ ?_ ?_ ?_ ?_
  ·
   intro x hx
   simp only [edgesV, List.mem_map] at hx
   obtain ⟨j, _, rfl⟩ := hx
   rfl
  ·
   trivial
  ·
   intro j o ho
   simp at ho
   rcases ho with rfl | rfl | rfl | rfl | rfl | rfl <;> first | rfl | exact fun _ _ => rfl
  ·
   intro k e sx hf
   exact hf.elim
  ·
   rintro C' ⟨lx, hF'⟩ j x hx _
   obtain ⟨e, he, rfl⟩ : ∃ e, (edgesL b l)[j]? = some e ∧ x = edV e := by
    simp only [edgesV, List.getElem?_map, Option.map_eq_some_iff] at hx
    obtain ⟨e, he, rfl⟩ := hx
    exact ⟨e, he, rfl⟩
   have hj : j < (edgesL b l).length := (List.getElem?_eq_some_iff.1 he).1
   have hm := List.mem_of_getElem? he
   obtain ⟨hf, ht⟩ := hes e hm
   have hw := h.w e hm
   have b1 := h.bd (k := k) (j := j) oM oM hf
   have b2 := h.bd (k := k) (j := j) oM oM ht
   have hs := mid_succ (k := k) he
   refine wR 2 ?_; refine aX hTT 2 [(0, .r (pn 9 (V.ref 100009 0) (100009 : Nat) (Ob.box 202 [V.i 0, V.i 0, V.i 0, V.i 0, V.i 0]))), (1, .r (pw ((0 : Nat) + (5 : Nat) ≤ (5 : Nat)) (100009 : Nat) (Ob.box 202 [V.i (BE.rule e), V.i (BE.at' e), V.i (↑(BE.f e) : Int), V.i (↑(BE.t e) : Int), V.i (BE.w e)])))] ⟨oM, tI⟩ ?_; refine aops_nil ?_; refine xt_n ?_
   refine aw_block ?_
   refine aw_seq_k fun K hK => ?_; refine aw_seq_k fun K hK => wD 3 ?_; refine aX hTT 14 [(0, .c qTL50), (2, .c ((2 : Nat) ≤ (5 : Nat))), (3, .c ((0 : Int) ≤ (↑(BE.f e) : Int) ∧ (↑(BE.f e) : Int) < (↑(List.length l) : Int))), (4, .c (BE.f e < List.length l ∧ (0 : Nat) ≤ (1 : Nat))), (6, .c ((4 : Nat) ≤ (5 : Nat))), (7, .i (BS.r (mid b l k j) (BE.f e) + BE.w e)), (8, .c qTL50), (10, .c qTL51), (11, .c ((0 : Int) ≤ (↑(BE.t e) : Int) ∧ (↑(BE.t e) : Int) < (↑(List.length l) : Int))), (12, .c (BE.t e < List.length l ∧ (0 : Nat) ≤ (1 : Nat)))] ⟨qTL50_, oM, oM, oM, oM, oM, qTL50_, qTL51_, oM, oM, tI⟩ ?_; refine aops_nil ⟨kR, ?_⟩; refine xt_n (hK _ ?_); clear hK K
   refine w_cond (t := decide (BS.r (mid b l k j) (BE.t e) ≤ BS.r (mid b l k j) (BE.f e) + BE.w e)) kR (fun c2 => ?_) (fun c2 => ?_)
   ·
    have c3 : ¬ (mid b l k j).r e.f + e.w < (mid b l k j).r e.t := by simp at c2; omega
    have hs2 : mid b l k (j + 1) = mid b l k j := by rw [hs, BS.step, if_neg c3]
    refine aw_exit ?_
    refine xt_x ?_
    refine xb_same ?_
    refine ⟨trivial, ?_⟩
    refine le_ren (sl := [(500, Ob.box 38 [V.own 502]), (501, Ob.box 200 [V.own 503]), (502, Ob.row 2 1 (List.length l) fun (v : Nat) => [V.i (BS.r (mid b l k (j + (1 : Nat))) v)]), (503, Ob.row 202 5 (List.length l) fun (v : Nat) => [V.i (E5.r (laE b l (mid b l k (j + (1 : Nat))) v)), V.i (E5.a (laE b l (mid b l k (j + (1 : Nat))) v)), V.i (E5.f (laE b l (mid b l k (j + (1 : Nat))) v)), V.i (E5.t (laE b l (mid b l k (j + (1 : Nat))) v)), V.i (E5.w (laE b l (mid b l k (j + (1 : Nat))) v))]), (504, Ob.box 3 [V.i (chI (mid b l k (j + (1 : Nat))))]), (505, Ob.box 112 [V.nil, V.nil])]) [] .nil (.cons ⟨Ob.box 38 [V.own 502], kR, .box kR⟩ (.cons ⟨Ob.box 200 [V.own 503], kR, .box kR⟩ (.cons ⟨Ob.row 2 1 (List.length l) fun (v : Nat) => [V.i (BS.r (mid b l k j) v)], kR, .row kR ?_⟩ (.cons ⟨Ob.row 202 5 (List.length l) fun (v : Nat) => [V.i (E5.r (laE b l (mid b l k j) v)), V.i (E5.a (laE b l (mid b l k j) v)), V.i (E5.f (laE b l (mid b l k j) v)), V.i (E5.t (laE b l (mid b l k j) v)), V.i (E5.w (laE b l (mid b l k j) v))], kR, .row kR ?_⟩ (.cons ⟨Ob.box 3 [V.i (chI (mid b l k j))], kR, .box ?_⟩ (.cons ⟨Ob.box 112 [V.nil, V.nil], kR, .box kR⟩ .nil)))))) kR kR
    ·
     intro v hv
     show _ = [V.i ((mid b l k (j + 1)).r v)]
     rw [hs2]
    ·
     intro v hv
     show _ = [V.i (laE b l (mid b l k (j + 1)) v).r, V.i (laE b l (mid b l k (j + 1)) v).a, V.i (laE b l (mid b l k (j + 1)) v).f, V.i (laE b l (mid b l k (j + 1)) v).t, V.i (laE b l (mid b l k (j + 1)) v).w]
     rw [hs2]
    ·
     show _ = [V.i (chI (mid b l k (j + 1)))]
     rw [hs2]
   ·
    have c3 : (mid b l k j).r e.f + e.w < (mid b l k j).r e.t := by simp at c2; omega
    have hr : ∀ v, (mid b l k (j + 1)).r v = if v = e.t then (mid b l k j).r e.f + e.w else (mid b l k j).r v := fun v => by
     rw [hs, BS.step, if_pos c3]
     by_cases h3 : v = e.t
     ·
      rw [if_pos h3, h3]; simp only [upd_same]
     ·
      rw [if_neg h3]; simp only [upd_ne _ _ h3]
    have hla : ∀ v, laE b l (mid b l k (j + 1)) v = if v = e.t then E5.of e else laE b l (mid b l k j) v := fun v => by
     rw [hs, BS.step, if_pos c3]
     by_cases h3 : v = e.t
     ·
      rw [if_pos h3, h3]; simp only [laE, upd_same]
     ·
      rw [if_neg h3]; simp only [laE, upd_ne _ _ h3]
    have hch : chI (mid b l k (j + 1)) = e.t := by rw [hs, BS.step, if_pos c3]; rfl
    refine aw_skip ?_
    refine xt_n (hK _ ?_); clear hK K; refine wD 4 ?_; refine aX hTT 22 [(0, .c qTL50), (2, .c qTL51), (3, .c qTL50), (5, .c qTL51), (6, .c qTL50), (8, .c ((2 : Nat) ≤ (5 : Nat))), (9, .c ((0 : Int) ≤ (↑(BE.f e) : Int) ∧ (↑(BE.f e) : Int) < (↑(List.length l) : Int))), (10, .c (BE.f e < List.length l ∧ (0 : Nat) ≤ (1 : Nat))), (12, .c ((4 : Nat) ≤ (5 : Nat))), (13, .i (BS.r (mid b l k j) (BE.f e) + BE.w e)), (14, .c ((0 : Nat) ≤ (5 : Nat))), (16, .c qTL51), (17, .c ((0 : Int) ≤ (↑(BE.t e) : Int) ∧ (↑(BE.t e) : Int) < (↑(List.length l) : Int))), (18, .r (pw (BE.t e < List.length l ∧ (0 : Nat) + (1 : Nat) ≤ (1 : Nat)) (502 : Nat) (Ob.row 2 1 (List.length l) fun (j_1 : Nat) => if j_1 = BE.t e then [V.i (BS.r (mid b l k j) (BE.f e) + BE.w e)] else [V.i (BS.r (mid b l k j) j_1)]))), (19, .c ((0 : Int) ≤ (↑(BE.t e) : Int) ∧ (↑(BE.t e) : Int) < (↑(List.length l) : Int))), (20, .r (pw (BE.t e < List.length l ∧ (0 : Nat) + (5 : Nat) ≤ (5 : Nat)) (503 : Nat) (Ob.row 202 5 (List.length l) fun (j_1 : Nat) => if j_1 = BE.t e then [V.i (BE.rule e), V.i (BE.at' e), V.i (↑(BE.f e) : Int), V.i (↑(BE.t e) : Int), V.i (BE.w e)] else [V.i (E5.r (laE b l (mid b l k j) j_1)), V.i (E5.a (laE b l (mid b l k j) j_1)), V.i (E5.f (laE b l (mid b l k j) j_1)), V.i (E5.t (laE b l (mid b l k j) j_1)), V.i (E5.w (laE b l (mid b l k j) j_1))]))), (21, .r (pw ((0 : Nat) + (1 : Nat) ≤ (1 : Nat)) (504 : Nat) (Ob.box 3 [V.i (↑(BE.t e) : Int)])))] ⟨qTL50_, qTL51_, qTL50_, qTL51_, qTL50_, oM, oM, oM, oM, oM, oM, qTL51_, oM, oM, oM, oM, oM, tI⟩ ?_; refine aops_nil ⟨kR, ?_⟩; refine xb_n ?_
    refine ⟨trivial, ?_⟩
    refine le_ren (sl := [(500, Ob.box 38 [V.own 502]), (501, Ob.box 200 [V.own 503]), (502, Ob.row 2 1 (List.length l) fun (v : Nat) => [V.i (BS.r (mid b l k (j + (1 : Nat))) v)]), (503, Ob.row 202 5 (List.length l) fun (v : Nat) => [V.i (E5.r (laE b l (mid b l k (j + (1 : Nat))) v)), V.i (E5.a (laE b l (mid b l k (j + (1 : Nat))) v)), V.i (E5.f (laE b l (mid b l k (j + (1 : Nat))) v)), V.i (E5.t (laE b l (mid b l k (j + (1 : Nat))) v)), V.i (E5.w (laE b l (mid b l k (j + (1 : Nat))) v))]), (504, Ob.box 3 [V.i (chI (mid b l k (j + (1 : Nat))))]), (505, Ob.box 112 [V.nil, V.nil])]) [] .nil (.cons ⟨Ob.box 38 [V.own 502], kR, .box kR⟩ (.cons ⟨Ob.box 200 [V.own 503], kR, .box kR⟩ (.cons ⟨Ob.row 2 1 (List.length l) fun (j_1 : Nat) => if j_1 = BE.t e then [V.i (BS.r (mid b l k j) (BE.f e) + BE.w e)] else [V.i (BS.r (mid b l k j) j_1)], kR, .row kR ?_⟩ (.cons ⟨Ob.row 202 5 (List.length l) fun (j_1 : Nat) => if j_1 = BE.t e then [V.i (BE.rule e), V.i (BE.at' e), V.i (↑(BE.f e) : Int), V.i (↑(BE.t e) : Int), V.i (BE.w e)] else [V.i (E5.r (laE b l (mid b l k j) j_1)), V.i (E5.a (laE b l (mid b l k j) j_1)), V.i (E5.f (laE b l (mid b l k j) j_1)), V.i (E5.t (laE b l (mid b l k j) j_1)), V.i (E5.w (laE b l (mid b l k j) j_1))], kR, .row kR ?_⟩ (.cons ⟨Ob.box 3 [V.i (↑(BE.t e) : Int)], kR, .box ?_⟩ (.cons ⟨Ob.box 112 [V.nil, V.nil], kR, .box kR⟩ .nil)))))) kR kR
    ·
     intro v hv
     show _ = [V.i ((mid b l k (j + 1)).r v)]
     rw [hr]
     by_cases h3 : v = e.t
     ·
      rw [if_pos h3, if_pos h3]
     ·
      rw [if_neg h3, if_neg h3]
    ·
     intro v hv
     show _ = [V.i (laE b l (mid b l k (j + 1)) v).r, V.i (laE b l (mid b l k (j + 1)) v).a, V.i (laE b l (mid b l k (j + 1)) v).f, V.i (laE b l (mid b l k (j + 1)) v).t, V.i (laE b l (mid b l k (j + 1)) v).w]
     rw [hla]
     by_cases h3 : v = e.t
     ·
      rw [if_pos h3, if_pos h3]
      rfl
     ·
      rw [if_neg h3, if_neg h3]
    ·
     show _ = [V.i (chI (mid b l k (j + 1)))]
     rw [hch]
  ·
   intro _
   rw [show (edgesV b l).length = (edgesL b l).length by simp [edgesV], mid_end]
   refine xb_n ?_; refine xt_n (hK _ ?_); clear hK K; refine aw_seq_k fun K hK => ?_; refine aw_seq_k fun K hK => wR 2 ?_; refine aX hTT 2 [(0, .c qTL50)] ⟨qTL50_, tI⟩ ?_; refine aops_nil (xt_n (hK _ ?_)); clear hK K
   refine w_cond (t := decide (chI (rnd b l (k + (1 : Nat))) = (-1 : Int))) kR (fun c3 => ?_) (fun c3 => ?_)
   ·
    have hno : (rnd b l (k + 1)).ch = none := chI_none.1 (by simpa using c3)
    have hkE : k = KE := Classical.byContradiction fun hc => hE.go k oM hno
    rw [hkE] at hno ⊢
    have hout := hE.out
    refine aw_exit ?_
    refine xt_x ?_
    refine xs_x ?_
    refine xb_ne rfl ?_
    refine xt_x ?_; refine xt_x ?_
    refine xb_same ?_
    refine xt_n ?_; clear hK K; clear hK K; refine hK _ ?_; clear hK K; refine aw_seq_k fun K hK => ?_; refine aw_seq_k fun K hK => wR 3 ?_; refine aX hTT 2 [] tI ?_; refine aops_nil (xt_n (hK _ ?_)); clear hK K
    refine aw_block ?_
    refine w_loop (ι := Nat) (fun i => [(0, .ptr (sdC b l)), (2, .ref 2 0), (4, .ref 4 0), (5, .ref 5 0), (91, .i l.length), (92, .i i)]) (fun i => [(2, .box 112 [.nil, .nil]), (4, .box 38 [.own 14]), (5, .box 200 [.own 15]), (14, radO l.length (rnd b l (KE + 1))), (15, lasO l.length (laE b l (rnd b l (KE + 1))))]) (fun i => i ≤ l.length ∧ ∀ j, j < i → corB b l (rnd b l (KE + 1)) j) (fun i => l.length - i) 0 ⟨Nat.zero_le _, fun j hj => by omega⟩ ?_ ?_
    ·
     refine le_ren (sl := [(2, Ob.box 112 [V.nil, V.nil]), (4, Ob.box 38 [V.own 14]), (5, Ob.box 200 [V.own 15]), (14, (yyTL56 b l KE)), (yyTL50 b l KE)]) [(2, 505), (4, 500), (5, 501), (14, 502), (15, 503)] (.cons kR (.cons kR (.cons kR (.cons kR (.cons kR (.cons kR .nil)))))) (.cons ⟨Ob.box 112 [V.nil, V.nil], kR, .box kR⟩ (.cons ⟨Ob.box 38 [V.own 502], kR, .box kR⟩ (.cons ⟨Ob.box 200 [V.own 503], kR, .box kR⟩ (.cons ⟨(yyTL56 b l KE), kR, .row kR (fun _ _ => rfl)⟩ (.cons ⟨(yyTL51 b l KE), kR, .row kR (fun _ _ => rfl)⟩ .nil))))) kR kR
    rintro m ⟨hm, hcor⟩
    refine aw_seq_k fun K hK => wR 2 ?_; refine aX hTT 1 [] tI ?_; refine aops_nil (xt_n (hK _ ?_)); clear hK K; refine aw_seq_k fun K hK => ?_
    refine w_cond (t := decide ((↑m : Int) < (↑(List.length l) : Int))) kR (fun c5 => ?_) (fun c5 => ?_)
    ·
     have hm1 : m < l.length := by simpa using c5
     obtain ⟨⟨p1, p2⟩, p3, p4⟩ := h.pt m hm1
     obtain ⟨q1, q2, ⟨q3, q4⟩, q5⟩ := h.bl
     have b1 := h.bd (k := KE) (j := (edgesL b l).length) oM (Nat.le_refl _) hm1
     rw [mid_end] at b1
     refine aw_skip ?_
     refine xt_n (hK _ ?_); clear hK K; refine aw_seq_k fun K hK => ?_
     refine aw_block ?_
     refine aw_seq_k fun K hK => wR 3 ?_; refine aX hTT 2 [] tI ?_; refine aops_nil (xt_n (hK _ ?_)); clear hK K; refine aw_seq_k fun K hK => wR 4 ?_; refine aX hTT 2 [] tI ?_
     refine eC (edge2_ac b l h m hm1) ?_
     refine aX hTT 6 [(3, .r (pn 11 (V.ref 300011 0) (300011 : Nat) (Ob.box 202 [V.i 0, V.i 0, V.i 0, V.i 0, V.i 0]))), (4, .r (pw ((0 : Nat) + (5 : Nat) ≤ (5 : Nat)) (300011 : Nat) (Ob.box 202 [V.i 2, V.i (↑m : Int), V.i (↑m : Int), V.i (-1), V.i (Prod.fst (gp l m) - Bl.core b)])))] ⟨oM, tI⟩ ?_; refine aops_nil (xt_n (hK _ ?_)); clear hK K; refine aw_seq_k fun K hK => wD 5 ?_; refine aX hTT 8 [(0, .c qTL50), (2, .c ((0 : Int) ≤ (↑m : Int) ∧ (↑m : Int) < (↑(List.length l) : Int))), (3, .c (m < List.length l ∧ (0 : Nat) ≤ (1 : Nat))), (5, .c ((4 : Nat) ≤ (5 : Nat))), (6, .i (BS.r (rnd b l (KE + (1 : Nat))) m + (Prod.fst (gp l m) - Bl.core b)))] ⟨qTL50_, oM, oM, oM, oM, tI⟩ ?_; refine aops_nil ⟨kR, ?_⟩; refine xt_n (hK _ ?_); clear hK K
     refine w_cond (t := decide (BS.r (rnd b l (KE + (1 : Nat))) m + (Prod.fst (gp l m) - Bl.core b) < (0 : Int))) kR (fun c6 => ?_) (fun c6 => ?_)
     ·
      have hbad : ¬ corB b l (rnd b l (KE + 1)) m := by simp at c6; unfold corB; omega
      rcases hout with ⟨_, q, _⟩ | ⟨i0, T, _, u1, u2, u3, u4, u5, u6, rfl, rfl⟩ | ⟨_, _, _, q, _⟩
      ·
       exact absurd (q m hm1) hbad
      ·
       have hmi : m = i0 := by
        rcases Nat.lt_trichotomy m i0 with hc | hc | hc
        ·
         exact absurd (u2 m hc) hbad
        ·
         exact hc
        ·
         exact absurd (hcor i0 hc) u3
       rw [hmi]
       refine aw_seq_k fun K hK => wR 6 ?_; refine aX hTT 2 [(0, .c qTL50), (1, .c ((0 : Nat) ≤ (5 : Nat)))] ⟨qTL50_, oM, tI⟩ ?_
       refine aops_callM [15] (first := []) (caps := []) (ins' := [(yyTL51 b l KE)]) (v' := V.own 500111) (δ := [(15, Option.none), (500111, Option.some (Ob.row 149 2 (T + (1 : Nat)) fun (i : Nat) => V.renL (nameG (5 : Nat) (some 111) [(15 : Nat)]) [V.i (E5.r (wayX (laE b l (rnd b l (KE + (1 : Nat)))) (corX b l i0) (T - i))), V.i (E5.a (wayX (laE b l (rnd b l (KE + (1 : Nat)))) (corX b l i0) (T - i)))]))]) (kp := [15]) (way_am l.length (laE b l (rnd b l (KE + 1))) (corX b l i0) T u5 u6 hl u4) kR kR kR kR kR kR rfl rfl kR (.row kR (fun _ _ => rfl) (fun _ _ => rfl) .nil) kR kR kR ?_
       refine aX hTT 2 [(1, .r (pw ((0 : Nat) + (2 : Nat) ≤ (2 : Nat)) (2 : Nat) (Ob.box 112 [V.nil, V.own 500111])))] ⟨oM, tI⟩ ?_; refine aops_nil (xt_n (hK _ ?_)); clear hK K
       refine aw_ret ?_
       refine xb_r ?_
       refine xt_r ?_; refine xt_r ?_
       refine xb_r ?_
       refine xt_r ?_
       refine ret_of_M ?_
       refine retMx (v' := V.agg [V.nil, V.own 0]) [(0, 500111), (100, 2)] [(2, V.ref 100 0)] [(100, Ob.box 112 [V.nil, V.own 0])] (.inr rfl) (.cons kR .nil) (.cons ⟨Ob.row 149 2 (T + (1 : Nat)) fun (i : Nat) => V.renL (nameG (5 : Nat) (some (111 : Tmp)) [(15 : Nat)]) [V.i (E5.r (wayX (laE b l (rnd b l (KE + (1 : Nat)))) (corX b l i0) (T - i))), V.i (E5.a (wayX (laE b l (rnd b l (KE + (1 : Nat)))) (corX b l i0) (T - i)))], kR, .row kR (fun _ _ => rfl)⟩ (.cons ⟨Ob.box 112 [V.nil, V.own 500111], kR, .box kR⟩ .nil)) kR kR kR kR kR kR kR
      ·
       rw [hno] at q; cases q
     ·
      have hgood : corB b l (rnd b l (KE + 1)) m := by simp at c6; unfold corB; omega
      refine aw_skip ?_
      refine xb_n ?_; refine xt_n (hK _ ?_); clear hK K; refine wR 6 ?_; refine aX hTT 2 [(0, .i ((↑m : Int) + (1 : Int)))] ⟨oM, tI⟩ ?_; refine aops_nil ?_; refine xt_n ?_
      refine ⟨m + 1, ⟨by omega, fun j hj => ?_⟩, ?_, by omega⟩
      ·
       by_cases hc : j = m
       ·
        rw [hc]; exact hgood
       ·
        exact hcor j oM
      refine le_ren (sl := [(2, Ob.box 112 [V.nil, V.nil]), (4, Ob.box 38 [V.own 14]), (5, Ob.box 200 [V.own 15]), (14, (yyTL56 b l KE)), (yyTL50 b l KE)]) [(2, 2), (4, 4), (5, 5), (14, 14), (15, 15)] (.cons kR (.cons kR (.cons kR (.cons kR (.cons kR (.cons kR .nil)))))) (.cons ⟨Ob.box 112 [V.nil, V.nil], kR, .box kR⟩ (.cons ⟨Ob.box 38 [V.own 14], kR, .box kR⟩ (.cons ⟨Ob.box 200 [V.own 15], kR, .box kR⟩ (.cons ⟨(yyTL56 b l KE), kR, .row kR (fun _ _ => rfl)⟩ (.cons ⟨(yyTL51 b l KE), kR, .row kR (fun _ _ => rfl)⟩ .nil))))) kR kR
    ·
     have hm1 : m = l.length := by simp at c5; omega
     rcases hout with ⟨_, _, rfl, rfl⟩ | ⟨i0, T, _, u1, u2, u3, _⟩ | ⟨_, _, _, q, _⟩
     ·
      refine aw_exit ?_
      refine xt_x ?_; refine xt_x ?_
      refine xb_same ?_
      refine xt_n ?_; clear hK K; refine hK _ ?_; clear hK K; refine aw_seq_k fun K hK => wR 3 ?_; refine aX hTT 3 [(0, .c qTL50), (2, .r (pw ((0 : Nat) + (2 : Nat) ≤ (2 : Nat)) (2 : Nat) (Ob.box 112 [V.own 14, V.nil])))] ⟨qTL50_, oM, tI⟩ ?_; refine aops_nil (xt_n (hK _ ?_)); clear hK K
      refine aw_ret ?_
      refine ret_of_M ?_
      refine retMx (v' := V.agg [V.own 0, V.nil]) [(0, 14), (100, 2)] [(2, V.ref 100 0)] [(100, Ob.box 112 [V.own 0, V.nil])] (.inr rfl) (.cons kR .nil) (.cons ⟨(yyTL56 b l KE), kR, .row kR (fun _ _ => rfl)⟩ (.cons ⟨Ob.box 112 [V.own 14, V.nil], kR, .box kR⟩ .nil)) kR kR kR kR kR kR kR
     ·
      exact absurd (hcor i0 oM) u3
     ·
      rw [hno] at q; cases q
   ·
    have hno : (rnd b l (k + 1)).ch ≠ none := fun hc => by
     rw [chI_none.2 hc] at c3
     simp at c3
    have hcase : k = KE ∧ KE = l.length + 1 ∨ k < KE := by
     by_cases hc : k = KE
     ·
      subst hc
      rcases hE.out with ⟨q, _⟩ | ⟨_, _, q, _⟩ | ⟨_, _, q, _⟩
      ·
       exact absurd q hno
      ·
       exact absurd q hno
      ·
       exact .inl ⟨rfl, q⟩
     ·
      exact .inr oM
    refine aw_skip ?_
    refine xt_n (hK _ ?_); clear hK K; refine aw_seq_k fun K hK => wR 3 ?_; refine aX hTT 3 [] tI ?_; refine aops_nil (xt_n (hK _ ?_)); clear hK K
    refine w_cond (t := decide ((↑(List.length l) : Int) < (↑k : Int))) kR (fun c4 => ?_) (fun c4 => ?_)
    ·
     simp at c4
     have hkE : k = KE := by omega
     rcases hE.out with ⟨q, _⟩ | ⟨_, _, q, _⟩ | ⟨x, p, q1, q2, q3, q4, rfl, rfl⟩
     ·
      rw [hkE] at hno; exact absurd q hno
     ·
      rw [hkE] at hno; exact absurd q hno
     rw [hkE]
     have hci : chI (rnd b l (KE + 1)) = ((rnd b l (KE + 1)).ups x 0 : Nat) := by rw [chI, q2]; rfl
     rw [hci]
     refine aw_seq_k fun K hK => wR 4 ?_; refine aX hTT 2 [(0, .c qTL50), (1, .c qTL50)] ⟨qTL50_, qTL50_, tI⟩ ?_
     refine aops_callM [503] (first := []) (caps := []) (ins' := [(yyTL51 b l KE)]) (v' := V.own 300089) (δ := [(503, Option.none), (300089, Option.some (Ob.row 149 2 p fun (i : Nat) => V.renL (nameG (3 : Nat) (some 89) [(503 : Nat)]) [V.i (E5.r (laE b l (rnd b l (KE + (1 : Nat))) (BS.ups (rnd b l (KE + (1 : Nat))) x (List.length l + (p - (1 : Nat) - i))))), V.i (E5.a (laE b l (rnd b l (KE + (1 : Nat))) (BS.ups (rnd b l (KE + (1 : Nat))) x (List.length l + (p - (1 : Nat) - i)))))]))]) (kp := [503]) (circle_am l.length (laE b l (rnd b l (KE + 1))) ((rnd b l (KE + 1)).ups x) p q3 q4 hl) kR kR kR kR kR kR rfl rfl kR (.row kR (fun _ _ => rfl) (fun _ _ => rfl) .nil) kR kR kR ?_
     refine aX hTT 2 [(1, .r (pw ((0 : Nat) + (2 : Nat) ≤ (2 : Nat)) (505 : Nat) (Ob.box 112 [V.nil, V.own 300089])))] ⟨oM, tI⟩ ?_; refine aops_nil (xt_n (hK _ ?_)); clear hK K
     refine aw_ret ?_
     refine xs_r ?_
     refine xb_r ?_
     refine xt_r ?_; refine xt_r ?_
     refine xb_r ?_
     refine xt_r ?_
     refine ret_of_M ?_
     refine retMx (v' := V.agg [V.nil, V.own 0]) [(0, 300089), (100, 505)] [(2, V.ref 100 0)] [(100, Ob.box 112 [V.nil, V.own 0])] (.inr rfl) (.cons kR .nil) (.cons ⟨Ob.row 149 2 p fun (i : Nat) => V.renL (nameG (3 : Nat) (some (89 : Tmp)) [(503 : Nat)]) [V.i (E5.r (laE b l (rnd b l (KE + (1 : Nat))) (BS.ups (rnd b l (KE + (1 : Nat))) x (List.length l + (p - (1 : Nat) - i))))), V.i (E5.a (laE b l (rnd b l (KE + (1 : Nat))) (BS.ups (rnd b l (KE + (1 : Nat))) x (List.length l + (p - (1 : Nat) - i)))))], kR, .row kR (fun _ _ => rfl)⟩ (.cons ⟨Ob.box 112 [V.nil, V.own 300089], kR, .box kR⟩ .nil)) kR kR kR kR kR kR kR
    ·
     simp at c4
     refine aw_skip ?_
     refine xs_n ?_
     refine xb_n ?_; refine xt_n (hK _ ?_); clear hK K; refine wR 4 ?_; refine aX hTT 3 [(1, .i ((↑k : Int) + (1 : Int)))] ⟨oM, tI⟩ ?_; refine aops_nil ?_; refine xt_n ?_
     refine ⟨k + 1, by omega, ?_, by omega⟩
     refine le_ren (sl := [(2, Ob.box 112 [V.nil, V.nil]), (4, Ob.box 38 [V.own 14]), (5, Ob.box 200 [V.own 15]), (14, Ob.row 2 1 (List.length l) fun (v : Nat) => [V.i (BS.r (rnd b l (k + (1 : Nat))) v)]), (15, Ob.row 202 5 (List.length l) fun (v : Nat) => [V.i (E5.r (laE b l (rnd b l (k + (1 : Nat))) v)), V.i (E5.a (laE b l (rnd b l (k + (1 : Nat))) v)), V.i (E5.f (laE b l (rnd b l (k + (1 : Nat))) v)), V.i (E5.t (laE b l (rnd b l (k + (1 : Nat))) v)), V.i (E5.w (laE b l (rnd b l (k + (1 : Nat))) v))])]) [(2, 505), (4, 500), (5, 501), (14, 502), (15, 503)] (.cons kR (.cons kR (.cons kR (.cons kR (.cons kR (.cons kR .nil)))))) (.cons ⟨Ob.box 112 [V.nil, V.nil], kR, .box kR⟩ (.cons ⟨Ob.box 38 [V.own 502], kR, .box kR⟩ (.cons ⟨Ob.box 200 [V.own 503], kR, .box kR⟩ (.cons ⟨Ob.row 2 1 (List.length l) fun (v : Nat) => [V.i (BS.r (rnd b l (k + (1 : Nat))) v)], kR, .row kR (fun _ _ => rfl)⟩ (.cons ⟨Ob.row 202 5 (List.length l) fun (v : Nat) => [V.i (E5.r (laE b l (rnd b l (k + (1 : Nat))) v)), V.i (E5.a (laE b l (rnd b l (k + (1 : Nat))) v)), V.i (E5.f (laE b l (rnd b l (k + (1 : Nat))) v)), V.i (E5.t (laE b l (rnd b l (k + (1 : Nat))) v)), V.i (E5.w (laE b l (rnd b l (k + (1 : Nat))) v))], kR, .row kR (fun _ _ => rfl)⟩ .nil))))) kR kR
  ·
   intro k e sx _ hf
   exact hf.elim
end Go.Proofs.YtplnhbenmgclfaaGreatDoor

namespace Go.Proofs.YtplnhbenmgclfaaGreatDoor
open Go.Ab Go.RowKit Go.Dw Go.Shelf
section
variable {b : Bl} {l : List Pt}
theorem SOk.fix (h : SOk b l) {k : Nat} (hk : (rnd b l (k + 1)).ch = none) : LSol b l (rnd b l (k + 1)).r ∧ ∀ g, LSol b l g → ∀ v, v < l.length → g v ≤ (rnd b l (k + 1)).r v := by
 have e : (rnd b l (k + 1)).r = (rnd b l k).r := by
  have := (pass_none (s := BS.rounds (edgesL b l) (rimI b l) k) (k := (k : Int)) hk).1
  show ((BS.rounds (edgesL b l) (rimI b l) k).pass k (edgesL b l)).r = _
  rw [this]; rfl
 rw [e]
 exact ⟨sol_iff.1 (fix_sol h.e1.1 h.e1.2 hk), fun g hg v hv => (binv_rounds (i := rimI b l) h.e1.1 h.e1.2 k).sol g (sol_iff.2 hg) v hv⟩
theorem first_none (hx : ∃ k, (rnd b l (k + 1)).ch = none) : ∃ k, (rnd b l (k + 1)).ch = none ∧ ∀ k', k' < k → (rnd b l (k' + 1)).ch ≠ none := by
 obtain ⟨k, h1, h2⟩ := least (fun k => (rnd b l (k + 1)).ch = none) hx
 exact ⟨k, h1, fun k' hk he => by have := h2 k' he; omega⟩
theorem search_ok (h : SOk b l) {o : List Int} (ho : LOut b l o) : AC Tryz.prog 44 [.ptr (sdC b l)] (.agg [V.ints o, .nil]) [] := by
 have he := rounds_end h.e1.1 h.e1.2 ⟨_, sol_iff.2 ho.2.1.1⟩ (Nat.le_refl l.length)
 obtain ⟨K, h1, h2⟩ := first_none (b := b) (l := l) ⟨l.length, he⟩
 have hK : K ≤ l.length := Classical.byContradiction fun hc => h2 l.length oM he
 obtain ⟨f1, f2⟩ := h.fix h1
 have eq : ∀ v, v < l.length → (rnd b l (K + 1)).r v = gi o v := fun v hv => Int.le_antisymm (ho.2.2 _ f1 v hv) (f2 _ ho.2.1.1 v hv)
 have A := search_ac b l h (v := .agg [.own 0, .nil]) (obs := [.row 2 1 l.length fun i => [.i ((rnd b l (K + 1)).r i)]]) ⟨by omega, h2, .inl ⟨h1, fun i hi => by
  have := ho.2.1.2 i hi
  unfold corB
  rw [eq i hi]; omega, rfl, rfl⟩⟩
 exact A.shut1 (n' := o.length) (row' := fun k => [.i (gi o k)]) ho.1.symm (fun i hi => by rw [eq i hi]) (fun _ => rfl) rfl rfl
theorem search_no (h : SOk b l) (hno : ¬ ∃ o, LOut b l o) : ∃ (m : Nat) (A B : Nat → Int), 0 < m ∧ AC Tryz.prog 44 [.ptr (sdC b l)] (.agg [.nil, .sl 2 m fun j => [.i (A j), .i (B j)]]) [] := by
 by_cases hx : ∃ k, k ≤ l.length + 1 ∧ (rnd b l (k + 1)).ch = none
 ·
  obtain ⟨k0, hk0, hk1⟩ := hx
  obtain ⟨K, h1, h2⟩ := first_none (b := b) (l := l) ⟨k0, hk1⟩
  have hK : K ≤ k0 := Classical.byContradiction fun hc => h2 k0 oM hk1
  obtain ⟨f1, f2⟩ := h.fix h1
  have hbad : ∃ i, i < l.length ∧ ¬ corB b l (rnd b l (K + 1)) i := Classical.byContradiction fun hc => hno (lout_of h.bl.1.1 ⟨f1, fun v hv => by
   have : corB b l (rnd b l (K + 1)) v := Classical.byContradiction fun hb => hc ⟨v, hv, hb⟩
   unfold corB at this
   omega⟩)
  obtain ⟨i, ⟨hi, hb⟩, hmin⟩ := least (fun i => i < l.length ∧ ¬ corB b l (rnd b l (K + 1)) i) hbad
  have hinv := h.inv K (Nat.le_refl (edgesL b l).length)
  rw [mid_end] at hinv
  have hpn := pass_none (s := BS.rounds (edgesL b l) (rimI b l) K) (k := (K : Int)) h1
  have hs : ∀ e ∈ edgesL b l, (rnd b l (K + 1)).r e.t ≤ (rnd b l (K + 1)).r e.f + e.w := by
   have e : (rnd b l (K + 1)).r = (rnd b l K).r := by
    show ((BS.rounds (edgesL b l) (rimI b l) K).pass K (edgesL b l)).r = _
    rw [hpn.1]; rfl
   rw [e]
   exact hpn.2
  obtain ⟨T, t1, t2, t3⟩ := way_ends (x := corX b l i) (v := i) h.e1.1 hinv hs hi rfl
  have hclk := hinv.clk i
  have hc2 := rounds_clk (edgesL b l) (rimI b l) (K + 1)
  have hT : T ≤ 1099511627775 := by
   have h4 := edgesL_len (b := b) (l := l)
   have h5 := h.len
   have h6 : (K + 1) * (edgesL b l).length ≤ 4099 * 12288 := Nat.mul_le_mul oM oM
   have h7 : (rnd b l (K + 1)).clk ≤ (K + 1) * (edgesL b l).length := hc2
   omega
  have A := search_ac b l h (v := .agg [.nil, .own 0]) (obs := _) ⟨by omega, h2, .inr (.inl ⟨i, T, h1, hi, fun j hj => Classical.byContradiction fun hb => by have := hmin j ⟨by omega, hb⟩; omega, hb, hT, t2, t3, rfl, rfl⟩)⟩
  exact ⟨T + 1, _, _, by omega, A.shut1 rfl (fun i hi => rfl) (fun _ => rfl) rfl rfl⟩
 ·
  have hno1 : ∀ k, k ≤ l.length + 1 → (rnd b l (k + 1)).ch ≠ none := fun k hk he => hx ⟨k, hk, he⟩
  obtain ⟨x, hch⟩ : ∃ x, (rnd b l (l.length + 1 + 1)).ch = some x := by
   cases hc : (rnd b l (l.length + 1 + 1)).ch with
   | none => exact absurd hc (hno1 _ (Nat.le_refl _))
   | some x => exact ⟨x, rfl⟩
  have hinv := h.inv (l.length + 1) (Nat.le_refl (edgesL b l).length)
  rw [mid_end] at hinv
  obtain ⟨c1, c2⟩ := hinv.chg x hch
  obtain ⟨m1, p, m2, m3, m4, m5⟩ := circle_min (b := b) h.e1.1 hinv c1 c2 oM
  have A := search_ac b l h (v := .agg [.nil, .own 0]) (obs := _) ⟨Nat.le_refl _, fun k hk => hno1 k oM, .inr (.inr ⟨x, p, rfl, hch, m1, ⟨m2, m4, by rw [ups_add]; exact m3, fun q hq hqp => by rw [ups_add]; exact m5 q hq hqp⟩, rfl, rfl⟩)⟩
  exact ⟨p, _, _, m2, A.shut1 rfl (fun i hi => rfl) (fun _ => rfl) rfl rfl⟩
end
set_option maxRecDepth 100000 in
theorem Outer_ok (b : Bl) (l : List Pt) (h : SOk b l) {o : List Int} (ho : LOut b l o) : AC Tryz.prog 14 [b.v, V.pts l] (.tup [V.ints o, .i 0]) [] := by
 refine acI hTT hMX Tryz.func14 Tryz.ntmps14 fun C hC hF => ?_
 refine aw_seq_k fun K hK => wR 2 ?_; refine aX hTT 3 [] tI ?_; refine aops_nil (xt_n (hK _ ?_)); clear hK K; refine aw_seq_k fun K hK => wR 3 ?_; refine aX hTT 2 [] tI ?_
 refine eC (newSide_ok b l h) ?_
 refine aX hTT 5 [] tI ?_; refine aops_nil (xt_n (hK _ ?_)); clear hK K; refine aw_seq_k fun K hK => ?_; refine aw_seq_k fun K hK => wR 4 ?_; refine aX hTT 2 [] tI ?_; refine aops_nil (xt_n (hK _ ?_)); clear hK K; refine w_false (t := false) kR rfl ?_
 refine aw_skip ?_
 refine xt_n (hK _ ?_); clear hK K; refine aw_seq_k fun K hK => wR 5 ?_; refine aX hTT 1 [] tI ?_
 refine eC (search_ok h ho) ?_
 refine aX hTT 2 [(0, .r (pn 8 (V.ref 400008 0) (400008 : Nat) (Ob.box 112 [V.nil, V.nil]))), (1, .r (pw ((0 : Nat) + (2 : Nat) ≤ (2 : Nat)) (400008 : Nat) (Ob.box 112 [V.sl 1 (List.length o) fun (k : Nat) => [V.i (gi o k)], V.nil])))] ⟨oM, tI⟩ ?_; refine aops_nil (xt_n (hK _ ?_)); clear hK K; refine aw_seq_k fun K hK => ?_; refine aw_seq_k fun K hK => wR 6 ?_; refine aX hTT 4 [(1, .c ((1 : Nat) ≤ (2 : Nat)))] ⟨oM, tI⟩ ?_; refine aops_nil (xt_n (hK _ ?_)); clear hK K; refine w_false (t := false) kR rfl ?_
 refine aw_skip ?_
 refine xt_n (hK _ ?_); clear hK K; refine aw_seq_k fun K hK => wR 7 ?_; refine aX hTT 4 [(1, .c ((0 : Nat) ≤ (2 : Nat)))] ⟨oM, tI⟩ ?_; refine aops_nil (xt_n (hK _ ?_)); clear hK K
 refine aw_ret ?_
 refine rP (V.tup [V.sl 1 (List.length o) fun (k : Nat) => [V.i (gi o k)], V.i 0])
set_option maxRecDepth 100000 in
theorem Outer_no (b : Bl) (l : List Pt) (h : SOk b l) (hno : ¬ ∃ o, LOut b l o) : AC Tryz.prog 14 [b.v, V.pts l] (.tup [.nil, .i 15]) [] := by
 obtain ⟨m, A, B, hm, S⟩ := search_no h hno
 refine acI hTT hMX Tryz.func14 Tryz.ntmps14 fun C hC hF => ?_
 refine aw_seq_k fun K hK => wR 2 ?_; refine aX hTT 3 [] tI ?_; refine aops_nil (xt_n (hK _ ?_)); clear hK K; refine aw_seq_k fun K hK => wR 3 ?_; refine aX hTT 2 [] tI ?_
 refine eC (newSide_ok b l h) ?_
 refine aX hTT 5 [] tI ?_; refine aops_nil (xt_n (hK _ ?_)); clear hK K; refine aw_seq_k fun K hK => ?_; refine aw_seq_k fun K hK => wR 4 ?_; refine aX hTT 2 [] tI ?_; refine aops_nil (xt_n (hK _ ?_)); clear hK K; refine w_false (t := false) kR rfl ?_
 refine aw_skip ?_
 refine xt_n (hK _ ?_); clear hK K; refine aw_seq_k fun K hK => wR 5 ?_; refine aX hTT 1 [] tI ?_
 refine eC (S) ?_
 refine aX hTT 2 [(0, .r (pn 8 (V.ref 400008 0) (400008 : Nat) (Ob.box 112 [V.nil, V.nil]))), (1, .r (pw ((0 : Nat) + (2 : Nat) ≤ (2 : Nat)) (400008 : Nat) (Ob.box 112 [V.nil, V.sl 2 m fun (j : Nat) => [V.i (A j), V.i (B j)]])))] ⟨oM, tI⟩ ?_; refine aops_nil (xt_n (hK _ ?_)); clear hK K; refine aw_seq_k fun K hK => ?_; refine aw_seq_k fun K hK => wR 6 ?_; refine aX hTT 4 [(1, .c ((1 : Nat) ≤ (2 : Nat)))] ⟨oM, tI⟩ ?_; refine aops_nil (xt_n (hK _ ?_)); clear hK K
 refine w_cond (t := decide ((0 : Int) < (↑m : Int))) kR (fun c1 => ?_) (fun c1 => ?_)
 ·
  refine aw_seq_k fun K hK => ?_
  refine wR 7 ?_; refine aX hTT 2 [] tI ?_; refine aops_nil (xt_n (hK _ ?_)); clear hK K
  refine aw_ret ?_
  refine xt_r ?_
  refine rP (V.tup [V.nil, V.i 15])
 ·
  simp at c1
  omega
end Go.Proofs.YtplnhbenmgclfaaGreatDoor

namespace Go.Proofs.YtplnhbenmgclfaaGreatDoor
open Go.Ab Go.RowKit Go.Dw Go.Shelf
set_option maxRecDepth 100000 in
theorem newCut1_ac (x : Int) : AC Tryz.prog 106 [.i x] (.b (!betB x (-16777216) 16777216)) [] := by
 refine acI hTT hMX Tryz.func106 Tryz.ntmps106 fun C hC hF => ?_
 refine aw_seq_k fun K hK => wR 2 ?_; refine aX hTT 1 [] tI ?_; refine aops_nil (xt_n (hK _ ?_)); clear hK K; refine aw_seq_k fun K hK => wR 3 ?_; refine aX hTT 1 [] tI ?_
 refine eC (lBetween_ac x (-16777216) 16777216) ?_
 refine aX hTT 2 [] tI ?_; refine aops_nil (xt_n (hK _ ?_)); clear hK K
 refine aw_ret ?_
 refine rP (V.b !betB x (-16777216 : Int) (16777216 : Int))
set_option maxRecDepth 100000 in
theorem indexFl_ac (r : List Int) (hl : r.length ≤ 4096) (hr : ∀ v, v < r.length → -16777216 ≤ gi r v ∧ gi r v ≤ 16777216) : AC Tryz.prog 139 [V.ints r, .fn (.func 106) [] []] (.i (-1)) [] := by
 refine acI hTT hMX Tryz.func139 Tryz.ntmps139 fun C hC hF => ?_
 refine aw_seq_k fun K hK => wR 2 ?_; refine aX hTT 1 [] tI ?_; refine aops_nil (xt_n (hK _ ?_)); clear hK K; refine aw_seq_k fun K hK => ?_; refine aw_seq_k fun K hK => wR 3 ?_; refine aX hTT 3 [] tI ?_; refine aops_nil (xt_n (hK _ ?_)); clear hK K
 refine aw_block ?_
 refine w_loop (ι := Nat) (fun k => [(0, V.ints r), (1, .fn (.func 106) [] []), (7, .i r.length), (8, .i k)]) (fun _ => []) (fun k => k ≤ r.length) (fun k => r.length - k) 0 (Nat.zero_le _) ?_ ?_
 ·
  refine le_ren [] (.cons kR (.cons kR (.cons kR (.cons kR .nil)))) .nil kR kR
 intro k hk
 refine aw_seq_k fun K hK => wR 2 ?_; refine aX hTT 1 [] tI ?_; refine aops_nil (xt_n (hK _ ?_)); clear hK K; refine aw_seq_k fun K hK => ?_
 refine w_cond (t := decide ((↑k : Int) < (↑(List.length r) : Int))) kR (fun c1 => ?_) (fun c1 => ?_)
 ·
  have hk1 : k < r.length := by simpa using c1
  have hb : betB (gi r k) (-16777216) 16777216 = true := by
   have := hr k hk1
   simp [betB]; omega
  refine aw_skip ?_
  refine xt_n (hK _ ?_); clear hK K; refine aw_seq_k fun K hK => ?_
  refine aw_block ?_
  refine aw_seq_k fun K hK => wR 3 ?_; refine aX hTT 2 [] tI ?_; refine aops_nil (xt_n (hK _ ?_)); clear hK K; refine aw_seq_k fun K hK => wR 4 ?_; refine aX hTT 5 [(3, .c ((0 : Int) ≤ (↑k : Int) ∧ (↑k : Int) < (↑(List.length r) : Int)))] ⟨oM, tI⟩ ?_
  refine eC (newCut1_ac (gi r k)) ?_
  rw [hb]
  refine aops_nil (xt_n (hK _ ?_)); clear hK K; refine w_false (t := false) kR rfl ?_
  refine aw_skip ?_
  refine xb_n ?_; refine xt_n (hK _ ?_); clear hK K; refine wR 5 ?_; refine aX hTT 2 [(0, .i ((↑k : Int) + (1 : Int)))] ⟨oM, tI⟩ ?_; refine aops_nil ?_; refine xt_n ?_
  refine ⟨k + 1, by omega, ?_, by omega⟩
  refine le_ren [] (.cons kR (.cons kR (.cons kR (.cons kR .nil)))) .nil kR kR
 ·
  refine aw_exit ?_
  refine xt_x ?_; refine xt_x ?_
  refine xb_same ?_
  refine xt_n ?_; clear hK K; refine hK _ ?_; clear hK K; refine aw_seq_k fun K hK => wR 3 ?_; refine aX hTT 1 [] tI ?_; refine aops_nil (xt_n (hK _ ?_)); clear hK K
  refine aw_ret ?_
  refine rP (V.i (-1))
set_option maxRecDepth 100000 in
theorem containsFl_ac (r : List Int) (hl : r.length ≤ 4096) (hr : ∀ v, v < r.length → -16777216 ≤ gi r v ∧ gi r v ≤ 16777216) : AC Tryz.prog 105 [V.ints r, .fn (.func 106) [] []] (.b false) [] := by
 refine acI hTT hMX Tryz.func105 Tryz.ntmps105 fun C hC hF => ?_
 refine aw_seq_k fun K hK => wR 2 ?_; refine aX hTT 1 [] tI ?_; refine aops_nil (xt_n (hK _ ?_)); clear hK K; refine aw_seq_k fun K hK => wR 3 ?_; refine aX hTT 2 [] tI ?_
 refine eC (indexFl_ac r hl hr) ?_
 refine aX hTT 2 [] tI ?_; refine aops_nil (xt_n (hK _ ?_)); clear hK K
 refine aw_ret ?_
 refine rP (V.b false)
def cuC (b : Bl) (l : List Pt) (r : List Int) : List V := [.ptr (sdC b l), V.ints r]
set_option maxRecDepth 100000 in
theorem newCut_ac (b : Bl) (l : List Pt) (h : SOk b l) (r : List Int) (hl : r.length = l.length) (hr : ∀ v, v < r.length → -16777216 ≤ gi r v ∧ gi r v ≤ 16777216) : AC Tryz.prog 56 [b.v, V.pts l, V.ints r] (.tup [.ptr (cuC b l r), .i 0]) [] := by
 have hlen := h.len
 refine acI hTT hMX Tryz.func56 Tryz.ntmps56 fun C hC hF => ?_
 refine aw_seq_k fun K hK => wR 2 ?_; refine aX hTT 3 [] tI ?_; refine aops_nil (xt_n (hK _ ?_)); clear hK K; refine aw_seq_k fun K hK => wR 3 ?_; refine aX hTT 2 [] tI ?_
 refine eC (newSide_ok b l h) ?_
 refine aX hTT 5 [] tI ?_; refine aops_nil (xt_n (hK _ ?_)); clear hK K; refine aw_seq_k fun K hK => ?_; refine aw_seq_k fun K hK => wR 4 ?_; refine aX hTT 2 [] tI ?_; refine aops_nil (xt_n (hK _ ?_)); clear hK K; refine w_false (t := false) kR rfl ?_
 refine aw_skip ?_
 refine xt_n (hK _ ?_); clear hK K; refine aw_seq_k fun K hK => ?_; refine aw_seq_k fun K hK => wR 5 ?_; refine aX hTT 5 [] tI ?_; refine aops_nil (xt_n (hK _ ?_)); clear hK K
 refine w_cond (t := !decide ((↑(List.length r) : Int) = (↑(List.length l) : Int))) kR (fun c1 => ?_) (fun c1 => ?_)
 ·
  simp at c1
  omega
 refine aw_skip ?_
 refine xt_n (hK _ ?_); clear hK K; refine aw_seq_k fun K hK => ?_; refine aw_seq_k fun K hK => wR 6 ?_; refine aX hTT 1 [] tI ?_
 refine eC (containsFl_ac r oM hr) ?_
 refine aops_nil (xt_n (hK _ ?_)); clear hK K; refine w_false (t := false) kR rfl ?_
 refine aw_skip ?_
 refine xt_n (hK _ ?_); clear hK K; refine aw_seq_k fun K hK => wR 7 ?_; refine aX hTT 6 [] tI ?_; refine aops_nil (xt_n (hK _ ?_)); clear hK K
 refine aw_ret ?_
 refine rP (V.tup [V.ptr [V.ptr [V.i (Bl.per b), V.i (Bl.rim b), V.i (Bl.core b), V.i (Bl.land b), V.i (Bl.slow b), V.i (Bl.fast b), V.sl 2 (List.length l) fun (k : Nat) => [V.i (Prod.fst (gp l k)), V.i (Prod.snd (gp l k))], V.i (Bl.per b)], V.sl 1 (List.length r) fun (k : Nat) => [V.i (gi r k)]], V.i 0])
end Go.Proofs.YtplnhbenmgclfaaGreatDoor

namespace Go.Proofs.YtplnhbenmgclfaaGreatDoor
open Go.Ab Go.RowKit Go.Dw Go.Shelf
abbrev yyTL80 (b : Bl) (i : Nat) : List V := [V.i 4, V.i (↑i : Int), V.i (↑i : Int), V.i ((↑i : Int) - (1 : Int)), V.i (Bl.fast b)]
set_option maxRecDepth 100000 in
theorem edge4z_ac (b : Bl) (l : List Pt) (h : SOk b l) (i : Nat) (hi : i < l.length) (h0 : i = 0) : AC Tryz.prog 91 [.ptr (sdC b l), .i 4, .i i] (.tup [.agg [.i 4, .i i, .i i, .i ((i : Int) - 1), .i b.fast], .b false]) [] := by
 obtain ⟨⟨q1, q2⟩, ⟨q3, q4⟩, ⟨q5, q6⟩, ⟨q7, q8⟩, ⟨q9, q10⟩, q11, q12⟩ := h.bl
 obtain ⟨⟨p1, p2⟩, p3, p4⟩ := h.pt i hi
 have hl := h.len
 refine acI hTT hMX Tryz.func91 Tryz.ntmps91 fun C hC hF => ?_
 refine aw_seq_k fun K hK => wR 2 ?_; refine aX hTT 2 [(0, .r (pn 6 (V.ref 100006 0) (100006 : Nat) (Ob.box 202 [V.i 0, V.i 0, V.i 0, V.i 0, V.i 0])))] tI ?_; refine aops_nil (xt_n (hK _ ?_)); clear hK K; refine aw_seq_k fun K hK => wR 3 ?_; refine aX hTT 8 [(6, .r (pn 8 (V.ref 200008 0) (200008 : Nat) (Ob.box 202 [V.i 0, V.i 0, V.i 0, V.i 0, V.i 0]))), (7, .r (pw ((0 : Nat) + (5 : Nat) ≤ (5 : Nat)) (200008 : Nat) (Ob.box 202 [V.i 4, V.i (↑i : Int), V.i (↑i : Int), V.i (↑i : Int), V.i 0])))] ⟨oM, tI⟩ ?_; refine aops_nil (xt_n (hK _ ?_)); clear hK K; refine aw_seq_k fun K hK => ?_; refine aw_seq_k fun K hK => wR 4 ?_; refine aX hTT 11 [(3, .c (gA (decide ((↑i : Int) < (0 : Int)) == false) True)), (4, .c (gA (decide ((↑i : Int) < (0 : Int)) == false) True)), (5, .c (gB (decide ((↑i : Int) < (0 : Int)) == false) True)), (6, .c (gB (decide ((↑i : Int) < (0 : Int)) == false) True)), (7, .c (gB (decide ((↑i : Int) < (0 : Int)) == false) True)), (8, .c (gB (decide ((↑i : Int) < (0 : Int)) == false) True)), (9, .c (gC (decide ((↑i : Int) < (0 : Int)) == false) True)), (10, .c (True ∧ (decide ((↑i : Int) < (0 : Int)) = false → (decide ((↑i : Int) < (0 : Int)) == false) = true)))] ⟨⟨⟨tI, tI⟩, (fun _ => tI)⟩, ⟨⟨tI, tI⟩, (fun _ => tI)⟩, ⟨⟨(by (exact fun h => h)), tI⟩, (fun _ => tI)⟩, ⟨⟨(by (exact fun h => h)), tI⟩, (fun _ => tI)⟩, ⟨⟨(by (exact fun h => h)), tI⟩, (fun _ => tI)⟩, ⟨⟨(by (exact fun h => h)), tI⟩, (fun _ => tI)⟩, ⟨⟨(by (exact fun h => h)), ⟨(by (exact fun h => h)), tI⟩⟩, (fun _ => tI)⟩, ⟨tI, (by (intro h; rw [h]; rfl))⟩, tI⟩ ?_; refine aops_nil (xt_n (hK _ ?_)); clear hK K
 refine w_cond (t := decide ((↑i : Int) < (0 : Int)) || decide ((↑(List.length l) : Int) ≤ (↑i : Int))) kR (fun c1 => ?_) (fun c1 => ?_)
 ·
  simp at c1
  omega
 clear c1
 refine aw_skip ?_
 refine xt_n (hK _ ?_); clear hK K; refine aw_seq_k fun K hK => wR 5 ?_; refine aX hTT 9 [(5, .c ((0 : Int) ≤ (↑i : Int) ∧ (↑i : Int) < (↑(List.length l) : Int))), (7, .r (pn 9 (V.ref 400009 0) (400009 : Nat) (Ob.box 53 [V.i 0, V.i 0]))), (8, .r (pw ((0 : Nat) + (2 : Nat) ≤ (2 : Nat)) (400009 : Nat) (Ob.box 53 [V.i (Prod.fst (gp l i)), V.i (Prod.snd (gp l i))])))] ⟨oM, oM, tI⟩ ?_; refine aops_nil (xt_n (hK _ ?_)); clear hK K; refine aw_seq_k fun K hK => ?_; refine aw_seq_k fun K hK => wR 6 ?_; refine aX hTT 1 [] tI ?_; refine aops_nil (xt_n (hK _ ?_)); clear hK K
 refine aw_block ?_
 refine aw_seq_k fun K hK => wR 7 ?_; refine aX hTT 2 [] tI ?_; refine aops_nil (xt_n (hK _ ?_)); clear hK K; refine w_false (t := false) kR rfl ?_; refine aw_seq_k fun K hK => wR 8 ?_; refine aX hTT 2 [] tI ?_; refine aops_nil (xt_n (hK _ ?_)); clear hK K; refine w_false (t := false) kR rfl ?_; refine aw_seq_k fun K hK => wR 9 ?_; refine aX hTT 2 [] tI ?_; refine aops_nil (xt_n (hK _ ?_)); clear hK K; refine w_false (t := false) kR rfl ?_; refine aw_seq_k fun K hK => wR 10 ?_; refine aX hTT 2 [] tI ?_; refine aops_nil (xt_n (hK _ ?_)); clear hK K; refine w_true (t := true) kR rfl ?_; refine aw_seq_k fun K hK => wD 11 ?_; refine aX hTT 11 [(1, .i ((↑i : Int) - (1 : Int))), (8, .r (pw ((3 : Nat) + (1 : Nat) ≤ (5 : Nat)) (200008 : Nat) (Ob.box 202 [V.i 4, V.i (↑i : Int), V.i (↑i : Int), V.i ((↑i : Int) - (1 : Int)), V.i 0]))), (10, .r (pw ((4 : Nat) + (1 : Nat) ≤ (5 : Nat)) (200008 : Nat) (Ob.box 202 (yyTL80 b i))))] ⟨oM, oM, oM, tI⟩ ?_; refine aops_nil ⟨kR, ?_⟩; refine xt_n (hK _ ?_); clear hK K; refine aw_seq_k fun K hK => wR 12 ?_; refine aX hTT 5 [(0, .c ((0 : Nat) ≤ (5 : Nat))), (3, .r (pw ((0 : Nat) + (5 : Nat) ≤ (5 : Nat)) (100006 : Nat) (Ob.box 202 (yyTL80 b i))))] ⟨oM, oM, tI⟩ ?_; refine aops_nil (xt_n (hK _ ?_)); clear hK K
 refine aw_ret ?_
 refine xb_r ?_
 refine xt_r ?_
 refine ret_pure (v' := V.tup [V.agg (yyTL80 b i), V.b (decide ((0 : Int) < (↑i : Int)))]) (.inr rfl) kR ?_ kR
 simp [h0]
def RBd (r : List Int) : Prop := ∀ v, v < r.length → -16777216 ≤ gi r v ∧ gi r v ≤ 16777216
section
variable (b : Bl) (l : List Pt) (h : SOk b l) (r : List Int) (hl : r.length = l.length) (hr : RBd r) (hc : LCut b l (gi r)) (i : Nat) (hi : i < l.length)
include h hl hr hc hi
set_option maxRecDepth 100000 in
theorem keep1_ac : AC Tryz.prog 66 [.ptr (cuC b l r), .i 1, .i i] (.b true) [] := by
 obtain ⟨⟨q1, q2⟩, ⟨q3, q4⟩, ⟨q5, q6⟩, ⟨q7, q8⟩, ⟨q9, q10⟩, q11, q12⟩ := h.bl
 obtain ⟨⟨p1, p2⟩, p3, p4⟩ := h.pt i hi
 have hlen := h.len
 have r1 := hr i oM
 have k1 := (hc.1 i hi).1
 have k2 : rimI b l i = b.rim - (gp l i).2 := rfl
 refine acI hTT hMX Tryz.func66 Tryz.ntmps66 fun C hC hF => ?_
 refine aw_seq_k fun K hK => wR 2 ?_; refine aX hTT 1 [] tI ?_; refine aops_nil (xt_n (hK _ ?_)); clear hK K; refine aw_seq_k fun K hK => wR 3 ?_; refine aX hTT 6 [] tI ?_
 refine eC (edge1_ac b l h i hi) ?_
 refine aX hTT 6 [(3, .r (pn 7 (V.ref 200007 0) (200007 : Nat) (Ob.box 202 [V.i 0, V.i 0, V.i 0, V.i 0, V.i 0]))), (4, .r (pw ((0 : Nat) + (5 : Nat) ≤ (5 : Nat)) (200007 : Nat) (Ob.box 202 [V.i 1, V.i (↑i : Int), V.i (-1), V.i (↑i : Int), V.i (rimI b l i)])))] ⟨oM, tI⟩ ?_; refine aops_nil (xt_n (hK _ ?_)); clear hK K; refine aw_seq_k fun K hK => ?_; refine aw_seq_k fun K hK => wR 4 ?_; refine aX hTT 2 [] tI ?_; refine aops_nil (xt_n (hK _ ?_)); clear hK K; refine w_false (t := false) kR rfl ?_
 refine aw_skip ?_
 refine xt_n (hK _ ?_); clear hK K; refine aw_seq_k fun K hK => wR 5 ?_; refine aX hTT 2 [] tI ?_; refine aops_nil (xt_n (hK _ ?_)); clear hK K; refine aw_seq_k fun K hK => ?_; refine aw_seq_k fun K hK => wR 6 ?_
 refine aops_n hTT (M := []) (n := 3) [pv 23 (V.ref 200007 2), pc 24 ((2 : Nat) ≤ (5 : Nat)) (V.i (-1)), pv 25 (V.b false)] kR kR ⟨oM, tI⟩ ?_
 refine aops_nil (xt_n (hK _ ?_)); clear hK K; refine w_false (t := false) kR rfl ?_
 refine aw_skip ?_
 refine xt_n (hK _ ?_); clear hK K; refine aw_seq_k fun K hK => ?_; refine aw_seq_k fun K hK => wR 7 ?_
 refine aops_n hTT (M := []) (n := 3) [pv 34 (V.ref 200007 3), pc 35 ((3 : Nat) ≤ (5 : Nat)) (V.i (↑i : Int)), pv 36 (V.b !decide ((↑i : Int) = (-1 : Int)))] kR kR ⟨oM, tI⟩ ?_
 refine aops_nil (xt_n (hK _ ?_)); clear hK K
 refine w_cond (t := !decide ((↑i : Int) = (-1 : Int))) kR (fun c1 => ?_) (fun c1 => ?_)
 ·
  refine wD 8 ?_
  refine aops_n hTT (M := []) (n := 9) [pv 37 (V.ptr [V.ptr [V.i (Bl.per b), V.i (Bl.rim b), V.i (Bl.core b), V.i (Bl.land b), V.i (Bl.slow b), V.i (Bl.fast b), V.sl 2 (List.length l) fun (k : Nat) => [V.i (Prod.fst (gp l k)), V.i (Prod.snd (gp l k))], V.i (Bl.per b)], V.sl 1 (List.length r) fun (k : Nat) => [V.i (gi r k)]]), pv 38 (V.ptr [V.ptr [V.i (Bl.per b), V.i (Bl.rim b), V.i (Bl.core b), V.i (Bl.land b), V.i (Bl.slow b), V.i (Bl.fast b), V.sl 2 (List.length l) fun (k : Nat) => [V.i (Prod.fst (gp l k)), V.i (Prod.snd (gp l k))], V.i (Bl.per b)], V.sl 1 (List.length r) fun (k : Nat) => [V.i (gi r k)]]), pv 39 (V.ptr [V.sl 1 (List.length r) fun (k : Nat) => [V.i (gi r k)]]), pv 40 (V.sl 1 (List.length r) fun (k : Nat) => [V.i (gi r k)]), pv 41 (V.ref 200007 3), pc 42 ((3 : Nat) ≤ (5 : Nat)) (V.i (↑i : Int)), pc 43 ((0 : Int) ≤ (↑i : Int) ∧ (↑i : Int) < (↑(List.length r) : Int)) (V.ptr [V.i (gi r i)]), pv 44 (V.i (gi r i)), pv 10 (V.i (gi r i))] kR kR ⟨oM, oM, tI⟩ ?_
  refine aops_nil ⟨kR, ?_⟩; refine xt_n (hK _ ?_); clear hK K; refine aw_seq_k fun K hK => wR 9 ?_
  refine aops_n hTT (M := []) (n := 7) [pv 45 (V.i (gi r i)), pv 46 (V.i 0), pv 47 (V.ref 200007 4), pc 48 ((4 : Nat) ≤ (5 : Nat)) (V.i (rimI b l i)), pc 49 ((-9223372036854775808 : Int) ≤ (0 : Int) + rimI b l i ∧ (0 : Int) + rimI b l i ≤ (9223372036854775807 : Int)) (V.i ((0 : Int) + rimI b l i)), pv 50 (V.b (decide (gi r i ≤ (0 : Int) + rimI b l i))), pv 6 (V.b (decide (gi r i ≤ (0 : Int) + rimI b l i)))] kR kR ⟨oM, oM, tI⟩ ?_
  refine aops_nil (xt_n (hK _ ?_)); clear hK K
  refine aw_ret ?_
  refine ret_pure (v' := V.b (decide (gi r i ≤ (0 : Int) + rimI b l i))) (.inr rfl) kR ?_ kR
  rw [decide_eq_true oM]
 ·
  simp at c1
set_option maxRecDepth 100000 in
theorem keep2_ac : AC Tryz.prog 66 [.ptr (cuC b l r), .i 2, .i i] (.b true) [] := by
 obtain ⟨⟨q1, q2⟩, ⟨q3, q4⟩, ⟨q5, q6⟩, ⟨q7, q8⟩, ⟨q9, q10⟩, q11, q12⟩ := h.bl
 obtain ⟨⟨p1, p2⟩, p3, p4⟩ := h.pt i hi
 have hlen := h.len
 have r1 := hr i oM
 have k1 := hc.2 i hi
 refine acI hTT hMX Tryz.func66 Tryz.ntmps66 fun C hC hF => ?_
 refine aw_seq_k fun K hK => wR 2 ?_; refine aX hTT 1 [] tI ?_; refine aops_nil (xt_n (hK _ ?_)); clear hK K; refine aw_seq_k fun K hK => wR 3 ?_; refine aX hTT 6 [] tI ?_
 refine eC (edge2_ac b l h i hi) ?_
 refine aX hTT 6 [(3, .r (pn 7 (V.ref 200007 0) (200007 : Nat) (Ob.box 202 [V.i 0, V.i 0, V.i 0, V.i 0, V.i 0]))), (4, .r (pw ((0 : Nat) + (5 : Nat) ≤ (5 : Nat)) (200007 : Nat) (Ob.box 202 [V.i 2, V.i (↑i : Int), V.i (↑i : Int), V.i (-1), V.i (Prod.fst (gp l i) - Bl.core b)])))] ⟨oM, tI⟩ ?_; refine aops_nil (xt_n (hK _ ?_)); clear hK K; refine aw_seq_k fun K hK => ?_; refine aw_seq_k fun K hK => wR 4 ?_; refine aX hTT 2 [] tI ?_; refine aops_nil (xt_n (hK _ ?_)); clear hK K; refine w_false (t := false) kR rfl ?_
 refine aw_skip ?_
 refine xt_n (hK _ ?_); clear hK K; refine aw_seq_k fun K hK => wR 5 ?_; refine aX hTT 2 [] tI ?_; refine aops_nil (xt_n (hK _ ?_)); clear hK K; refine aw_seq_k fun K hK => ?_; refine aw_seq_k fun K hK => wR 6 ?_
 refine aops_n hTT (M := []) (n := 3) [pv 23 (V.ref 200007 2), pc 24 ((2 : Nat) ≤ (5 : Nat)) (V.i (↑i : Int)), pv 25 (V.b !decide ((↑i : Int) = (-1 : Int)))] kR kR ⟨oM, tI⟩ ?_
 refine aops_nil (xt_n (hK _ ?_)); clear hK K
 refine w_cond (t := !decide ((↑i : Int) = (-1 : Int))) kR (fun c1 => ?_) (fun c1 => ?_)
 ·
  refine wD 7 ?_
  refine aops_n hTT (M := []) (n := 9) [pv 26 (V.ptr [V.ptr [V.i (Bl.per b), V.i (Bl.rim b), V.i (Bl.core b), V.i (Bl.land b), V.i (Bl.slow b), V.i (Bl.fast b), V.sl 2 (List.length l) fun (k : Nat) => [V.i (Prod.fst (gp l k)), V.i (Prod.snd (gp l k))], V.i (Bl.per b)], V.sl 1 (List.length r) fun (k : Nat) => [V.i (gi r k)]]), pv 27 (V.ptr [V.ptr [V.i (Bl.per b), V.i (Bl.rim b), V.i (Bl.core b), V.i (Bl.land b), V.i (Bl.slow b), V.i (Bl.fast b), V.sl 2 (List.length l) fun (k : Nat) => [V.i (Prod.fst (gp l k)), V.i (Prod.snd (gp l k))], V.i (Bl.per b)], V.sl 1 (List.length r) fun (k : Nat) => [V.i (gi r k)]]), pv 28 (V.ptr [V.sl 1 (List.length r) fun (k : Nat) => [V.i (gi r k)]]), pv 29 (V.sl 1 (List.length r) fun (k : Nat) => [V.i (gi r k)]), pv 30 (V.ref 200007 2), pc 31 ((2 : Nat) ≤ (5 : Nat)) (V.i (↑i : Int)), pc 32 ((0 : Int) ≤ (↑i : Int) ∧ (↑i : Int) < (↑(List.length r) : Int)) (V.ptr [V.i (gi r i)]), pv 33 (V.i (gi r i)), pv 9 (V.i (gi r i))] kR kR ⟨oM, oM, tI⟩ ?_
  refine aops_nil ⟨kR, ?_⟩; refine xt_n (hK _ ?_); clear hK K; refine aw_seq_k fun K hK => ?_; refine aw_seq_k fun K hK => wR 8 ?_
  refine aops_n hTT (M := []) (n := 3) [pv 34 (V.ref 200007 3), pc 35 ((3 : Nat) ≤ (5 : Nat)) (V.i (-1)), pv 36 (V.b false)] kR kR ⟨oM, tI⟩ ?_
  refine aops_nil (xt_n (hK _ ?_)); clear hK K; refine w_false (t := false) kR rfl ?_
  refine aw_skip ?_
  refine xt_n (hK _ ?_); clear hK K; refine aw_seq_k fun K hK => wR 9 ?_
  refine aops_n hTT (M := []) (n := 7) [pv 45 (V.i 0), pv 46 (V.i (gi r i)), pv 47 (V.ref 200007 4), pc 48 ((4 : Nat) ≤ (5 : Nat)) (V.i (Prod.fst (gp l i) - Bl.core b)), pc 49 ((-9223372036854775808 : Int) ≤ gi r i + (Prod.fst (gp l i) - Bl.core b) ∧ gi r i + (Prod.fst (gp l i) - Bl.core b) ≤ (9223372036854775807 : Int)) (V.i (gi r i + (Prod.fst (gp l i) - Bl.core b))), pv 50 (V.b (decide ((0 : Int) ≤ gi r i + (Prod.fst (gp l i) - Bl.core b)))), pv 6 (V.b (decide ((0 : Int) ≤ gi r i + (Prod.fst (gp l i) - Bl.core b))))] kR kR ⟨oM, oM, tI⟩ ?_
  refine aops_nil (xt_n (hK _ ?_)); clear hK K
  refine aw_ret ?_
  refine ret_pure (v' := V.b (decide ((0 : Int) ≤ gi r i + (Prod.fst (gp l i) - Bl.core b)))) (.inr rfl) kR ?_ kR
  rw [decide_eq_true oM]
 ·
  simp at c1
set_option maxRecDepth 100000 in
theorem keep3_ac (h0 : 0 < i) : AC Tryz.prog 66 [.ptr (cuC b l r), .i 3, .i i] (.b true) [] := by
 obtain ⟨⟨q1, q2⟩, ⟨q3, q4⟩, ⟨q5, q6⟩, ⟨q7, q8⟩, ⟨q9, q10⟩, q11, q12⟩ := h.bl
 obtain ⟨⟨p1, p2⟩, p3, p4⟩ := h.pt i hi
 have hlen := h.len
 have r1 := hr i oM
 have k1 := (hc.1 i hi).2.1 h0
 have r2 := hr (i - 1) oM
 have ff : (slowE b i).f = i - 1 := rfl
 have ft : (slowE b i).t = i := rfl
 have fw : (slowE b i).w = -b.slow := rfl
 have g1 : gi r (slowE b i).f = gi r (i - 1) := rfl
 have g2 : gi r (slowE b i).t = gi r (i) := rfl
 have r3 := hr (slowE b i).f oM
 have r4 := hr (slowE b i).t oM
 refine acI hTT hMX Tryz.func66 Tryz.ntmps66 fun C hC hF => ?_
 refine aw_seq_k fun K hK => wR 2 ?_
 refine aops_n hTT (M := []) (n := 1) [pv 6 (V.b false)] kR kR tI ?_
 refine aops_nil (xt_n (hK _ ?_)); clear hK K; refine aw_seq_k fun K hK => wR 3 ?_
 refine aops_n hTT (M := []) (n := 6) [pv 12 (V.ptr [V.ptr [V.i (Bl.per b), V.i (Bl.rim b), V.i (Bl.core b), V.i (Bl.land b), V.i (Bl.slow b), V.i (Bl.fast b), V.sl 2 (List.length l) fun (k : Nat) => [V.i (Prod.fst (gp l k)), V.i (Prod.snd (gp l k))], V.i (Bl.per b)], V.sl 1 (List.length r) fun (k : Nat) => [V.i (gi r k)]]), pv 13 (V.ptr [V.ptr [V.i (Bl.per b), V.i (Bl.rim b), V.i (Bl.core b), V.i (Bl.land b), V.i (Bl.slow b), V.i (Bl.fast b), V.sl 2 (List.length l) fun (k : Nat) => [V.i (Prod.fst (gp l k)), V.i (Prod.snd (gp l k))], V.i (Bl.per b)], V.sl 1 (List.length r) fun (k : Nat) => [V.i (gi r k)]]), pv 14 (V.ptr [V.ptr [V.i (Bl.per b), V.i (Bl.rim b), V.i (Bl.core b), V.i (Bl.land b), V.i (Bl.slow b), V.i (Bl.fast b), V.sl 2 (List.length l) fun (k : Nat) => [V.i (Prod.fst (gp l k)), V.i (Prod.snd (gp l k))], V.i (Bl.per b)], V.sl 1 (List.length r) fun (k : Nat) => [V.i (gi r k)]]), pv 15 (V.ptr [V.i (Bl.per b), V.i (Bl.rim b), V.i (Bl.core b), V.i (Bl.land b), V.i (Bl.slow b), V.i (Bl.fast b), V.sl 2 (List.length l) fun (k : Nat) => [V.i (Prod.fst (gp l k)), V.i (Prod.snd (gp l k))], V.i (Bl.per b)]), pv 16 (V.i 3), pv 17 (V.i (↑i : Int))] kR kR tI ?_
 refine eC (edge3_ac b l h i hi h0) ?_
 refine aops_n hTT (M := []) (n := 6) [pv 11 (V.tup [V.agg [V.i (BE.rule (slowE b i)), V.i (BE.at' (slowE b i)), V.i (↑(BE.f (slowE b i)) : Int), V.i (↑(BE.t (slowE b i)) : Int), V.i (BE.w (slowE b i))], V.b true]), pv 19 (V.agg [V.i (BE.rule (slowE b i)), V.i (BE.at' (slowE b i)), V.i (↑(BE.f (slowE b i)) : Int), V.i (↑(BE.t (slowE b i)) : Int), V.i (BE.w (slowE b i))]), pv 20 (V.b true), pn 7 (V.ref 200007 0) (200007 : Nat) (Ob.box 202 [V.i 0, V.i 0, V.i 0, V.i 0, V.i 0]), pw ((0 : Nat) + (5 : Nat) ≤ (5 : Nat)) (200007 : Nat) (Ob.box 202 [V.i (BE.rule (slowE b i)), V.i (BE.at' (slowE b i)), V.i (↑(BE.f (slowE b i)) : Int), V.i (↑(BE.t (slowE b i)) : Int), V.i (BE.w (slowE b i))]), pv 8 (V.b true)] kR kR ⟨oM, tI⟩ ?_
 refine aops_nil (xt_n (hK _ ?_)); clear hK K; refine aw_seq_k fun K hK => ?_; refine aw_seq_k fun K hK => wR 4 ?_
 refine aops_n hTT (M := []) (n := 2) [pv 21 (V.b true), pv 22 (V.b false)] kR kR tI ?_
 refine aops_nil (xt_n (hK _ ?_)); clear hK K; refine w_false (t := false) kR rfl ?_
 refine aw_skip ?_
 refine xt_n (hK _ ?_); clear hK K; refine aw_seq_k fun K hK => wR 5 ?_
 refine aops_n hTT (M := []) (n := 2) [pv 9 (V.i 0), pv 10 (V.i 0)] kR kR tI ?_
 refine aops_nil (xt_n (hK _ ?_)); clear hK K; refine aw_seq_k fun K hK => ?_; refine aw_seq_k fun K hK => wR 6 ?_
 refine aops_n hTT (M := []) (n := 3) [pv 23 (V.ref 200007 2), pc 24 ((2 : Nat) ≤ (5 : Nat)) (V.i (↑(BE.f (slowE b i)) : Int)), pv 25 (V.b !decide ((↑(BE.f (slowE b i)) : Int) = (-1 : Int)))] kR kR ⟨oM, tI⟩ ?_
 refine aops_nil (xt_n (hK _ ?_)); clear hK K
 refine w_cond (t := !decide ((↑(BE.f (slowE b i)) : Int) = (-1 : Int))) kR (fun c1 => ?_) (fun c1 => ?_)
 ·
  refine wD 7 ?_
  refine aops_n hTT (M := []) (n := 9) [pv 26 (V.ptr [V.ptr [V.i (Bl.per b), V.i (Bl.rim b), V.i (Bl.core b), V.i (Bl.land b), V.i (Bl.slow b), V.i (Bl.fast b), V.sl 2 (List.length l) fun (k : Nat) => [V.i (Prod.fst (gp l k)), V.i (Prod.snd (gp l k))], V.i (Bl.per b)], V.sl 1 (List.length r) fun (k : Nat) => [V.i (gi r k)]]), pv 27 (V.ptr [V.ptr [V.i (Bl.per b), V.i (Bl.rim b), V.i (Bl.core b), V.i (Bl.land b), V.i (Bl.slow b), V.i (Bl.fast b), V.sl 2 (List.length l) fun (k : Nat) => [V.i (Prod.fst (gp l k)), V.i (Prod.snd (gp l k))], V.i (Bl.per b)], V.sl 1 (List.length r) fun (k : Nat) => [V.i (gi r k)]]), pv 28 (V.ptr [V.sl 1 (List.length r) fun (k : Nat) => [V.i (gi r k)]]), pv 29 (V.sl 1 (List.length r) fun (k : Nat) => [V.i (gi r k)]), pv 30 (V.ref 200007 2), pc 31 ((2 : Nat) ≤ (5 : Nat)) (V.i (↑(BE.f (slowE b i)) : Int)), pc 32 ((0 : Int) ≤ (↑(BE.f (slowE b i)) : Int) ∧ (↑(BE.f (slowE b i)) : Int) < (↑(List.length r) : Int)) (V.ptr [V.i (gi r (BE.f (slowE b i)))]), pv 33 (V.i (gi r (BE.f (slowE b i)))), pv 9 (V.i (gi r (BE.f (slowE b i))))] kR kR ⟨oM, oM, tI⟩ ?_
  refine aops_nil ⟨kR, ?_⟩; refine xt_n (hK _ ?_); clear hK K; refine aw_seq_k fun K hK => ?_; refine aw_seq_k fun K hK => wR 8 ?_
  refine aops_n hTT (M := []) (n := 3) [pv 34 (V.ref 200007 3), pc 35 ((3 : Nat) ≤ (5 : Nat)) (V.i (↑(BE.t (slowE b i)) : Int)), pv 36 (V.b !decide ((↑(BE.t (slowE b i)) : Int) = (-1 : Int)))] kR kR ⟨oM, tI⟩ ?_
  refine aops_nil (xt_n (hK _ ?_)); clear hK K
  refine w_cond (t := !decide ((↑(BE.t (slowE b i)) : Int) = (-1 : Int))) kR (fun c2 => ?_) (fun c2 => ?_)
  ·
   refine wD 9 ?_
   refine aops_n hTT (M := []) (n := 9) [pv 37 (V.ptr [V.ptr [V.i (Bl.per b), V.i (Bl.rim b), V.i (Bl.core b), V.i (Bl.land b), V.i (Bl.slow b), V.i (Bl.fast b), V.sl 2 (List.length l) fun (k : Nat) => [V.i (Prod.fst (gp l k)), V.i (Prod.snd (gp l k))], V.i (Bl.per b)], V.sl 1 (List.length r) fun (k : Nat) => [V.i (gi r k)]]), pv 38 (V.ptr [V.ptr [V.i (Bl.per b), V.i (Bl.rim b), V.i (Bl.core b), V.i (Bl.land b), V.i (Bl.slow b), V.i (Bl.fast b), V.sl 2 (List.length l) fun (k : Nat) => [V.i (Prod.fst (gp l k)), V.i (Prod.snd (gp l k))], V.i (Bl.per b)], V.sl 1 (List.length r) fun (k : Nat) => [V.i (gi r k)]]), pv 39 (V.ptr [V.sl 1 (List.length r) fun (k : Nat) => [V.i (gi r k)]]), pv 40 (V.sl 1 (List.length r) fun (k : Nat) => [V.i (gi r k)]), pv 41 (V.ref 200007 3), pc 42 ((3 : Nat) ≤ (5 : Nat)) (V.i (↑(BE.t (slowE b i)) : Int)), pc 43 ((0 : Int) ≤ (↑(BE.t (slowE b i)) : Int) ∧ (↑(BE.t (slowE b i)) : Int) < (↑(List.length r) : Int)) (V.ptr [V.i (gi r (BE.t (slowE b i)))]), pv 44 (V.i (gi r (BE.t (slowE b i)))), pv 10 (V.i (gi r (BE.t (slowE b i))))] kR kR ⟨oM, oM, tI⟩ ?_
   refine aops_nil ⟨kR, ?_⟩; refine xt_n (hK _ ?_); clear hK K; refine aw_seq_k fun K hK => wR 10 ?_
   refine aops_n hTT (M := []) (n := 7) [pv 45 (V.i (gi r (BE.t (slowE b i)))), pv 46 (V.i (gi r (BE.f (slowE b i)))), pv 47 (V.ref 200007 4), pc 48 ((4 : Nat) ≤ (5 : Nat)) (V.i (BE.w (slowE b i))), pc 49 ((-9223372036854775808 : Int) ≤ gi r (BE.f (slowE b i)) + BE.w (slowE b i) ∧ gi r (BE.f (slowE b i)) + BE.w (slowE b i) ≤ (9223372036854775807 : Int)) (V.i (gi r (BE.f (slowE b i)) + BE.w (slowE b i))), pv 50 (V.b (decide (gi r (BE.t (slowE b i)) ≤ gi r (BE.f (slowE b i)) + BE.w (slowE b i)))), pv 6 (V.b (decide (gi r (BE.t (slowE b i)) ≤ gi r (BE.f (slowE b i)) + BE.w (slowE b i))))] kR kR ⟨oM, oM, tI⟩ ?_
   refine aops_nil (xt_n (hK _ ?_)); clear hK K
   refine aw_ret ?_
   refine ret_pure (v' := V.b (decide (gi r (BE.t (slowE b i)) ≤ gi r (BE.f (slowE b i)) + BE.w (slowE b i)))) (.inr rfl) kR ?_ kR
   rw [decide_eq_true oM]
  ·
   simp at c2
 ·
  simp at c1
omit hc in
set_option maxRecDepth 100000 in
theorem keep3z_ac (h0 : i = 0) : AC Tryz.prog 66 [.ptr (cuC b l r), .i 3, .i i] (.b true) [] := by
 obtain ⟨⟨q1, q2⟩, ⟨q3, q4⟩, ⟨q5, q6⟩, ⟨q7, q8⟩, ⟨q9, q10⟩, q11, q12⟩ := h.bl
 obtain ⟨⟨p1, p2⟩, p3, p4⟩ := h.pt i hi
 have hlen := h.len
 have r1 := hr i oM
 refine acI hTT hMX Tryz.func66 Tryz.ntmps66 fun C hC hF => ?_
 refine aw_seq_k fun K hK => wR 2 ?_; refine aX hTT 1 [] tI ?_; refine aops_nil (xt_n (hK _ ?_)); clear hK K; refine aw_seq_k fun K hK => wR 3 ?_; refine aX hTT 6 [] tI ?_
 refine eC (edge3z_ac b l h i hi h0) ?_
 refine aX hTT 6 [(3, .r (pn 7 (V.ref 200007 0) (200007 : Nat) (Ob.box 202 [V.i 0, V.i 0, V.i 0, V.i 0, V.i 0]))), (4, .r (pw ((0 : Nat) + (5 : Nat) ≤ (5 : Nat)) (200007 : Nat) (Ob.box 202 [V.i 3, V.i (↑i : Int), V.i ((↑i : Int) - (1 : Int)), V.i (↑i : Int), V.i (-Bl.slow b)])))] ⟨oM, tI⟩ ?_; refine aops_nil (xt_n (hK _ ?_)); clear hK K; refine aw_seq_k fun K hK => ?_; refine aw_seq_k fun K hK => wR 4 ?_; refine aX hTT 2 [] tI ?_; refine aops_nil (xt_n (hK _ ?_)); clear hK K; refine w_true (t := true) kR rfl ?_; refine aw_seq_k fun K hK => wR 5 ?_; refine aX hTT 1 [] tI ?_; refine aops_nil (xt_n (hK _ ?_)); clear hK K
 refine aw_ret ?_
 refine xt_r ?_
 refine rP (V.b true)
set_option maxRecDepth 100000 in
theorem keep4_ac (h0 : 0 < i) : AC Tryz.prog 66 [.ptr (cuC b l r), .i 4, .i i] (.b true) [] := by
 obtain ⟨⟨q1, q2⟩, ⟨q3, q4⟩, ⟨q5, q6⟩, ⟨q7, q8⟩, ⟨q9, q10⟩, q11, q12⟩ := h.bl
 obtain ⟨⟨p1, p2⟩, p3, p4⟩ := h.pt i hi
 have hlen := h.len
 have r1 := hr i oM
 have k1 := (hc.1 i hi).2.1 h0
 have r2 := hr (i - 1) oM
 have ff : (fastE b i).f = i := rfl
 have ft : (fastE b i).t = i - 1 := rfl
 have fw : (fastE b i).w = b.fast := rfl
 have g1 : gi r (fastE b i).f = gi r (i) := rfl
 have g2 : gi r (fastE b i).t = gi r (i - 1) := rfl
 have r3 := hr (fastE b i).f oM
 have r4 := hr (fastE b i).t oM
 refine acI hTT hMX Tryz.func66 Tryz.ntmps66 fun C hC hF => ?_
 refine aw_seq_k fun K hK => wR 2 ?_
 refine aops_n hTT (M := []) (n := 1) [pv 6 (V.b false)] kR kR tI ?_
 refine aops_nil (xt_n (hK _ ?_)); clear hK K; refine aw_seq_k fun K hK => wR 3 ?_
 refine aops_n hTT (M := []) (n := 6) [pv 12 (V.ptr [V.ptr [V.i (Bl.per b), V.i (Bl.rim b), V.i (Bl.core b), V.i (Bl.land b), V.i (Bl.slow b), V.i (Bl.fast b), V.sl 2 (List.length l) fun (k : Nat) => [V.i (Prod.fst (gp l k)), V.i (Prod.snd (gp l k))], V.i (Bl.per b)], V.sl 1 (List.length r) fun (k : Nat) => [V.i (gi r k)]]), pv 13 (V.ptr [V.ptr [V.i (Bl.per b), V.i (Bl.rim b), V.i (Bl.core b), V.i (Bl.land b), V.i (Bl.slow b), V.i (Bl.fast b), V.sl 2 (List.length l) fun (k : Nat) => [V.i (Prod.fst (gp l k)), V.i (Prod.snd (gp l k))], V.i (Bl.per b)], V.sl 1 (List.length r) fun (k : Nat) => [V.i (gi r k)]]), pv 14 (V.ptr [V.ptr [V.i (Bl.per b), V.i (Bl.rim b), V.i (Bl.core b), V.i (Bl.land b), V.i (Bl.slow b), V.i (Bl.fast b), V.sl 2 (List.length l) fun (k : Nat) => [V.i (Prod.fst (gp l k)), V.i (Prod.snd (gp l k))], V.i (Bl.per b)], V.sl 1 (List.length r) fun (k : Nat) => [V.i (gi r k)]]), pv 15 (V.ptr [V.i (Bl.per b), V.i (Bl.rim b), V.i (Bl.core b), V.i (Bl.land b), V.i (Bl.slow b), V.i (Bl.fast b), V.sl 2 (List.length l) fun (k : Nat) => [V.i (Prod.fst (gp l k)), V.i (Prod.snd (gp l k))], V.i (Bl.per b)]), pv 16 (V.i 4), pv 17 (V.i (↑i : Int))] kR kR tI ?_
 refine eC (edge4_ac b l h i hi h0) ?_
 refine aops_n hTT (M := []) (n := 6) [pv 11 (V.tup [V.agg [V.i (BE.rule (fastE b i)), V.i (BE.at' (fastE b i)), V.i (↑(BE.f (fastE b i)) : Int), V.i (↑(BE.t (fastE b i)) : Int), V.i (BE.w (fastE b i))], V.b true]), pv 19 (V.agg [V.i (BE.rule (fastE b i)), V.i (BE.at' (fastE b i)), V.i (↑(BE.f (fastE b i)) : Int), V.i (↑(BE.t (fastE b i)) : Int), V.i (BE.w (fastE b i))]), pv 20 (V.b true), pn 7 (V.ref 200007 0) (200007 : Nat) (Ob.box 202 [V.i 0, V.i 0, V.i 0, V.i 0, V.i 0]), pw ((0 : Nat) + (5 : Nat) ≤ (5 : Nat)) (200007 : Nat) (Ob.box 202 [V.i (BE.rule (fastE b i)), V.i (BE.at' (fastE b i)), V.i (↑(BE.f (fastE b i)) : Int), V.i (↑(BE.t (fastE b i)) : Int), V.i (BE.w (fastE b i))]), pv 8 (V.b true)] kR kR ⟨oM, tI⟩ ?_
 refine aops_nil (xt_n (hK _ ?_)); clear hK K; refine aw_seq_k fun K hK => ?_; refine aw_seq_k fun K hK => wR 4 ?_
 refine aops_n hTT (M := []) (n := 2) [pv 21 (V.b true), pv 22 (V.b false)] kR kR tI ?_
 refine aops_nil (xt_n (hK _ ?_)); clear hK K; refine w_false (t := false) kR rfl ?_
 refine aw_skip ?_
 refine xt_n (hK _ ?_); clear hK K; refine aw_seq_k fun K hK => wR 5 ?_
 refine aops_n hTT (M := []) (n := 2) [pv 9 (V.i 0), pv 10 (V.i 0)] kR kR tI ?_
 refine aops_nil (xt_n (hK _ ?_)); clear hK K; refine aw_seq_k fun K hK => ?_; refine aw_seq_k fun K hK => wR 6 ?_
 refine aops_n hTT (M := []) (n := 3) [pv 23 (V.ref 200007 2), pc 24 ((2 : Nat) ≤ (5 : Nat)) (V.i (↑(BE.f (fastE b i)) : Int)), pv 25 (V.b !decide ((↑(BE.f (fastE b i)) : Int) = (-1 : Int)))] kR kR ⟨oM, tI⟩ ?_
 refine aops_nil (xt_n (hK _ ?_)); clear hK K
 refine w_cond (t := !decide ((↑(BE.f (fastE b i)) : Int) = (-1 : Int))) kR (fun c1 => ?_) (fun c1 => ?_)
 ·
  refine wD 7 ?_
  refine aops_n hTT (M := []) (n := 9) [pv 26 (V.ptr [V.ptr [V.i (Bl.per b), V.i (Bl.rim b), V.i (Bl.core b), V.i (Bl.land b), V.i (Bl.slow b), V.i (Bl.fast b), V.sl 2 (List.length l) fun (k : Nat) => [V.i (Prod.fst (gp l k)), V.i (Prod.snd (gp l k))], V.i (Bl.per b)], V.sl 1 (List.length r) fun (k : Nat) => [V.i (gi r k)]]), pv 27 (V.ptr [V.ptr [V.i (Bl.per b), V.i (Bl.rim b), V.i (Bl.core b), V.i (Bl.land b), V.i (Bl.slow b), V.i (Bl.fast b), V.sl 2 (List.length l) fun (k : Nat) => [V.i (Prod.fst (gp l k)), V.i (Prod.snd (gp l k))], V.i (Bl.per b)], V.sl 1 (List.length r) fun (k : Nat) => [V.i (gi r k)]]), pv 28 (V.ptr [V.sl 1 (List.length r) fun (k : Nat) => [V.i (gi r k)]]), pv 29 (V.sl 1 (List.length r) fun (k : Nat) => [V.i (gi r k)]), pv 30 (V.ref 200007 2), pc 31 ((2 : Nat) ≤ (5 : Nat)) (V.i (↑(BE.f (fastE b i)) : Int)), pc 32 ((0 : Int) ≤ (↑(BE.f (fastE b i)) : Int) ∧ (↑(BE.f (fastE b i)) : Int) < (↑(List.length r) : Int)) (V.ptr [V.i (gi r (BE.f (fastE b i)))]), pv 33 (V.i (gi r (BE.f (fastE b i)))), pv 9 (V.i (gi r (BE.f (fastE b i))))] kR kR ⟨oM, oM, tI⟩ ?_
  refine aops_nil ⟨kR, ?_⟩; refine xt_n (hK _ ?_); clear hK K; refine aw_seq_k fun K hK => ?_; refine aw_seq_k fun K hK => wR 8 ?_
  refine aops_n hTT (M := []) (n := 3) [pv 34 (V.ref 200007 3), pc 35 ((3 : Nat) ≤ (5 : Nat)) (V.i (↑(BE.t (fastE b i)) : Int)), pv 36 (V.b !decide ((↑(BE.t (fastE b i)) : Int) = (-1 : Int)))] kR kR ⟨oM, tI⟩ ?_
  refine aops_nil (xt_n (hK _ ?_)); clear hK K
  refine w_cond (t := !decide ((↑(BE.t (fastE b i)) : Int) = (-1 : Int))) kR (fun c2 => ?_) (fun c2 => ?_)
  ·
   refine wD 9 ?_
   refine aops_n hTT (M := []) (n := 9) [pv 37 (V.ptr [V.ptr [V.i (Bl.per b), V.i (Bl.rim b), V.i (Bl.core b), V.i (Bl.land b), V.i (Bl.slow b), V.i (Bl.fast b), V.sl 2 (List.length l) fun (k : Nat) => [V.i (Prod.fst (gp l k)), V.i (Prod.snd (gp l k))], V.i (Bl.per b)], V.sl 1 (List.length r) fun (k : Nat) => [V.i (gi r k)]]), pv 38 (V.ptr [V.ptr [V.i (Bl.per b), V.i (Bl.rim b), V.i (Bl.core b), V.i (Bl.land b), V.i (Bl.slow b), V.i (Bl.fast b), V.sl 2 (List.length l) fun (k : Nat) => [V.i (Prod.fst (gp l k)), V.i (Prod.snd (gp l k))], V.i (Bl.per b)], V.sl 1 (List.length r) fun (k : Nat) => [V.i (gi r k)]]), pv 39 (V.ptr [V.sl 1 (List.length r) fun (k : Nat) => [V.i (gi r k)]]), pv 40 (V.sl 1 (List.length r) fun (k : Nat) => [V.i (gi r k)]), pv 41 (V.ref 200007 3), pc 42 ((3 : Nat) ≤ (5 : Nat)) (V.i (↑(BE.t (fastE b i)) : Int)), pc 43 ((0 : Int) ≤ (↑(BE.t (fastE b i)) : Int) ∧ (↑(BE.t (fastE b i)) : Int) < (↑(List.length r) : Int)) (V.ptr [V.i (gi r (BE.t (fastE b i)))]), pv 44 (V.i (gi r (BE.t (fastE b i)))), pv 10 (V.i (gi r (BE.t (fastE b i))))] kR kR ⟨oM, oM, tI⟩ ?_
   refine aops_nil ⟨kR, ?_⟩; refine xt_n (hK _ ?_); clear hK K; refine aw_seq_k fun K hK => wR 10 ?_
   refine aops_n hTT (M := []) (n := 7) [pv 45 (V.i (gi r (BE.t (fastE b i)))), pv 46 (V.i (gi r (BE.f (fastE b i)))), pv 47 (V.ref 200007 4), pc 48 ((4 : Nat) ≤ (5 : Nat)) (V.i (BE.w (fastE b i))), pc 49 ((-9223372036854775808 : Int) ≤ gi r (BE.f (fastE b i)) + BE.w (fastE b i) ∧ gi r (BE.f (fastE b i)) + BE.w (fastE b i) ≤ (9223372036854775807 : Int)) (V.i (gi r (BE.f (fastE b i)) + BE.w (fastE b i))), pv 50 (V.b (decide (gi r (BE.t (fastE b i)) ≤ gi r (BE.f (fastE b i)) + BE.w (fastE b i)))), pv 6 (V.b (decide (gi r (BE.t (fastE b i)) ≤ gi r (BE.f (fastE b i)) + BE.w (fastE b i))))] kR kR ⟨oM, oM, tI⟩ ?_
   refine aops_nil (xt_n (hK _ ?_)); clear hK K
   refine aw_ret ?_
   refine ret_pure (v' := V.b (decide (gi r (BE.t (fastE b i)) ≤ gi r (BE.f (fastE b i)) + BE.w (fastE b i)))) (.inr rfl) kR ?_ kR
   rw [decide_eq_true oM]
  ·
   simp at c2
 ·
  simp at c1
omit hc in
set_option maxRecDepth 100000 in
theorem keep4z_ac (h0 : i = 0) : AC Tryz.prog 66 [.ptr (cuC b l r), .i 4, .i i] (.b true) [] := by
 obtain ⟨⟨q1, q2⟩, ⟨q3, q4⟩, ⟨q5, q6⟩, ⟨q7, q8⟩, ⟨q9, q10⟩, q11, q12⟩ := h.bl
 obtain ⟨⟨p1, p2⟩, p3, p4⟩ := h.pt i hi
 have hlen := h.len
 have r1 := hr i oM
 refine acI hTT hMX Tryz.func66 Tryz.ntmps66 fun C hC hF => ?_
 refine aw_seq_k fun K hK => wR 2 ?_; refine aX hTT 1 [] tI ?_; refine aops_nil (xt_n (hK _ ?_)); clear hK K; refine aw_seq_k fun K hK => wR 3 ?_; refine aX hTT 6 [] tI ?_
 refine eC (edge4z_ac b l h i hi h0) ?_
 refine aX hTT 6 [(3, .r (pn 7 (V.ref 200007 0) (200007 : Nat) (Ob.box 202 [V.i 0, V.i 0, V.i 0, V.i 0, V.i 0]))), (4, .r (pw ((0 : Nat) + (5 : Nat) ≤ (5 : Nat)) (200007 : Nat) (Ob.box 202 [V.i 4, V.i (↑i : Int), V.i (↑i : Int), V.i ((↑i : Int) - (1 : Int)), V.i (Bl.fast b)])))] ⟨oM, tI⟩ ?_; refine aops_nil (xt_n (hK _ ?_)); clear hK K; refine aw_seq_k fun K hK => ?_; refine aw_seq_k fun K hK => wR 4 ?_; refine aX hTT 2 [] tI ?_; refine aops_nil (xt_n (hK _ ?_)); clear hK K; refine w_true (t := true) kR rfl ?_; refine aw_seq_k fun K hK => wR 5 ?_; refine aX hTT 1 [] tI ?_; refine aops_nil (xt_n (hK _ ?_)); clear hK K
 refine aw_ret ?_
 refine xt_r ?_
 refine rP (V.b true)
set_option maxRecDepth 100000 in
theorem keep5_ac (h0 : b.per.toNat ≤ i) : AC Tryz.prog 66 [.ptr (cuC b l r), .i 5, .i i] (.b true) [] := by
 obtain ⟨⟨q1, q2⟩, ⟨q3, q4⟩, ⟨q5, q6⟩, ⟨q7, q8⟩, ⟨q9, q10⟩, q11, q12⟩ := h.bl
 obtain ⟨⟨p1, p2⟩, p3, p4⟩ := h.pt i hi
 have hlen := h.len
 have r1 := hr i oM
 have k1 := (hc.1 i hi).2.2 h0
 have r2 := hr (i - b.per.toNat) oM
 obtain ⟨⟨u1, u2⟩, u3, u4⟩ := h.pt (i - b.per.toNat) oM
 have ff : (landE b l i).f = i - b.per.toNat := rfl
 have ft : (landE b l i).t = i := rfl
 have fw : (landE b l i).w = (gp l (i - b.per.toNat)).1 - (gp l i).2 - b.land := rfl
 have g1 : gi r (landE b l i).f = gi r (i - b.per.toNat) := rfl
 have g2 : gi r (landE b l i).t = gi r (i) := rfl
 have r3 := hr (landE b l i).f oM
 have r4 := hr (landE b l i).t oM
 refine acI hTT hMX Tryz.func66 Tryz.ntmps66 fun C hC hF => ?_
 refine aw_seq_k fun K hK => wR 2 ?_
 refine aops_n hTT (M := []) (n := 1) [pv 6 (V.b false)] kR kR tI ?_
 refine aops_nil (xt_n (hK _ ?_)); clear hK K; refine aw_seq_k fun K hK => wR 3 ?_
 refine aops_n hTT (M := []) (n := 6) [pv 12 (V.ptr [V.ptr [V.i (Bl.per b), V.i (Bl.rim b), V.i (Bl.core b), V.i (Bl.land b), V.i (Bl.slow b), V.i (Bl.fast b), V.sl 2 (List.length l) fun (k : Nat) => [V.i (Prod.fst (gp l k)), V.i (Prod.snd (gp l k))], V.i (Bl.per b)], V.sl 1 (List.length r) fun (k : Nat) => [V.i (gi r k)]]), pv 13 (V.ptr [V.ptr [V.i (Bl.per b), V.i (Bl.rim b), V.i (Bl.core b), V.i (Bl.land b), V.i (Bl.slow b), V.i (Bl.fast b), V.sl 2 (List.length l) fun (k : Nat) => [V.i (Prod.fst (gp l k)), V.i (Prod.snd (gp l k))], V.i (Bl.per b)], V.sl 1 (List.length r) fun (k : Nat) => [V.i (gi r k)]]), pv 14 (V.ptr [V.ptr [V.i (Bl.per b), V.i (Bl.rim b), V.i (Bl.core b), V.i (Bl.land b), V.i (Bl.slow b), V.i (Bl.fast b), V.sl 2 (List.length l) fun (k : Nat) => [V.i (Prod.fst (gp l k)), V.i (Prod.snd (gp l k))], V.i (Bl.per b)], V.sl 1 (List.length r) fun (k : Nat) => [V.i (gi r k)]]), pv 15 (V.ptr [V.i (Bl.per b), V.i (Bl.rim b), V.i (Bl.core b), V.i (Bl.land b), V.i (Bl.slow b), V.i (Bl.fast b), V.sl 2 (List.length l) fun (k : Nat) => [V.i (Prod.fst (gp l k)), V.i (Prod.snd (gp l k))], V.i (Bl.per b)]), pv 16 (V.i 5), pv 17 (V.i (↑i : Int))] kR kR tI ?_
 refine eC (edge5_ac b l h i hi h0) ?_
 refine aops_n hTT (M := []) (n := 6) [pv 11 (V.tup [V.agg [V.i (BE.rule (landE b l i)), V.i (BE.at' (landE b l i)), V.i (↑(BE.f (landE b l i)) : Int), V.i (↑(BE.t (landE b l i)) : Int), V.i (BE.w (landE b l i))], V.b true]), pv 19 (V.agg [V.i (BE.rule (landE b l i)), V.i (BE.at' (landE b l i)), V.i (↑(BE.f (landE b l i)) : Int), V.i (↑(BE.t (landE b l i)) : Int), V.i (BE.w (landE b l i))]), pv 20 (V.b true), pn 7 (V.ref 200007 0) (200007 : Nat) (Ob.box 202 [V.i 0, V.i 0, V.i 0, V.i 0, V.i 0]), pw ((0 : Nat) + (5 : Nat) ≤ (5 : Nat)) (200007 : Nat) (Ob.box 202 [V.i (BE.rule (landE b l i)), V.i (BE.at' (landE b l i)), V.i (↑(BE.f (landE b l i)) : Int), V.i (↑(BE.t (landE b l i)) : Int), V.i (BE.w (landE b l i))]), pv 8 (V.b true)] kR kR ⟨oM, tI⟩ ?_
 refine aops_nil (xt_n (hK _ ?_)); clear hK K; refine aw_seq_k fun K hK => ?_; refine aw_seq_k fun K hK => wR 4 ?_
 refine aops_n hTT (M := []) (n := 2) [pv 21 (V.b true), pv 22 (V.b false)] kR kR tI ?_
 refine aops_nil (xt_n (hK _ ?_)); clear hK K; refine w_false (t := false) kR rfl ?_
 refine aw_skip ?_
 refine xt_n (hK _ ?_); clear hK K; refine aw_seq_k fun K hK => wR 5 ?_
 refine aops_n hTT (M := []) (n := 2) [pv 9 (V.i 0), pv 10 (V.i 0)] kR kR tI ?_
 refine aops_nil (xt_n (hK _ ?_)); clear hK K; refine aw_seq_k fun K hK => ?_; refine aw_seq_k fun K hK => wR 6 ?_
 refine aops_n hTT (M := []) (n := 3) [pv 23 (V.ref 200007 2), pc 24 ((2 : Nat) ≤ (5 : Nat)) (V.i (↑(BE.f (landE b l i)) : Int)), pv 25 (V.b !decide ((↑(BE.f (landE b l i)) : Int) = (-1 : Int)))] kR kR ⟨oM, tI⟩ ?_
 refine aops_nil (xt_n (hK _ ?_)); clear hK K
 refine w_cond (t := !decide ((↑(BE.f (landE b l i)) : Int) = (-1 : Int))) kR (fun c1 => ?_) (fun c1 => ?_)
 ·
  refine wD 7 ?_
  refine aops_n hTT (M := []) (n := 9) [pv 26 (V.ptr [V.ptr [V.i (Bl.per b), V.i (Bl.rim b), V.i (Bl.core b), V.i (Bl.land b), V.i (Bl.slow b), V.i (Bl.fast b), V.sl 2 (List.length l) fun (k : Nat) => [V.i (Prod.fst (gp l k)), V.i (Prod.snd (gp l k))], V.i (Bl.per b)], V.sl 1 (List.length r) fun (k : Nat) => [V.i (gi r k)]]), pv 27 (V.ptr [V.ptr [V.i (Bl.per b), V.i (Bl.rim b), V.i (Bl.core b), V.i (Bl.land b), V.i (Bl.slow b), V.i (Bl.fast b), V.sl 2 (List.length l) fun (k : Nat) => [V.i (Prod.fst (gp l k)), V.i (Prod.snd (gp l k))], V.i (Bl.per b)], V.sl 1 (List.length r) fun (k : Nat) => [V.i (gi r k)]]), pv 28 (V.ptr [V.sl 1 (List.length r) fun (k : Nat) => [V.i (gi r k)]]), pv 29 (V.sl 1 (List.length r) fun (k : Nat) => [V.i (gi r k)]), pv 30 (V.ref 200007 2), pc 31 ((2 : Nat) ≤ (5 : Nat)) (V.i (↑(BE.f (landE b l i)) : Int)), pc 32 ((0 : Int) ≤ (↑(BE.f (landE b l i)) : Int) ∧ (↑(BE.f (landE b l i)) : Int) < (↑(List.length r) : Int)) (V.ptr [V.i (gi r (BE.f (landE b l i)))]), pv 33 (V.i (gi r (BE.f (landE b l i)))), pv 9 (V.i (gi r (BE.f (landE b l i))))] kR kR ⟨oM, oM, tI⟩ ?_
  refine aops_nil ⟨kR, ?_⟩; refine xt_n (hK _ ?_); clear hK K; refine aw_seq_k fun K hK => ?_; refine aw_seq_k fun K hK => wR 8 ?_
  refine aops_n hTT (M := []) (n := 3) [pv 34 (V.ref 200007 3), pc 35 ((3 : Nat) ≤ (5 : Nat)) (V.i (↑(BE.t (landE b l i)) : Int)), pv 36 (V.b !decide ((↑(BE.t (landE b l i)) : Int) = (-1 : Int)))] kR kR ⟨oM, tI⟩ ?_
  refine aops_nil (xt_n (hK _ ?_)); clear hK K
  refine w_cond (t := !decide ((↑(BE.t (landE b l i)) : Int) = (-1 : Int))) kR (fun c2 => ?_) (fun c2 => ?_)
  ·
   refine wD 9 ?_
   refine aops_n hTT (M := []) (n := 9) [pv 37 (V.ptr [V.ptr [V.i (Bl.per b), V.i (Bl.rim b), V.i (Bl.core b), V.i (Bl.land b), V.i (Bl.slow b), V.i (Bl.fast b), V.sl 2 (List.length l) fun (k : Nat) => [V.i (Prod.fst (gp l k)), V.i (Prod.snd (gp l k))], V.i (Bl.per b)], V.sl 1 (List.length r) fun (k : Nat) => [V.i (gi r k)]]), pv 38 (V.ptr [V.ptr [V.i (Bl.per b), V.i (Bl.rim b), V.i (Bl.core b), V.i (Bl.land b), V.i (Bl.slow b), V.i (Bl.fast b), V.sl 2 (List.length l) fun (k : Nat) => [V.i (Prod.fst (gp l k)), V.i (Prod.snd (gp l k))], V.i (Bl.per b)], V.sl 1 (List.length r) fun (k : Nat) => [V.i (gi r k)]]), pv 39 (V.ptr [V.sl 1 (List.length r) fun (k : Nat) => [V.i (gi r k)]]), pv 40 (V.sl 1 (List.length r) fun (k : Nat) => [V.i (gi r k)]), pv 41 (V.ref 200007 3), pc 42 ((3 : Nat) ≤ (5 : Nat)) (V.i (↑(BE.t (landE b l i)) : Int)), pc 43 ((0 : Int) ≤ (↑(BE.t (landE b l i)) : Int) ∧ (↑(BE.t (landE b l i)) : Int) < (↑(List.length r) : Int)) (V.ptr [V.i (gi r (BE.t (landE b l i)))]), pv 44 (V.i (gi r (BE.t (landE b l i)))), pv 10 (V.i (gi r (BE.t (landE b l i))))] kR kR ⟨oM, oM, tI⟩ ?_
   refine aops_nil ⟨kR, ?_⟩; refine xt_n (hK _ ?_); clear hK K; refine aw_seq_k fun K hK => wR 10 ?_
   refine aops_n hTT (M := []) (n := 7) [pv 45 (V.i (gi r (BE.t (landE b l i)))), pv 46 (V.i (gi r (BE.f (landE b l i)))), pv 47 (V.ref 200007 4), pc 48 ((4 : Nat) ≤ (5 : Nat)) (V.i (BE.w (landE b l i))), pc 49 ((-9223372036854775808 : Int) ≤ gi r (BE.f (landE b l i)) + BE.w (landE b l i) ∧ gi r (BE.f (landE b l i)) + BE.w (landE b l i) ≤ (9223372036854775807 : Int)) (V.i (gi r (BE.f (landE b l i)) + BE.w (landE b l i))), pv 50 (V.b (decide (gi r (BE.t (landE b l i)) ≤ gi r (BE.f (landE b l i)) + BE.w (landE b l i)))), pv 6 (V.b (decide (gi r (BE.t (landE b l i)) ≤ gi r (BE.f (landE b l i)) + BE.w (landE b l i))))] kR kR ⟨oM, oM, tI⟩ ?_
   refine aops_nil (xt_n (hK _ ?_)); clear hK K
   refine aw_ret ?_
   refine ret_pure (v' := V.b (decide (gi r (BE.t (landE b l i)) ≤ gi r (BE.f (landE b l i)) + BE.w (landE b l i)))) (.inr rfl) kR ?_ kR
   rw [decide_eq_true oM]
  ·
   simp at c2
 ·
  simp at c1
omit hc in
set_option maxRecDepth 100000 in
theorem keep5z_ac (h0 : i < b.per.toNat) : AC Tryz.prog 66 [.ptr (cuC b l r), .i 5, .i i] (.b true) [] := by
 obtain ⟨⟨q1, q2⟩, ⟨q3, q4⟩, ⟨q5, q6⟩, ⟨q7, q8⟩, ⟨q9, q10⟩, q11, q12⟩ := h.bl
 obtain ⟨⟨p1, p2⟩, p3, p4⟩ := h.pt i hi
 have hlen := h.len
 have r1 := hr i oM
 refine acI hTT hMX Tryz.func66 Tryz.ntmps66 fun C hC hF => ?_
 refine aw_seq_k fun K hK => wR 2 ?_; refine aX hTT 1 [] tI ?_; refine aops_nil (xt_n (hK _ ?_)); clear hK K; refine aw_seq_k fun K hK => wR 3 ?_; refine aX hTT 6 [] tI ?_
 refine eC (edge5z_ac b l h i hi h0) ?_
 refine aX hTT 6 [(3, .r (pn 7 (V.ref 200007 0) (200007 : Nat) (Ob.box 202 [V.i 0, V.i 0, V.i 0, V.i 0, V.i 0]))), (4, .r (pw ((0 : Nat) + (5 : Nat) ≤ (5 : Nat)) (200007 : Nat) (Ob.box 202 [V.i 5, V.i (↑i : Int), V.i (↑i : Int), V.i (↑i : Int), V.i 0])))] ⟨oM, tI⟩ ?_; refine aops_nil (xt_n (hK _ ?_)); clear hK K; refine aw_seq_k fun K hK => ?_; refine aw_seq_k fun K hK => wR 4 ?_; refine aX hTT 2 [] tI ?_; refine aops_nil (xt_n (hK _ ?_)); clear hK K; refine w_true (t := true) kR rfl ?_; refine aw_seq_k fun K hK => wR 5 ?_; refine aX hTT 1 [] tI ?_; refine aops_nil (xt_n (hK _ ?_)); clear hK K
 refine aw_ret ?_
 refine xt_r ?_
 refine rP (V.b true)
theorem keep_ac (j : Nat) (hj : j < 5) : AC Tryz.prog 66 [.ptr (cuC b l r), .i ((j + 1 : Nat) : Int), .i i] (.b true) [] := by
 rcases (by omega : j = 0 ∨ j = 1 ∨ j = 2 ∨ j = 3 ∨ j = 4) with rfl | rfl | rfl | rfl | rfl
 ·
  exact keep1_ac b l h r hl hr hc i hi
 ·
  exact keep2_ac b l h r hl hr hc i hi
 ·
  by_cases h0 : 0 < i
  ·
   exact keep3_ac b l h r hl hr hc i hi h0
  ·
   exact keep3z_ac b l h r hl hr i hi oM
 ·
  by_cases h0 : 0 < i
  ·
   exact keep4_ac b l h r hl hr hc i hi h0
  ·
   exact keep4z_ac b l h r hl hr i hi oM
 ·
  by_cases h0 : b.per.toNat ≤ i
  ·
   exact keep5_ac b l h r hl hr hc i hi h0
  ·
   exact keep5z_ac b l h r hl hr i hi oM
set_option maxRecDepth 100000 in
theorem chk1_ac (j : Nat) (hj : j < 5) : AC Tryz.prog 65 [.agg [.i ((j + 1 : Nat) : Int), .i i], .ptr [.ptr (cuC b l r)]] (.b false) [] := by
 have A := keep_ac b l h r hl hr hc i hi j hj
 refine acI hTT hMX Tryz.func65 Tryz.ntmps65 fun C hC hF => ?_
 refine aw_seq_k fun K hK => wR 2 ?_; refine aX hTT 2 [] tI ?_; refine aops_nil (xt_n (hK _ ?_)); clear hK K; refine aw_seq_k fun K hK => wR 3 ?_; refine aX hTT 5 [] tI ?_
 refine eC (A) ?_
 refine aX hTT 2 [] tI ?_; refine aops_nil (xt_n (hK _ ?_)); clear hK K
 refine aw_ret ?_
 refine rP (V.b false)
end
def stepsV (n : Nat) : List (List V) := (List.range (5 * n)).map fun m => [.agg [.i ((m % 5 + 1 : Nat) : Int), .i ((m / 5 : Nat) : Int)]]
theorem stepsV_len (n : Nat) : (stepsV n).length = 5 * n := by simp [stepsV]
theorem stepsV_get {n i j : Nat} (hi : i < n) (hj : j < 5) : (stepsV n)[5 * i + j]? = some [.agg [.i ((j + 1 : Nat) : Int), .i (i : Int)]] := by
 unfold stepsV
 rw [List.getElem?_map, List.getElem?_range oM]
 have e1 : (5 * i + j) % 5 = j := by omega
 have e2 : (5 * i + j) / 5 = i := by omega
 simp only [Option.map_some, e1, e2]
set_option maxRecDepth 100000 in
theorem steps_it (b : Bl) (l : List Pt) (h : SOk b l) : AIt Tryz.prog 113 [.ptr [.ptr (sdC b l)]] (stepsV l.length) := by
 have hl := h.len
 refine ait_intro hTT hMX (fn := Tryz.f113) (N := _) ⟨Tryz.func113, rfl, Tryz.ntmps113, kR⟩ rfl (by simp) fun C Y hC => ?_
 rw [stepsV_len]
 refine awj_seq_a hC fun K hK => ?_
 refine wR 2 ?_; refine aX hTT 6 [] tI ?_; refine aops_nil (xt_n (hK _ ?_)); clear hK K
 refine awj_block ?_
 refine awj_loop (ι := Nat) (fun i => ⟨mkT [(0, .c (.func (.yield Y.l) #[] #[])), (1, .ptr [.ptr (sdC b l)]), (9, .i l.length), (10, .i i)], mkS [], 1⟩) (fun i => 5 * i) (fun i => i ≤ l.length) (fun i => l.length - i) 0 (Nat.zero_le _) ?_ rfl ?_
 ·
  refine le_ren [] (.cons kR (.cons kR (.cons kR (.cons kR .nil)))) .nil kR kR
 intro i hi
 refine awj_seq_a hC fun K hK => ?_
 refine wR 2 ?_; refine aX hTT 1 [] tI ?_; refine aops_nil (xt_n (hK _ ?_)); clear hK K
 refine awj_seq_a hC fun K hK => ?_
 refine w_cond (t := decide ((↑i : Int) < (↑(List.length l) : Int))) kR (fun c1 => ?_) (fun c1 => ?_)
 ·
  have h1 : i < l.length := by simpa using c1
  refine aw_skip ?_
  refine xt_n (hK _ ?_); clear hK K
  refine awj_seq ?_
  refine awj_block ?_
  refine awj_seq_a hC fun K hK => ?_
  refine wR 3 ?_; refine aX hTT 2 [] tI ?_; refine aops_nil (xt_n (hK _ ?_)); clear hK K
  refine awj_seq_a hC fun K hK => ?_
  refine wR 4 ?_; refine aX hTT 1 [] tI ?_; refine aops_nil (xt_n (hK _ ?_)); clear hK K
  refine awj_block ?_
  refine awj_loop (ι := Nat) (fun j => ⟨mkT [(0, .c (.func (.yield Y.l) #[] #[])), (1, .ptr [.ptr (sdC b l)]), (3, .i i), (4, .i ((j + 1 : Nat) : Int)), (9, .i l.length), (10, .i i)], mkS [], 1⟩) (fun j => 5 * i + j) (fun j => j ≤ 5) (fun j => 5 - j) 0 (by decide) ?_ rfl ?_
  ·
   refine le_ren [] (.cons kR (.cons kR (.cons kR (.cons kR (.cons kR (.cons kR .nil)))))) .nil kR kR
  intro j hj
  refine awj_seq_a hC fun K hK => ?_
  refine aw_seq_k fun K hK => wR 2 ?_; refine aX hTT 2 [] tI ?_; refine aops_nil (xt_n (hK _ ?_)); clear hK K
  refine w_cond (t := decide ((↑(j + (1 : Nat)) : Int) ≤ (5 : Int))) kR (fun c2 => ?_) (fun c2 => ?_)
  ·
   have h2 : j < 5 := by simp at c2; omega
   refine aw_skip ?_
   refine xt_n (hK _ ?_); clear hK K
   refine awj_seq ?_
   refine awj_block ?_
   refine awj_seq (awj_yield hC 4 kR rfl ?_)
   refine aX hTT 4 [] tI ?_; refine aops_nil ?_
   refine ⟨kR, ⟨_, stepsV_get h1 h2, RImp.refl _, trivial⟩, rfl, ?_, ?_⟩
   ·
    refine aX hTT 1 [] tI ?_
    refine aops_nil ?_
    refine xjt_n ?_
    refine awj_cond (t := false) kR (fun h => by cases h) (fun _ => ?_)
    refine awj_skip ?_
    refine xjb_n ?_
    refine xjt_n ?_
    refine awj_aw hC ?_
    refine wR 4 ?_; refine aX hTT 3 [(1, .i ((↑(j + (1 : Nat)) : Int) + (1 : Int)))] ⟨oM, tI⟩ ?_; refine aops_nil ?_
    refine xjt_n ?_
    refine ⟨rfl, j + 1, by omega, ?_, by omega, by omega⟩
    refine le_ren [] (.cons kR (.cons kR (.cons kR (.cons kR (.cons kR (.cons kR .nil)))))) .nil kR kR
   ·
    refine aX hTT 1 [] tI ?_
    refine aops_nil ?_
    refine xjt_n ?_
    refine awj_cond (t := true) kR (fun _ => ?_) (fun h => by cases h)
    refine awj_ret ?_
    refine xjb_r ?_
    refine xjt_r ?_
    refine xjt_r ?_
    refine xjb_r ?_
    refine xjb_r ?_
    refine xjt_r ?_
    refine xjt_r ?_
    refine xjb_r ?_
    exact ⟨.inr rfl, fun h => (by cases h), fun _ => by omega⟩
  ·
   have h2 : j = 5 := by simp at c2; omega
   refine aw_exit ?_
   refine xt_x ?_
   refine xjt_x ?_
   refine xjb_same ?_
   refine xjb_n ?_
   refine xjt_n ?_
   refine awj_aw hC ?_
   refine wR 3 ?_; refine aX hTT 2 [(0, .i ((↑i : Int) + (1 : Int)))] ⟨oM, tI⟩ ?_; refine aops_nil ?_
   refine xjt_n ?_
   refine ⟨rfl, i + 1, by omega, ?_, by omega, by omega⟩
   refine le_ren [] (.cons kR (.cons kR (.cons kR (.cons kR .nil)))) .nil kR kR
 ·
  have h1 : i = l.length := by simp at c1; omega
  refine aw_exit ?_
  refine xt_x ?_
  refine xjt_x ?_
  refine xjb_same ?_
  exact ⟨.inl rfl, fun _ => by omega, fun h => by cases h⟩
set_option maxRecDepth 100000 in
theorem steps_ac (b : Bl) (l : List Pt) : AC Tryz.prog 64 [.ptr (sdC b l)] (.fn (.func 113) [] [.ptr [.ptr (sdC b l)]]) [] := by
 refine acI hTT hMX Tryz.func64 Tryz.ntmps64 fun C hC hF => ?_
 refine aw_seq_k fun K hK => wR 2 ?_; refine aX hTT 2 [] tI ?_; refine aops_nil (xt_n (hK _ ?_)); clear hK K; refine aw_seq_k fun K hK => wR 3 ?_; refine aX hTT 2 [] tI ?_; refine aops_nil (xt_n (hK _ ?_)); clear hK K
 refine aw_ret ?_
 refine rP (V.fn (Fn.func (113 : Nat)) [] [V.ptr [V.ptr [V.i (Bl.per b), V.i (Bl.rim b), V.i (Bl.core b), V.i (Bl.land b), V.i (Bl.slow b), V.i (Bl.fast b), V.sl 2 (List.length l) fun (k : Nat) => [V.i (Prod.fst (gp l k)), V.i (Prod.snd (gp l k))], V.i (Bl.per b)]]])
abbrev yyTL81 (b : Bl) (l : List Pt) : List V := [V.i (Bl.per b), V.i (Bl.rim b), V.i (Bl.core b), V.i (Bl.land b), V.i (Bl.slow b), V.i (Bl.fast b), V.sl 2 (List.length l) fun (k : Nat) => [V.i (Prod.fst (gp l k)), V.i (Prod.snd (gp l k))], V.i (Bl.per b)]
set_option maxRecDepth 100000 in
theorem firstOf_ac (b : Bl) (l : List Pt) (h : SOk b l) (r : List Int) (hl : r.length = l.length) (hr : RBd r) (hc : LCut b l (gi r)) : AC Tryz.prog 63 [.fn (.func 113) [] [.ptr [.ptr (sdC b l)]], .fn (.func 65) [] [.ptr [.ptr (cuC b l r)]]] (.tup [.agg [.i 0, .i 0], .b false]) [] := by
 have hlen := h.len
 refine acI hTT hMX Tryz.func63 Tryz.ntmps63 fun C hC hF => ?_
 refine aw_seq_k fun K hK => wR 2 ?_; refine aX hTT 3 [(1, .r (pn 4 (V.ref 100004 0) (100004 : Nat) (Ob.box 149 [V.i 0, V.i 0]))), (2, .r (pn 5 (V.ref 100005 0) (100005 : Nat) (Ob.box 4 [V.b false])))] tI ?_; refine aops_nil (xt_n (hK _ ?_)); clear hK K; refine aw_seq_k fun K hK => ?_; refine aw_seq_k fun K hK => wR 3 ?_; refine aX hTT 1 [] tI ?_; refine aops_nil (xt_n (hK _ ?_)); clear hK K
 refine aw_block ?_
 refine w_rangeI (caps := [V.ptr [V.ptr (yyTL81 b l)]]) hF hC ((steps_it b l h)) kR kR ?_ kR [500, 501] [(500, 100004), (501, 100005)] [(3, .ptr [.fn (.func 65) [] [.ptr [.ptr (cuC b l r)]]]), (4, .ref 500 0), (5, .ref 501 0)] (fun _ => True) (fun _ => [.box 149 [.i 0, .i 0], .box 4 [.b false]]) (fun _ _ _ => False) ?_ kR kR kR (.cons kR (.cons kR (.cons kR .nil))) (.cons ⟨Ob.box 149 [V.i 0, V.i 0], kR, .box kR⟩ (.cons ⟨Ob.box 4 [V.b false], kR, .box kR⟩ .nil)) kR ?_ ?_ ?_ ?_ ?_
 ·
  intro x hx
  simp only [stepsV, List.mem_map] at hx
  obtain ⟨j, _, rfl⟩ := hx
  rfl
 ·
  trivial
 ·
  intro j o ho
  simp at ho
  rcases ho with rfl | rfl <;> rfl
 ·
  intro k e sx hf
  exact hf.elim
 ·
  rintro C' ⟨lx, hF'⟩ m x hx _
  obtain ⟨i, j, hi, hj, rfl⟩ : ∃ i j, i < l.length ∧ j < 5 ∧ x = [.agg [.i ((j + 1 : Nat) : Int), .i (i : Int)]] := by
   have hm : m < (stepsV l.length).length := (List.getElem?_eq_some_iff.1 hx).1
   rw [stepsV_len] at hm
   have h5 := stepsV_get (n := l.length) (i := m / 5) (j := m % 5) oM oM
   rw [show 5 * (m / 5) + m % 5 = m by omega, hx] at h5
   exact ⟨m / 5, m % 5, by omega, by omega, Option.some.inj h5⟩
  refine wR 2 ?_; refine aX hTT 2 [(0, .r (pn 6 (V.ref 100006 0) (100006 : Nat) (Ob.box 149 [V.i 0, V.i 0]))), (1, .r (pw ((0 : Nat) + (2 : Nat) ≤ (2 : Nat)) (100006 : Nat) (Ob.box 149 [V.i (↑(j + (1 : Nat)) : Int), V.i (↑i : Int)])))] ⟨oM, tI⟩ ?_; refine aops_nil ?_; refine xt_n ?_
  refine aw_block ?_
  refine aw_seq_k fun K hK => wR 3 ?_; refine aX hTT 2 [(1, .c ((0 : Nat) ≤ (2 : Nat)))] ⟨oM, tI⟩ ?_
  refine e_call (first := []) (caps := [V.ptr [V.ptr [V.ptr (yyTL81 b l), V.sl 1 (List.length r) fun (k : Nat) => [V.i (gi r k)]]]]) (chk1_ac b l h r hl hr hc i hi j hj) kR kR kR kR kR ?_
  refine aops_nil (xt_n (hK _ ?_)); clear hK K; refine w_false (t := false) kR rfl ?_
  refine aw_skip ?_
  refine xb_n ?_
  refine ⟨trivial, ?_⟩
  refine le_ren (sl := [(500, Ob.box 149 [V.i 0, V.i 0]), (501, Ob.box 4 [V.b false])]) [] .nil (.cons ⟨Ob.box 149 [V.i 0, V.i 0], kR, .box kR⟩ (.cons ⟨Ob.box 4 [V.b false], kR, .box kR⟩ .nil)) kR kR
 ·
  intro _
  refine xb_n ?_; refine xt_n (hK _ ?_); clear hK K; refine aw_seq_k fun K hK => wR 2 ?_; refine aX hTT 3 [(0, .c ((0 : Nat) ≤ (2 : Nat))), (1, .r (pw ((0 : Nat) + (2 : Nat) ≤ (2 : Nat)) (500 : Nat) (Ob.box 149 [V.i 0, V.i 0]))), (2, .r (pw ((0 : Nat) + (1 : Nat) ≤ (1 : Nat)) (501 : Nat) (Ob.box 4 [V.b false])))] ⟨oM, oM, oM, tI⟩ ?_; refine aops_nil (xt_n (hK _ ?_)); clear hK K
  refine aw_ret ?_
  refine rP (V.tup [V.agg [V.i 0, V.i 0], V.b false])
 ·
  intro k e sx _ hf
  exact hf.elim
abbrev yyTL82 (b : Bl) (l : List Pt) (r : List Int) : List V := [V.ptr [V.ptr (yyTL81 b l), V.sl 1 (List.length r) fun (k : Nat) => [V.i (gi r k)]]]
set_option maxRecDepth 100000 in
theorem CheckCut_ac (b : Bl) (l : List Pt) (h : SOk b l) (r : List Int) (hl : r.length = l.length) (hr : RBd r) (hc : LCut b l (gi r)) : AC Tryz.prog 22 [b.v, V.pts l, V.ints r] (.tup [.i 0, .i 0, .i 0]) [] := by
 refine acI hTT hMX Tryz.func22 Tryz.ntmps22 fun C hC hF => ?_
 refine aw_seq_k fun K hK => wR 2 ?_; refine aX hTT 4 [] tI ?_; refine aops_nil (xt_n (hK _ ?_)); clear hK K; refine aw_seq_k fun K hK => wR 3 ?_; refine aX hTT 3 [] tI ?_
 refine eC (newCut_ac b l h r hl hr) ?_
 refine aX hTT 6 [(3, .r (pn 9 (V.ref 200009 0) (200009 : Nat) (Ob.box 133 [V.c (Value.pointer none)]))), (4, .r (pw ((0 : Nat) + (1 : Nat) ≤ (1 : Nat)) (200009 : Nat) (Ob.box 133 (yyTL82 b l r))))] ⟨oM, tI⟩ ?_; refine aops_nil (xt_n (hK _ ?_)); clear hK K; refine aw_seq_k fun K hK => ?_; refine aw_seq_k fun K hK => ?_
 refine w_le (le_freezeBox (t := (133 : Nat)) (cs := (yyTL82 b l r)) 200009 kR kR) ?_
 refine wR 4 ?_; refine aX hTT 2 [] tI ?_; refine aops_nil (xt_n (hK _ ?_)); clear hK K; refine w_false (t := false) kR rfl ?_
 refine aw_skip ?_
 refine xt_n (hK _ ?_); clear hK K; refine aw_seq_k fun K hK => ?_; refine aw_seq_k fun K hK => wR 5 ?_; refine aX hTT 4 [] tI ?_
 refine eC (steps_ac b l) ?_
 refine aX hTT 1 [] tI ?_
 refine eC (firstOf_ac b l h r hl hr hc) ?_
 refine aX hTT 6 [(3, .r (pn 11 (V.ref 400011 0) (400011 : Nat) (Ob.box 149 [V.i 0, V.i 0]))), (4, .r (pw ((0 : Nat) + (2 : Nat) ≤ (2 : Nat)) (400011 : Nat) (Ob.box 149 [V.i 0, V.i 0])))] ⟨oM, tI⟩ ?_; refine aops_nil (xt_n (hK _ ?_)); clear hK K; refine aw_seq_k fun K hK => wR 6 ?_; refine aX hTT 1 [] tI ?_; refine aops_nil (xt_n (hK _ ?_)); clear hK K; refine w_false (t := false) kR rfl ?_
 refine aw_skip ?_
 refine xt_n (hK _ ?_); clear hK K; refine aw_seq_k fun K hK => wR 7 ?_; refine aX hTT 3 [] tI ?_; refine aops_nil (xt_n (hK _ ?_)); clear hK K
 refine aw_ret ?_
 refine rP (V.tup [V.i 0, V.i 0, V.i 0])
end Go.Proofs.YtplnhbenmgclfaaGreatDoor

namespace Go.Proofs.YtplnhbenmgclfaaGreatDoor
open Go.Ab Go.RowKit Go.Dw Go.Shelf
theorem gMul {a b m n : Int} (ha : -m ≤ a ∧ a ≤ m) (hb : -n ≤ b ∧ b ≤ n) : -(m * n) ≤ a * b ∧ a * b ≤ m * n := by
 have h1 : 0 ≤ (m - a) * (n + b) := Int.mul_nonneg oM oM
 have h2 : 0 ≤ (m + a) * (n - b) := Int.mul_nonneg oM oM
 have h3 : 0 ≤ (m - a) * (n - b) := Int.mul_nonneg oM oM
 have h4 : 0 ≤ (m + a) * (n + b) := Int.mul_nonneg oM oM
 simp only [Int.sub_mul, Int.add_mul, Int.mul_add, Int.mul_sub] at h1 h2 h3 h4
 omega
theorem gTd {x m M : Int} (hm : 0 < m) (h : -(M * m) ≤ x ∧ x ≤ M * m) : -M ≤ x.tdiv m ∧ x.tdiv m ≤ M := by
 by_cases hx : 0 ≤ x
 ·
  rw [Int.tdiv_eq_ediv_of_nonneg hx]
  have h1 := Int.ediv_nonneg hx (Int.le_of_lt hm)
  have h2 : x / m ≤ M := by
   have := Int.ediv_le_ediv hm h.2
   rwa [Int.mul_ediv_cancel _ oM] at this
  omega
 ·
  have e : x.tdiv m = -((-x) / m) := by
   have := Int.neg_tdiv (a := -x) (b := m)
   rw [Int.neg_neg] at this
   rw [this, Int.tdiv_eq_ediv_of_nonneg oM]
  have h1 := Int.ediv_nonneg (a := -x) (b := m) oM oM
  have h2 : (-x) / m ≤ M := by
   have := Int.ediv_le_ediv hm (show -x ≤ M * m by omega)
   rwa [Int.mul_ediv_cancel _ oM] at this
  omega
def chE (g n : Int) : Int := (n * g).tdiv 1000
def wallP (c : Cut) (s : Pt) : Pt := (chE c.gain s.2 - c.half, chE c.gain s.1 + c.half)
theorem chE_bd {g n : Int} (hg : 0 ≤ g ∧ g ≤ 100000) (hn : -32768 ≤ n ∧ n ≤ 32768) : -3276800 ≤ chE g n ∧ chE g n ≤ 3276800 := by
 have := gMul (m := 32768) (n := 100000) hn ⟨by omega, hg.2⟩
 exact gTd (by decide) oM
def cutR (c : Cut) (s : List Pt) : List Pt × Int := if cutE c = 0 then (if sChk s = 0 then (s.map (wallP c), 0) else ([], sChk s)) else ([], cutE c)
theorem cutR_1 {c : Cut} {s : List Pt} (h : ¬ cutE c = 0) : cutR c s = ([], cutE c) := by rw [cutR, if_neg h]
theorem cutR_2 {c : Cut} {s : List Pt} (h : cutE c = 0) (h2 : ¬ sChk s = 0) : cutR c s = ([], sChk s) := by rw [cutR, if_pos h, if_neg h2]
theorem cutR_3 {c : Cut} {s : List Pt} (h : cutE c = 0) (h2 : sChk s = 0) : cutR c s = (s.map (wallP c), 0) := by rw [cutR, if_pos h, if_pos h2]
theorem gp_map {f : Pt → Pt} {l : List Pt} {k : Nat} (h : k < l.length) : gp (l.map f) k = f (gp l k) := by
 simp [gp, List.getD_eq_getElem?_getD, List.getElem?_eq_getElem h]
theorem gp_out {l : List Pt} {k : Nat} (h : l.length ≤ k) : gp l k = (0, 0) := by
 simp [gp, List.getD_eq_getElem?_getD, List.getElem?_eq_none h]
theorem wallP_gE {c : Cut} {s : Pt} (hc : cutE c = 0) (hs : sE s = true) : gE (wallP c s) = true := by
 obtain ⟨⟨a1, a2⟩, ⟨b1, b2⟩, _⟩ := cutE_ok.1 hc
 obtain ⟨h1, h2⟩ := sE_iff.1 hs
 have e1 := chE_bd (n := s.1) ⟨b1, b2⟩ oM
 have e2 := chE_bd (n := s.2) ⟨b1, b2⟩ oM
 rw [gE_iff]
 show (-4194304 ≤ chE c.gain s.2 - c.half ∧ _) ∧ -4194304 ≤ chE c.gain s.1 + c.half ∧ _
 simp only [wallP]
 omega
end Go.Proofs.YtplnhbenmgclfaaGreatDoor

namespace Go.Proofs.YtplnhbenmgclfaaGreatDoor
open Go.Ab Go.RowKit Go.Dw Go.Shelf
def inR2 (p : Pt) : Prop := inR .i64 p.1 ∧ inR .i64 p.2
set_option maxRecDepth 100000 in
theorem rCheckSamples_ac (l : List Pt) (hl : l.length ≤ 4611686018427387904) (hr : ∀ k, k < l.length → inR2 (gp l k)) : AC Tryz.prog 29 [V.pts l] (.i (sChk l)) [] := by
 refine acI hTT hMX Tryz.func29 Tryz.ntmps29 fun C hC hF => ?_
 refine aw_seq_k fun K hK => wR 2 ?_; refine aX hTT 1 [] tI ?_; refine aops_nil (xt_n (hK _ ?_)); clear hK K; refine aw_seq_k fun K hK => ?_; refine aw_seq_k fun K hK => wR 3 ?_; refine aX hTT 3 [] tI ?_; refine aops_nil (xt_n (hK _ ?_)); clear hK K
 refine w_cond (t := decide ((4096 : Int) < (↑(List.length l) : Int))) kR (fun c1 => ?_) (fun c1 => ?_)
 ·
  simp at c1
  refine aw_seq_k fun K hK => wR 4 ?_; refine aX hTT 1 [] tI ?_; refine aops_nil (xt_n (hK _ ?_)); clear hK K
  refine aw_ret ?_
  refine xt_r ?_
  rw [sChk_many oM]
  refine rP (V.i 6)
 simp at c1
 refine aw_skip ?_
 refine xt_n (hK _ ?_); clear hK K; refine aw_seq_k fun K hK => ?_; refine aw_seq_k fun K hK => wR 4 ?_; refine aX hTT 1 [] tI ?_; refine aops_nil (xt_n (hK _ ?_)); clear hK K
 refine aw_block ?_
 refine w_loop (ι := Nat) (fun k => [(0, V.pts l), (3, .i k)]) (fun _ => []) (fun k => k ≤ l.length ∧ ∀ j, j < k → sE (gp l j) = true) (fun k => l.length - k) 0 ⟨Nat.zero_le _, fun j hj => by omega⟩ ?_ ?_
 ·
  refine le_ren [] (.cons kR (.cons kR .nil)) .nil kR kR
 rintro k ⟨hk, hj⟩
 refine aw_seq_k fun K hK => ?_; refine aw_seq_k fun K hK => wR 2 ?_; refine aX hTT 4 [] tI ?_; refine aops_nil (xt_n (hK _ ?_)); clear hK K
 refine w_cond (t := decide ((↑k : Int) < (↑(List.length l) : Int))) kR (fun c2 => ?_) (fun c2 => ?_)
 ·
  simp at c2
  obtain ⟨r1, r2⟩ := hr k oM
  refine aw_skip ?_
  refine xt_n (hK _ ?_); clear hK K; refine aw_seq_k fun K hK => ?_
  refine aw_block ?_
  refine aw_seq_k fun K hK => wR 3 ?_; refine aX hTT 4 [(2, .c ((0 : Int) ≤ (↑k : Int) ∧ (↑k : Int) < (↑(List.length l) : Int)))] ⟨oM, tI⟩ ?_
  refine eC (rValid_ac (gp l k) r1 r2) ?_
  refine aX hTT 1 [] tI ?_; refine aops_nil (xt_n (hK _ ?_)); clear hK K
  refine w_cond (t := !sE (gp l k)) kR (fun c3 => ?_) (fun c3 => ?_)
  ·
   refine aw_seq_k fun K hK => ?_
   refine wR 4 ?_; refine aX hTT 1 [] tI ?_; refine aops_nil (xt_n (hK _ ?_)); clear hK K
   refine aw_ret ?_
   refine xb_r ?_
   refine xt_r ?_; refine xt_r ?_
   refine xb_r ?_
   refine xt_r ?_
   rw [sChk_bad oM oM (by simpa using c3)]
   refine rP (V.i 2)
  refine aw_skip ?_
  refine xb_n ?_; refine xt_n (hK _ ?_); clear hK K; refine wR 4 ?_; refine aX hTT 3 [(1, .i ((↑k : Int) + (1 : Int)))] ⟨oM, tI⟩ ?_; refine aops_nil ?_; refine xt_n ?_
  refine ⟨k + 1, ⟨by omega, fun i hi => ?_⟩, by refine le_ren [] (.cons kR (.cons kR .nil)) .nil kR kR, by omega⟩
  by_cases he : i = k
  ·
   subst he; simpa using c3
  ·
   exact hj i oM
 ·
  simp at c2
  refine aw_exit ?_
  refine xt_x ?_; refine xt_x ?_
  refine xb_same ?_
  refine xt_n ?_; clear hK K; refine hK _ ?_; clear hK K; refine aw_seq_k fun K hK => wR 3 ?_; refine aX hTT 1 [] tI ?_; refine aops_nil (xt_n (hK _ ?_)); clear hK K
  refine aw_ret ?_
  rw [sChk_good oM fun i hi => hj i oM]
  refine rP (V.i 0)
abbrev yyGA20 (c : Cut) (s : Pt) : List V := [V.i (Int.tdiv (Prod.snd s * Cut.gain c) (1000 : Int) - Cut.half c), V.i (Int.tdiv (Prod.fst s * Cut.gain c) (1000 : Int) + Cut.half c)]
set_option maxRecDepth 100000 in
theorem point_ac (c : Cut) (s : Pt) (hc : cutE c = 0) (hs : (-32768 ≤ s.1 ∧ s.1 ≤ 32768) ∧ -32768 ≤ s.2 ∧ s.2 ≤ 32768) : AC Tryz.prog 40 [c.v, .agg [.i s.1, .i s.2]] (.agg [.i (wallP c s).1, .i (wallP c s).2]) [] := by
 obtain ⟨⟨a1, a2⟩, ⟨b1, b2⟩, _⟩ := cutE_ok.1 hc
 obtain ⟨h1, h2⟩ := hs
 have e1 := chE_bd (n := s.1) ⟨b1, b2⟩ oM
 have e2 := chE_bd (n := s.2) ⟨b1, b2⟩ oM
 have m1 := gMul (m := 32768) (n := 100000) (a := s.1) (b := c.gain) oM ⟨by omega, b2⟩
 have m2 := gMul (m := 32768) (n := 100000) (a := s.2) (b := c.gain) oM ⟨by omega, b2⟩
 unfold chE at e1 e2
 refine acI hTT hMX Tryz.func40 Tryz.ntmps40 fun C hC hF => ?_
 refine aw_seq_k fun K hK => wR 2 ?_; refine aX hTT 3 [(2, .r (pn 4 (V.ref 100004 0) (100004 : Nat) (Ob.box 53 [V.i 0, V.i 0])))] tI ?_; refine aops_nil (xt_n (hK _ ?_)); clear hK K; refine aw_seq_k fun K hK => wR 3 ?_; refine aX hTT 20 [(4, .i (Prod.snd s * Cut.gain c)), (5, .c ((0 : Int) < (1000 : Int) ∧ (-9223372036854775808 : Int) ≤ Prod.snd s * Cut.gain c ∧ Prod.snd s * Cut.gain c ≤ (9223372036854775807 : Int))), (8, .i (Int.tdiv (Prod.snd s * Cut.gain c) (1000 : Int) - Cut.half c)), (13, .i (Prod.fst s * Cut.gain c)), (14, .c ((0 : Int) < (1000 : Int) ∧ (-9223372036854775808 : Int) ≤ Prod.fst s * Cut.gain c ∧ Prod.fst s * Cut.gain c ≤ (9223372036854775807 : Int))), (17, .i (Int.tdiv (Prod.fst s * Cut.gain c) (1000 : Int) + Cut.half c)), (19, .r (pw ((0 : Nat) + (2 : Nat) ≤ (2 : Nat)) (100004 : Nat) (Ob.box 53 (yyGA20 c s))))] ⟨oM, ⟨oM, oM⟩, oM, oM, ⟨oM, oM⟩, oM, oM, tI⟩ ?_; refine aops_nil (xt_n (hK _ ?_)); clear hK K
 refine aw_ret ?_
 refine ret_of_le (le_freezeBox (t := (53 : Nat)) (cs := (yyGA20 c s)) 100004 kR kR) ?_
 refine rP (V.agg (yyGA20 c s))
abbrev yyGA21 (c : Cut) (s : Pt) : List V := [V.i (-Cut.half c + Int.tdiv (Prod.snd s * Cut.gain c) (1000 : Int)), V.i (Cut.half c + Int.tdiv (Prod.fst s * Cut.gain c) (1000 : Int))]
set_option maxRecDepth 100000 in
theorem wall_ac (c : Cut) (s : Pt) (hc : cutE c = 0) (hs : (-32768 ≤ s.1 ∧ s.1 ≤ 32768) ∧ -32768 ≤ s.2 ∧ s.2 ≤ 32768) : AC Tryz.prog 84 [c.v, .agg [.i s.1, .i s.2]] (.agg [.i (wallP c s).1, .i (wallP c s).2]) [] := by
 obtain ⟨⟨a1, a2⟩, ⟨b1, b2⟩, _⟩ := cutE_ok.1 hc
 obtain ⟨h1, h2⟩ := hs
 have e1 := chE_bd (n := s.1) ⟨b1, b2⟩ oM
 have e2 := chE_bd (n := s.2) ⟨b1, b2⟩ oM
 have m1 := gMul (m := 32768) (n := 100000) (a := s.1) (b := c.gain) oM ⟨by omega, b2⟩
 have m2 := gMul (m := 32768) (n := 100000) (a := s.2) (b := c.gain) oM ⟨by omega, b2⟩
 unfold chE at e1 e2
 refine acI hTT hMX Tryz.func84 Tryz.ntmps84 fun C hC hF => ?_
 refine aw_seq_k fun K hK => wR 2 ?_; refine aX hTT 3 [(2, .r (pn 4 (V.ref 100004 0) (100004 : Nat) (Ob.box 53 [V.i 0, V.i 0])))] tI ?_; refine aops_nil (xt_n (hK _ ?_)); clear hK K; refine aw_seq_k fun K hK => wR 3 ?_; refine aX hTT 21 [(2, .i (-Cut.half c)), (7, .i (Prod.snd s * Cut.gain c)), (8, .c ((0 : Int) < (1000 : Int) ∧ (-9223372036854775808 : Int) ≤ Prod.snd s * Cut.gain c ∧ Prod.snd s * Cut.gain c ≤ (9223372036854775807 : Int))), (9, .i (-Cut.half c + Int.tdiv (Prod.snd s * Cut.gain c) (1000 : Int))), (16, .i (Prod.fst s * Cut.gain c)), (17, .c ((0 : Int) < (1000 : Int) ∧ (-9223372036854775808 : Int) ≤ Prod.fst s * Cut.gain c ∧ Prod.fst s * Cut.gain c ≤ (9223372036854775807 : Int))), (18, .i (Cut.half c + Int.tdiv (Prod.fst s * Cut.gain c) (1000 : Int))), (20, .r (pw ((0 : Nat) + (2 : Nat) ≤ (2 : Nat)) (100004 : Nat) (Ob.box 53 (yyGA21 c s))))] ⟨oM, oM, ⟨oM, oM⟩, oM, oM, ⟨oM, oM⟩, oM, oM, tI⟩ ?_; refine aops_nil (xt_n (hK _ ?_)); clear hK K
 refine aw_ret ?_
 refine ret_of_le (le_freezeBox (t := (53 : Nat)) (cs := (yyGA21 c s)) 100004 kR kR) ?_
 have q1 : -c.half + (s.2 * c.gain).tdiv 1000 = (wallP c s).1 := by simp only [wallP, chE]; omega
 have q2 : c.half + (s.1 * c.gain).tdiv 1000 = (wallP c s).2 := by simp only [wallP, chE]; omega
 rw [← q1, ← q2]
 refine rP (V.agg (yyGA21 c s))
def cutA (c : Cut) (s : List Pt) (k j : Nat) : Int := if j < k then (wallP c (gp s j)).1 else 0
def cutB (c : Cut) (s : List Pt) (k j : Nat) : Int := if j < k then (wallP c (gp s j)).2 else 0
theorem cutAB_set {c : Cut} {s : List Pt} {k : Nat} (i : Nat) : (if i = k then [V.i (wallP c (gp s k)).1, V.i (wallP c (gp s k)).2] else [V.i (cutA c s k i), V.i (cutB c s k i)]) = [V.i (cutA c s (k + 1) i), V.i (cutB c s (k + 1) i)] := by
 unfold cutA cutB
 by_cases h : i = k
 ·
  subst h; rw [if_pos rfl, if_pos oM, if_pos oM]
 ·
  rw [if_neg h]
  by_cases h2 : i < k
  ·
   rw [if_pos h2, if_pos h2, if_pos oM, if_pos oM]
  ·
   rw [if_neg h2, if_neg h2, if_neg oM, if_neg oM]
abbrev zzGA20 : V := V.sl 2 0 fun (k : Nat) => [V.i (Prod.fst (gp [] k)), V.i (Prod.snd (gp [] k))]
abbrev yyGA22 (s : List Pt) : Ob := Ob.row 53 2 (List.length s) fun (x : Nat) => [V.c (Value.int IntKind.i64 0), V.c (Value.int IntKind.i64 0)]
set_option maxRecDepth 100000 in
theorem Cut_ac (c : Cut) (s : List Pt) (hs : s.length ≤ 4611686018427387904) : AC Tryz.prog 12 [c.v, V.pts s] (.tup [V.pts (cutR c s).1, .i (cutR c s).2]) [] := by
 refine acI hTT hMX Tryz.func12 Tryz.ntmps12 fun C hC hF => ?_
 refine aw_seq_k fun K hK => wR 2 ?_; refine aX hTT 3 [] tI ?_; refine aops_nil (xt_n (hK _ ?_)); clear hK K; refine aw_seq_k fun K hK => ?_; refine aw_seq_k fun K hK => wR 3 ?_; refine aX hTT 1 [] tI ?_
 refine eC (cutCheck_ac c) ?_
 refine aX hTT 1 [] tI ?_; refine aops_nil (xt_n (hK _ ?_)); clear hK K; refine aw_seq_k fun K hK => wR 4 ?_; refine aX hTT 2 [] tI ?_; refine aops_nil (xt_n (hK _ ?_)); clear hK K
 refine w_cond (t := !decide (cutE c = (0 : Int))) kR (fun c1 => ?_) (fun c1 => ?_)
 ·
  simp at c1
  refine aw_seq_k fun K hK => wR 5 ?_; refine aX hTT 3 [] tI ?_; refine aops_nil (xt_n (hK _ ?_)); clear hK K
  refine aw_ret ?_
  refine xt_r ?_
  rw [cutR_1 c1]
  refine ret_of_le (le_nil 4 (sz := 2) 0 (fun k => [.i (gp [] k).1, .i (gp [] k).2]) kR ?_) ?_
  ·
   rfl
  refine rP (V.tup [zzGA20, V.i (cutE c)])
 simp at c1
 refine aw_skip ?_
 refine xt_n (hK _ ?_); clear hK K; refine aw_seq_k fun K hK => ?_; refine aw_seq_k fun K hK => wR 5 ?_; refine aX hTT 1 [] tI ?_
 refine eC (tCheckSamples_ac s hs) ?_
 refine aX hTT 1 [] tI ?_; refine aops_nil (xt_n (hK _ ?_)); clear hK K; refine aw_seq_k fun K hK => wR 6 ?_; refine aX hTT 2 [] tI ?_; refine aops_nil (xt_n (hK _ ?_)); clear hK K
 refine w_cond (t := !decide (sChk s = (0 : Int))) kR (fun c2 => ?_) (fun c2 => ?_)
 ·
  simp at c2
  refine aw_seq_k fun K hK => wR 7 ?_; refine aX hTT 3 [] tI ?_; refine aops_nil (xt_n (hK _ ?_)); clear hK K
  refine aw_ret ?_
  refine xt_r ?_
  rw [cutR_2 c1 c2]
  refine ret_of_le (le_nil 4 (sz := 2) 0 (fun k => [.i (gp [] k).1, .i (gp [] k).2]) kR ?_) ?_
  ·
   rfl
  refine rP (V.tup [zzGA20, V.i (sChk s)])
 simp at c2
 obtain ⟨l1, l2⟩ := sChk_ok.1 c2
 refine aw_skip ?_
 refine xt_n (hK _ ?_); clear hK K; refine aw_seq_k fun K hK => wR 7 ?_; refine aX hTT 4 [(2, .r (PR.mk (some (23 : Nat)) (some ((0 : Int) ≤ (↑(List.length s) : Int) ∧ (↑(List.length s) : Int) ≤ (↑(List.length s) : Int) ∧ (↑(List.length s) : Int) ≤ (1099511627776 : Int))) (V.own 600023) [((600023 : Nat), some ((yyGA22 s)))] false))] ⟨⟨oM, oM⟩, tI⟩ ?_; refine aops_nil (xt_n (hK _ ?_)); clear hK K; refine aw_seq_k fun K hK => ?_; refine aw_seq_k fun K hK => wR 8 ?_; refine aX hTT 3 [] tI ?_; refine aops_nil (xt_n (hK _ ?_)); clear hK K
 refine aw_block ?_
 refine w_loop (ι := Nat) (fun k => [(2, .ptr [.i c.half, .i c.gain, .i c.thin, .i c.wide, .i c.slope, .i c.jerk, .i c.sty]), (8, .own 8), (24, V.pts s), (25, .i s.length), (26, .i k)]) (fun k => [(8, .row 53 2 s.length fun j => [.i (cutA c s k j), .i (cutB c s k j)])]) (fun k => k ≤ s.length) (fun k => s.length - k) 0 (Nat.zero_le _) ?_ ?_
 ·
  refine le_ren (sl := [(8, Ob.row 53 2 (List.length s) fun (j : Nat) => [V.i (cutA c s (0 : Nat) j), V.i (cutB c s (0 : Nat) j)])]) [(8, 600023)] (.cons kR (.cons kR (.cons kR (.cons kR (.cons kR .nil))))) (.cons ⟨(yyGA22 s), kR, .row kR (fun _ _ => rfl)⟩ .nil) kR kR
 intro k hk
 refine aw_seq_k fun K hK => wR 2 ?_; refine aX hTT 1 [] tI ?_; refine aops_nil (xt_n (hK _ ?_)); clear hK K; refine aw_seq_k fun K hK => ?_
 refine w_cond (t := decide ((↑k : Int) < (↑(List.length s) : Int))) kR (fun c3 => ?_) (fun c3 => ?_)
 ·
  simp at c3
  have hsk := sE_iff.1 (l2 k c3)
  refine aw_skip ?_
  refine xt_n (hK _ ?_); clear hK K; refine aw_seq_k fun K hK => ?_
  refine aw_block ?_
  refine aw_seq_k fun K hK => wR 3 ?_; refine aX hTT 6 [(1, .c ((0 : Int) ≤ (↑k : Int) ∧ (↑k : Int) < (↑(List.length s) : Int))), (3, .r (pn 10 (V.ref 200010 0) (200010 : Nat) (Ob.box 55 [V.i 0, V.i 0]))), (5, .r (pw ((0 : Nat) + (2 : Nat) ≤ (2 : Nat)) (200010 : Nat) (Ob.box 55 [V.i (Prod.fst (gp s k)), V.i (Prod.snd (gp s k))])))] ⟨oM, oM, tI⟩ ?_; refine aops_nil (xt_n (hK _ ?_)); clear hK K; refine wR 4 ?_; refine aX hTT 4 [(3, .c ((0 : Nat) ≤ (2 : Nat)))] ⟨oM, tI⟩ ?_
  refine eC (point_ac c (gp s k) c1 oM) ?_
  refine aX hTT 2 [(0, .c ((0 : Int) ≤ (↑k : Int) ∧ (↑k : Int) < (↑(List.length s) : Int))), (1, .r (pw (k < List.length s ∧ (0 : Nat) + (2 : Nat) ≤ (2 : Nat)) (8 : Nat) (Ob.row 53 2 (List.length s) fun (j : Nat) => if j = k then [V.i (Prod.fst (wallP c (gp s k))), V.i (Prod.snd (wallP c (gp s k)))] else [V.i (cutA c s k j), V.i (cutB c s k j)])))] ⟨oM, oM, tI⟩ ?_; refine aops_nil ?_; refine xb_n ?_; refine xt_n (hK _ ?_); clear hK K; refine wR 5 ?_; refine aX hTT 2 [(0, .i ((↑k : Int) + (1 : Int)))] ⟨oM, tI⟩ ?_; refine aops_nil ?_; refine xt_n ?_
  refine ⟨k + 1, by omega, ?_, by omega⟩
  refine le_ren (tl := [(2, V.ptr [V.i (Cut.half c), V.i (Cut.gain c), V.i (Cut.thin c), V.i (Cut.wide c), V.i (Cut.slope c), V.i (Cut.jerk c), V.i (Cut.sty c)]), (8, V.own 8), (24, V.sl 2 (List.length s) fun (k : Nat) => [V.i (Prod.fst (gp s k)), V.i (Prod.snd (gp s k))]), (25, V.i (↑(List.length s) : Int)), (26, V.i (↑(k + (1 : Nat)) : Int))]) (sl := [(8, Ob.row 53 2 (List.length s) fun (j : Nat) => [V.i (cutA c s (k + (1 : Nat)) j), V.i (cutB c s (k + (1 : Nat)) j)])]) [(8, 8)] (.cons kR (.cons kR (.cons kR (.cons kR (.cons kR .nil))))) (.cons ⟨Ob.row 53 2 (List.length s) fun (j : Nat) => if j = k then [V.i (Prod.fst (wallP c (gp s k))), V.i (Prod.snd (wallP c (gp s k)))] else [V.i (cutA c s k j), V.i (cutB c s k j)], kR, .row kR ?_⟩ .nil) kR kR
  intro i hi
  exact cutAB_set i
 ·
  simp at c3
  obtain rfl : k = s.length := by omega
  refine aw_exit ?_
  refine xt_x ?_; refine xt_x ?_
  refine xb_same ?_
  refine xt_n ?_; clear hK K; refine hK _ ?_; clear hK K; refine aw_seq_k fun K hK => wR 3 ?_; refine aX hTT 3 [] tI ?_; refine aops_nil (xt_n (hK _ ?_)); clear hK K
  refine aw_ret ?_
  rw [cutR_3 c1 c2]
  refine ret_of_le (le_shut 4 8 (e := (53 : Nat)) (sz := (2 : Nat)) (n := List.length s) (n' := (s.map (wallP c)).length) (row := fun (j : Nat) => [V.i (cutA c s (List.length s) j), V.i (cutB c s (List.length s) j)]) (row' := (fun j => [.i (gp (s.map (wallP c)) j).1, .i (gp (s.map (wallP c)) j).2])) kR kR (fun _ _ => rfl) ?_ ?_) ?_
  ·
   simp
  ·
   intro i hi
   rw [gp_map hi, cutA, cutB, if_pos hi, if_pos hi]
  refine rP (V.tup [V.sl 2 (List.length (List.map (wallP c) s)) fun (j : Nat) => [V.i (Prod.fst (gp (List.map (wallP c) s) j)), V.i (Prod.snd (gp (List.map (wallP c) s) j))], V.i 0])
set_option maxRecDepth 100000 in
theorem refCut_ac (c : Cut) (s : List Pt) (hs : s.length ≤ 4611686018427387904) (hr : ∀ k, k < s.length → inR2 (gp s k)) : AC Tryz.prog 34 [c.v, V.pts s] (.tup [V.pts (cutR c s).1, .i (cutR c s).2]) [] := by
 refine acI hTT hMX Tryz.func34 Tryz.ntmps34 fun C hC hF => ?_
 refine aw_seq_k fun K hK => wR 2 ?_; refine aX hTT 3 [] tI ?_; refine aops_nil (xt_n (hK _ ?_)); clear hK K; refine aw_seq_k fun K hK => ?_; refine aw_seq_k fun K hK => wR 3 ?_; refine aX hTT 1 [] tI ?_
 refine eC (refCheck_ac c) ?_
 refine aX hTT 1 [] tI ?_; refine aops_nil (xt_n (hK _ ?_)); clear hK K
 refine w_cond (t := !decide (cutE c = (0 : Int))) kR (fun c1 => ?_) (fun c1 => ?_)
 ·
  simp at c1
  refine aw_seq_k fun K hK => wR 4 ?_; refine aX hTT 2 [] tI ?_; refine aops_nil (xt_n (hK _ ?_)); clear hK K
  refine aw_ret ?_
  refine xt_r ?_
  rw [cutR_1 c1, (cutE_cases c).resolve_left c1]
  refine ret_of_le (le_nil 4 (sz := 2) 0 (fun k => [.i (gp [] k).1, .i (gp [] k).2]) kR ?_) ?_
  ·
   rfl
  refine rP (V.tup [zzGA20, V.i 2])
 simp at c1
 refine aw_skip ?_
 refine xt_n (hK _ ?_); clear hK K; refine aw_seq_k fun K hK => ?_; refine aw_seq_k fun K hK => wR 4 ?_; refine aX hTT 1 [] tI ?_
 refine eC (rCheckSamples_ac s hs hr) ?_
 refine aX hTT 1 [] tI ?_; refine aops_nil (xt_n (hK _ ?_)); clear hK K
 refine w_cond (t := !decide (sChk s = (0 : Int))) kR (fun c2 => ?_) (fun c2 => ?_)
 ·
  simp at c2
  refine aw_seq_k fun K hK => wR 5 ?_; refine aX hTT 1 [] tI ?_
  refine eC (rCheckSamples_ac s hs hr) ?_
  refine aX hTT 2 [] tI ?_; refine aops_nil (xt_n (hK _ ?_)); clear hK K
  refine aw_ret ?_
  refine xt_r ?_
  rw [cutR_2 c1 c2]
  refine ret_of_le (le_nil 4 (sz := 2) 0 (fun k => [.i (gp [] k).1, .i (gp [] k).2]) kR ?_) ?_
  ·
   rfl
  refine rP (V.tup [zzGA20, V.i (sChk s)])
 simp at c2
 obtain ⟨l1, l2⟩ := sChk_ok.1 c2
 refine aw_skip ?_
 refine xt_n (hK _ ?_); clear hK K; refine aw_seq_k fun K hK => wR 5 ?_; refine aX hTT 1 [] tI ?_; refine aops_nil (xt_n (hK _ ?_)); clear hK K; refine aw_seq_k fun K hK => ?_; refine aw_seq_k fun K hK => wR 6 ?_; refine aX hTT 1 [] tI ?_; refine aops_nil (xt_n (hK _ ?_)); clear hK K
 refine aw_block ?_
 refine w_le (le_open 6 53 2 (fun k => [.i (wallP c (gp s k)).1, .i (wallP c (gp s k)).2]) kR rfl) ?_
 skip
 refine w_loop (ι := Nat) (fun k => [(2, .ptr [.i c.half, .i c.gain, .i c.thin, .i c.wide, .i c.slope, .i c.jerk, .i c.sty]), (1, V.pts s), (6, .own 6), (7, .i k)]) (fun k => [(6, .row 53 2 k (fun k => [.i (wallP c (gp s k)).1, .i (wallP c (gp s k)).2]))]) (fun k => k ≤ s.length) (fun k => s.length - k) 0 (Nat.zero_le _) ?_ ?_
 ·
  refine le_ren (sl := [(6, Ob.row 53 2 0 fun (k : Nat) => [V.i (Prod.fst (wallP c (gp s k))), V.i (Prod.snd (wallP c (gp s k)))])]) [(6, 600006)] (.cons kR (.cons kR (.cons kR (.cons kR .nil)))) (.cons ⟨Ob.row 53 2 0 fun (k : Nat) => [V.i (Prod.fst (wallP c (gp s k))), V.i (Prod.snd (wallP c (gp s k)))], kR, .row kR (fun _ _ => rfl)⟩ .nil) kR kR
 intro k hk
 refine aw_seq_k fun K hK => ?_; refine aw_seq_k fun K hK => wR 2 ?_; refine aX hTT 4 [] tI ?_; refine aops_nil (xt_n (hK _ ?_)); clear hK K
 refine w_cond (t := decide ((↑k : Int) < (↑(List.length s) : Int))) kR (fun c3 => ?_) (fun c3 => ?_)
 ·
  simp at c3
  have hsk := sE_iff.1 (l2 k c3)
  refine aw_skip ?_
  refine xt_n (hK _ ?_); clear hK K; refine aw_seq_k fun K hK => ?_
  refine aw_block ?_
  refine wD 3 ?_; refine aX hTT 6 [(4, .c ((0 : Int) ≤ (↑k : Int) ∧ (↑k : Int) < (↑(List.length s) : Int)))] ⟨oM, tI⟩ ?_
  refine eC (wall_ac c (gp s k) c1 oM) ?_
  refine aX hTT 3 [(1, .r (PR.mk (some (30 : Nat)) (some (k + (1 : Nat) ≤ (1099511627776 : Nat))) (V.own 200030) [((6 : Nat), none), ((200030 : Nat), some (Ob.row 53 2 (k + (1 : Nat)) (appRow k (fun (k : Nat) => [V.i (Prod.fst (wallP c (gp s k))), V.i (Prod.snd (wallP c (gp s k)))]) fun (i : Nat) => List.take (2 : Nat) (List.drop (i * (2 : Nat)) [V.i (Prod.fst (wallP c (gp s k))), V.i (Prod.snd (wallP c (gp s k)))]))))] false))] ⟨oM, tI⟩ ?_; refine aops_nil ⟨kR, ?_⟩; refine xb_n ?_; refine xt_n (hK _ ?_); clear hK K; refine wR 4 ?_; refine aX hTT 3 [(1, .i ((↑k : Int) + (1 : Int)))] ⟨oM, tI⟩ ?_; refine aops_nil ?_; refine xt_n ?_
  refine ⟨k + 1, by omega, ?_, by omega⟩
  refine le_ren (tl := [(2, V.ptr [V.i (Cut.half c), V.i (Cut.gain c), V.i (Cut.thin c), V.i (Cut.wide c), V.i (Cut.slope c), V.i (Cut.jerk c), V.i (Cut.sty c)]), (1, V.sl 2 (List.length s) fun (k : Nat) => [V.i (Prod.fst (gp s k)), V.i (Prod.snd (gp s k))]), (6, V.own 6), (7, V.i (↑(k + (1 : Nat)) : Int))]) (sl := [(6, Ob.row 53 2 (k + (1 : Nat)) fun (k : Nat) => [V.i (Prod.fst (wallP c (gp s k))), V.i (Prod.snd (wallP c (gp s k)))])]) [(6, 200030)] (.cons kR (.cons kR (.cons kR (.cons kR .nil)))) (.cons ⟨Ob.row 53 2 (k + (1 : Nat)) (appRow k (fun (k : Nat) => [V.i (Prod.fst (wallP c (gp s k))), V.i (Prod.snd (wallP c (gp s k)))]) fun (i : Nat) => List.take (2 : Nat) (List.drop (i * (2 : Nat)) [V.i (Prod.fst (wallP c (gp s k))), V.i (Prod.snd (wallP c (gp s k)))])), kR, .row kR ?_⟩ .nil) kR kR
  exact appRow_p rfl rfl rfl
 ·
  simp at c3
  obtain rfl : k = s.length := by omega
  refine aw_exit ?_
  refine xt_x ?_; refine xt_x ?_
  refine xb_same ?_
  refine xt_n ?_; clear hK K; refine hK _ ?_; clear hK K; refine aw_seq_k fun K hK => wR 3 ?_; refine aX hTT 3 [] tI ?_; refine aops_nil (xt_n (hK _ ?_)); clear hK K
  refine aw_ret ?_
  rw [cutR_3 c1 c2]
  refine ret_of_le (le_shut 4 6 (e := (53 : Nat)) (sz := (2 : Nat)) (n := List.length s) (n' := (s.map (wallP c)).length) (row := fun (k : Nat) => [V.i (Prod.fst (wallP c (gp s k))), V.i (Prod.snd (wallP c (gp s k)))]) (row' := (fun j => [.i (gp (s.map (wallP c)) j).1, .i (gp (s.map (wallP c)) j).2])) kR kR (fun _ _ => rfl) ?_ ?_) ?_
  ·
   simp
  ·
   intro i hi
   rw [gp_map hi]
  refine rP (V.tup [V.sl 2 (List.length (List.map (wallP c) s)) fun (j : Nat) => [V.i (Prod.fst (gp (List.map (wallP c) s) j)), V.i (Prod.snd (gp (List.map (wallP c) s) j))], V.i 0])
end Go.Proofs.YtplnhbenmgclfaaGreatDoor

namespace Go.Proofs.YtplnhbenmgclfaaGreatDoor
open Go.Ab Go.RowKit Go.Dw Go.Shelf
set_option maxRecDepth 100000 in
theorem within5_ac (x lo hi : Int) : AC Tryz.prog 74 [.i x, .i lo, .i hi] (.b (betB x lo hi)) [] := by
 refine acI hTT hMX Tryz.func74 Tryz.ntmps74 fun C hC hF => ?_
 refine aw_seq_k fun K hK => wR 2 ?_; refine aX hTT 1 [] tI ?_; refine aops_nil (xt_n (hK _ ?_)); clear hK K; refine aw_seq_k fun K hK => wR 3 ?_; refine aX hTT 9 [(4, .c (gA (decide (lo ≤ x) == true) True)), (5, .c (gA (decide (lo ≤ x) == true) True)), (6, .c (gC (decide (lo ≤ x) == true) True)), (7, .c ((decide (lo ≤ x) = true → (decide (lo ≤ x) == true) = true) ∧ True))] ⟨⟨⟨tI, tI⟩, (fun _ => tI)⟩, ⟨⟨tI, tI⟩, (fun _ => tI)⟩, ⟨⟨(by (exact fun h => h)), ⟨(by (exact fun h => h)), tI⟩⟩, (fun _ => tI)⟩, ⟨(by (intro h; rw [h]; rfl)), tI⟩, tI⟩ ?_; refine aops_nil (xt_n (hK _ ?_)); clear hK K
 refine aw_ret ?_
 refine rP (V.b (decide (lo ≤ x) && decide (x ≤ hi)))
set_option maxRecDepth 100000 in
theorem rCheck5_ac (b : Bl) : AC Tryz.prog 28 [b.v] (.i (blE b)) [] := by
 refine ac_intro hTT hMX (fn := Tryz.f28) (N := _) ⟨Tryz.func28, rfl, Tryz.ntmps28, kR⟩ (by simp) fun C hC hF => ?_
 refine aw_seq_k fun K hK => ?_
 refine w_region (n' := 2) kR kR ?_
 refine aops_n hTT (M := []) (n := 2) [pv (1 : Nat) (V.ptr [V.i (Bl.per b), V.i (Bl.rim b), V.i (Bl.core b), V.i (Bl.land b), V.i (Bl.slow b), V.i (Bl.fast b)]), pv (2 : Nat) (V.i (0 : Int))] kR kR tI ?_
 refine aops_nil ?_
 refine xt_n ?_
 refine hK _ ?_
 clear hK K
 refine aw_seq_k fun K hK => ?_
 refine aw_seq_k fun K hK => ?_
 refine w_region (n' := 3) kR kR ?_
 refine aops_n hTT (M := []) (n := 2) [pv (3 : Nat) (V.ptr [V.i (Bl.per b), V.i (Bl.rim b), V.i (Bl.core b), V.i (Bl.land b), V.i (Bl.slow b), V.i (Bl.fast b)]), pv (4 : Nat) (V.i (Bl.per b))] kR kR tI ?_
 refine e_call (first := []) (caps := []) (within5_ac b.per 1 65536) kR kR kR kR kR ?_
 refine aops_n hTT (M := []) (n := 4) [pv (6 : Nat) (V.b !betB (Bl.per b) (1 : Int) (65536 : Int)), pv (7 : Nat) (V.b !betB (Bl.per b) (1 : Int) (65536 : Int)), pc (8 : Nat) ((True ∧ True) ∧ (((!betB (Bl.per b) (1 : Int) (65536 : Int)) == false) = true → True)) (V.gd ((!betB (Bl.per b) (1 : Int) (65536 : Int)) == false) (V.ptr [V.i (Bl.rim b), V.i (Bl.core b), V.i (Bl.land b), V.i (Bl.slow b), V.i (Bl.fast b)])), pc (9 : Nat) (((((!betB (Bl.per b) (1 : Int) (65536 : Int)) == false) = true → ((!betB (Bl.per b) (1 : Int) (65536 : Int)) == false) = true) ∧ True) ∧ (((!betB (Bl.per b) (1 : Int) (65536 : Int)) == false) = true → True)) (V.gd ((!betB (Bl.per b) (1 : Int) (65536 : Int)) == false) (V.i (Bl.rim b)))] kR kR ⟨⟨⟨tI, tI⟩, (fun _ => tI)⟩, ⟨⟨(by (exact fun h => h)), tI⟩, (fun _ => tI)⟩, tI⟩ ?_
 refine e_callG 1 (g := (!betB (Bl.per b) (1 : Int) (65536 : Int)) == false) (first := []) (caps := []) kR (fun h => within5_ac b.rim 0 4194304) kR kR kR kR kR kR ?_
 refine aops_n hTT (M := []) (n := 7) [pc (11 : Nat) (((((!betB (Bl.per b) (1 : Int) (65536 : Int)) == false) = true → ((!betB (Bl.per b) (1 : Int) (65536 : Int)) == false) = true) ∧ True) ∧ (((!betB (Bl.per b) (1 : Int) (65536 : Int)) == false) = true → True)) (V.gd ((!betB (Bl.per b) (1 : Int) (65536 : Int)) == false) (V.b !betB (Bl.rim b) (0 : Int) (4194304 : Int))), pc (12 : Nat) (True ∧ ((!betB (Bl.per b) (1 : Int) (65536 : Int)) = false → ((!betB (Bl.per b) (1 : Int) (65536 : Int)) == false) = true)) (V.b (!betB (Bl.per b) (1 : Int) (65536 : Int) || !betB (Bl.rim b) (0 : Int) (4194304 : Int))), pv (13 : Nat) (V.b (!betB (Bl.per b) (1 : Int) (65536 : Int) || !betB (Bl.rim b) (0 : Int) (4194304 : Int))), pc (14 : Nat) ((True ∧ True) ∧ (((!betB (Bl.per b) (1 : Int) (65536 : Int) || !betB (Bl.rim b) (0 : Int) (4194304 : Int)) == false) = true → True)) (V.gd ((!betB (Bl.per b) (1 : Int) (65536 : Int) || !betB (Bl.rim b) (0 : Int) (4194304 : Int)) == false) (V.ptr [V.i (Bl.core b), V.i (Bl.land b), V.i (Bl.slow b), V.i (Bl.fast b)])), pc (15 : Nat) (((((!betB (Bl.per b) (1 : Int) (65536 : Int) || !betB (Bl.rim b) (0 : Int) (4194304 : Int)) == false) = true → ((!betB (Bl.per b) (1 : Int) (65536 : Int) || !betB (Bl.rim b) (0 : Int) (4194304 : Int)) == false) = true) ∧ True) ∧ (((!betB (Bl.per b) (1 : Int) (65536 : Int) || !betB (Bl.rim b) (0 : Int) (4194304 : Int)) == false) = true → True)) (V.gd ((!betB (Bl.per b) (1 : Int) (65536 : Int) || !betB (Bl.rim b) (0 : Int) (4194304 : Int)) == false) (V.i (Bl.core b))), pc (16 : Nat) ((True ∧ True) ∧ (((!betB (Bl.per b) (1 : Int) (65536 : Int) || !betB (Bl.rim b) (0 : Int) (4194304 : Int)) == false) = true → True)) (V.gd ((!betB (Bl.per b) (1 : Int) (65536 : Int) || !betB (Bl.rim b) (0 : Int) (4194304 : Int)) == false) (V.ptr [V.i (Bl.rim b), V.i (Bl.core b), V.i (Bl.land b), V.i (Bl.slow b), V.i (Bl.fast b)])), pc (17 : Nat) (((((!betB (Bl.per b) (1 : Int) (65536 : Int) || !betB (Bl.rim b) (0 : Int) (4194304 : Int)) == false) = true → ((!betB (Bl.per b) (1 : Int) (65536 : Int) || !betB (Bl.rim b) (0 : Int) (4194304 : Int)) == false) = true) ∧ True) ∧ (((!betB (Bl.per b) (1 : Int) (65536 : Int) || !betB (Bl.rim b) (0 : Int) (4194304 : Int)) == false) = true → True)) (V.gd ((!betB (Bl.per b) (1 : Int) (65536 : Int) || !betB (Bl.rim b) (0 : Int) (4194304 : Int)) == false) (V.i (Bl.rim b)))] kR kR ⟨⟨⟨(by (exact fun h => h)), tI⟩, (fun _ => tI)⟩, ⟨tI, (by (intro h; rw [h]; rfl))⟩, ⟨⟨tI, tI⟩, (fun _ => tI)⟩, ⟨⟨(by (exact fun h => h)), tI⟩, (fun _ => tI)⟩, ⟨⟨tI, tI⟩, (fun _ => tI)⟩, ⟨⟨(by (exact fun h => h)), tI⟩, (fun _ => tI)⟩, tI⟩ ?_
 refine e_callG 2 (g := (!betB (Bl.per b) (1 : Int) (65536 : Int) || !betB (Bl.rim b) (0 : Int) (4194304 : Int)) == false) (first := []) (caps := []) kR (fun h => within5_ac b.core 0 b.rim) kR kR kR kR kR kR ?_
 refine aops_n hTT (M := []) (n := 5) [pc (19 : Nat) (((((!betB (Bl.per b) (1 : Int) (65536 : Int) || !betB (Bl.rim b) (0 : Int) (4194304 : Int)) == false) = true → ((!betB (Bl.per b) (1 : Int) (65536 : Int) || !betB (Bl.rim b) (0 : Int) (4194304 : Int)) == false) = true) ∧ True) ∧ (((!betB (Bl.per b) (1 : Int) (65536 : Int) || !betB (Bl.rim b) (0 : Int) (4194304 : Int)) == false) = true → True)) (V.gd ((!betB (Bl.per b) (1 : Int) (65536 : Int) || !betB (Bl.rim b) (0 : Int) (4194304 : Int)) == false) (V.b !betB (Bl.core b) (0 : Int) (Bl.rim b))), pc (20 : Nat) (True ∧ ((!betB (Bl.per b) (1 : Int) (65536 : Int) || !betB (Bl.rim b) (0 : Int) (4194304 : Int)) = false → ((!betB (Bl.per b) (1 : Int) (65536 : Int) || !betB (Bl.rim b) (0 : Int) (4194304 : Int)) == false) = true)) (V.b (!betB (Bl.per b) (1 : Int) (65536 : Int) || !betB (Bl.rim b) (0 : Int) (4194304 : Int) || !betB (Bl.core b) (0 : Int) (Bl.rim b))), pv (21 : Nat) (V.b (!betB (Bl.per b) (1 : Int) (65536 : Int) || !betB (Bl.rim b) (0 : Int) (4194304 : Int) || !betB (Bl.core b) (0 : Int) (Bl.rim b))), pc (22 : Nat) ((True ∧ True) ∧ (((!betB (Bl.per b) (1 : Int) (65536 : Int) || !betB (Bl.rim b) (0 : Int) (4194304 : Int) || !betB (Bl.core b) (0 : Int) (Bl.rim b)) == false) = true → True)) (V.gd ((!betB (Bl.per b) (1 : Int) (65536 : Int) || !betB (Bl.rim b) (0 : Int) (4194304 : Int) || !betB (Bl.core b) (0 : Int) (Bl.rim b)) == false) (V.ptr [V.i (Bl.land b), V.i (Bl.slow b), V.i (Bl.fast b)])), pc (23 : Nat) (((((!betB (Bl.per b) (1 : Int) (65536 : Int) || !betB (Bl.rim b) (0 : Int) (4194304 : Int) || !betB (Bl.core b) (0 : Int) (Bl.rim b)) == false) = true → ((!betB (Bl.per b) (1 : Int) (65536 : Int) || !betB (Bl.rim b) (0 : Int) (4194304 : Int) || !betB (Bl.core b) (0 : Int) (Bl.rim b)) == false) = true) ∧ True) ∧ (((!betB (Bl.per b) (1 : Int) (65536 : Int) || !betB (Bl.rim b) (0 : Int) (4194304 : Int) || !betB (Bl.core b) (0 : Int) (Bl.rim b)) == false) = true → True)) (V.gd ((!betB (Bl.per b) (1 : Int) (65536 : Int) || !betB (Bl.rim b) (0 : Int) (4194304 : Int) || !betB (Bl.core b) (0 : Int) (Bl.rim b)) == false) (V.i (Bl.land b)))] kR kR ⟨⟨⟨(by (exact fun h => h)), tI⟩, (fun _ => tI)⟩, ⟨tI, (by (intro h; rw [h]; rfl))⟩, ⟨⟨tI, tI⟩, (fun _ => tI)⟩, ⟨⟨(by (exact fun h => h)), tI⟩, (fun _ => tI)⟩, tI⟩ ?_
 refine e_callG 1 (g := (!betB (Bl.per b) (1 : Int) (65536 : Int) || !betB (Bl.rim b) (0 : Int) (4194304 : Int) || !betB (Bl.core b) (0 : Int) (Bl.rim b)) == false) (first := []) (caps := []) kR (fun h => within5_ac b.land 0 65536) kR kR kR kR kR kR ?_
 refine aops_n hTT (M := []) (n := 7) [pc (25 : Nat) (((((!betB (Bl.per b) (1 : Int) (65536 : Int) || !betB (Bl.rim b) (0 : Int) (4194304 : Int) || !betB (Bl.core b) (0 : Int) (Bl.rim b)) == false) = true → ((!betB (Bl.per b) (1 : Int) (65536 : Int) || !betB (Bl.rim b) (0 : Int) (4194304 : Int) || !betB (Bl.core b) (0 : Int) (Bl.rim b)) == false) = true) ∧ True) ∧ (((!betB (Bl.per b) (1 : Int) (65536 : Int) || !betB (Bl.rim b) (0 : Int) (4194304 : Int) || !betB (Bl.core b) (0 : Int) (Bl.rim b)) == false) = true → True)) (V.gd ((!betB (Bl.per b) (1 : Int) (65536 : Int) || !betB (Bl.rim b) (0 : Int) (4194304 : Int) || !betB (Bl.core b) (0 : Int) (Bl.rim b)) == false) (V.b !betB (Bl.land b) (0 : Int) (65536 : Int))), pc (26 : Nat) (True ∧ ((!betB (Bl.per b) (1 : Int) (65536 : Int) || !betB (Bl.rim b) (0 : Int) (4194304 : Int) || !betB (Bl.core b) (0 : Int) (Bl.rim b)) = false → ((!betB (Bl.per b) (1 : Int) (65536 : Int) || !betB (Bl.rim b) (0 : Int) (4194304 : Int) || !betB (Bl.core b) (0 : Int) (Bl.rim b)) == false) = true)) (V.b (!betB (Bl.per b) (1 : Int) (65536 : Int) || !betB (Bl.rim b) (0 : Int) (4194304 : Int) || !betB (Bl.core b) (0 : Int) (Bl.rim b) || !betB (Bl.land b) (0 : Int) (65536 : Int))), pv (27 : Nat) (V.b (!betB (Bl.per b) (1 : Int) (65536 : Int) || !betB (Bl.rim b) (0 : Int) (4194304 : Int) || !betB (Bl.core b) (0 : Int) (Bl.rim b) || !betB (Bl.land b) (0 : Int) (65536 : Int))), pc (28 : Nat) ((True ∧ True) ∧ (((!betB (Bl.per b) (1 : Int) (65536 : Int) || !betB (Bl.rim b) (0 : Int) (4194304 : Int) || !betB (Bl.core b) (0 : Int) (Bl.rim b) || !betB (Bl.land b) (0 : Int) (65536 : Int)) == false) = true → True)) (V.gd ((!betB (Bl.per b) (1 : Int) (65536 : Int) || !betB (Bl.rim b) (0 : Int) (4194304 : Int) || !betB (Bl.core b) (0 : Int) (Bl.rim b) || !betB (Bl.land b) (0 : Int) (65536 : Int)) == false) (V.ptr [V.i (Bl.slow b), V.i (Bl.fast b)])), pc (29 : Nat) (((((!betB (Bl.per b) (1 : Int) (65536 : Int) || !betB (Bl.rim b) (0 : Int) (4194304 : Int) || !betB (Bl.core b) (0 : Int) (Bl.rim b) || !betB (Bl.land b) (0 : Int) (65536 : Int)) == false) = true → ((!betB (Bl.per b) (1 : Int) (65536 : Int) || !betB (Bl.rim b) (0 : Int) (4194304 : Int) || !betB (Bl.core b) (0 : Int) (Bl.rim b) || !betB (Bl.land b) (0 : Int) (65536 : Int)) == false) = true) ∧ True) ∧ (((!betB (Bl.per b) (1 : Int) (65536 : Int) || !betB (Bl.rim b) (0 : Int) (4194304 : Int) || !betB (Bl.core b) (0 : Int) (Bl.rim b) || !betB (Bl.land b) (0 : Int) (65536 : Int)) == false) = true → True)) (V.gd ((!betB (Bl.per b) (1 : Int) (65536 : Int) || !betB (Bl.rim b) (0 : Int) (4194304 : Int) || !betB (Bl.core b) (0 : Int) (Bl.rim b) || !betB (Bl.land b) (0 : Int) (65536 : Int)) == false) (V.i (Bl.slow b))), pc (30 : Nat) ((True ∧ True) ∧ (((!betB (Bl.per b) (1 : Int) (65536 : Int) || !betB (Bl.rim b) (0 : Int) (4194304 : Int) || !betB (Bl.core b) (0 : Int) (Bl.rim b) || !betB (Bl.land b) (0 : Int) (65536 : Int)) == false) = true → True)) (V.gd ((!betB (Bl.per b) (1 : Int) (65536 : Int) || !betB (Bl.rim b) (0 : Int) (4194304 : Int) || !betB (Bl.core b) (0 : Int) (Bl.rim b) || !betB (Bl.land b) (0 : Int) (65536 : Int)) == false) (V.ptr [V.i (Bl.fast b)])), pc (31 : Nat) (((((!betB (Bl.per b) (1 : Int) (65536 : Int) || !betB (Bl.rim b) (0 : Int) (4194304 : Int) || !betB (Bl.core b) (0 : Int) (Bl.rim b) || !betB (Bl.land b) (0 : Int) (65536 : Int)) == false) = true → ((!betB (Bl.per b) (1 : Int) (65536 : Int) || !betB (Bl.rim b) (0 : Int) (4194304 : Int) || !betB (Bl.core b) (0 : Int) (Bl.rim b) || !betB (Bl.land b) (0 : Int) (65536 : Int)) == false) = true) ∧ True) ∧ (((!betB (Bl.per b) (1 : Int) (65536 : Int) || !betB (Bl.rim b) (0 : Int) (4194304 : Int) || !betB (Bl.core b) (0 : Int) (Bl.rim b) || !betB (Bl.land b) (0 : Int) (65536 : Int)) == false) = true → True)) (V.gd ((!betB (Bl.per b) (1 : Int) (65536 : Int) || !betB (Bl.rim b) (0 : Int) (4194304 : Int) || !betB (Bl.core b) (0 : Int) (Bl.rim b) || !betB (Bl.land b) (0 : Int) (65536 : Int)) == false) (V.i (Bl.fast b)))] kR kR ⟨⟨⟨(by (exact fun h => h)), tI⟩, (fun _ => tI)⟩, ⟨tI, (by (intro h; rw [h]; rfl))⟩, ⟨⟨tI, tI⟩, (fun _ => tI)⟩, ⟨⟨(by (exact fun h => h)), tI⟩, (fun _ => tI)⟩, ⟨⟨tI, tI⟩, (fun _ => tI)⟩, ⟨⟨(by (exact fun h => h)), tI⟩, (fun _ => tI)⟩, tI⟩ ?_
 refine e_callG 2 (g := (!betB (Bl.per b) (1 : Int) (65536 : Int) || !betB (Bl.rim b) (0 : Int) (4194304 : Int) || !betB (Bl.core b) (0 : Int) (Bl.rim b) || !betB (Bl.land b) (0 : Int) (65536 : Int)) == false) (first := []) (caps := []) kR (fun h => within5_ac b.slow 0 b.fast) kR kR kR kR kR kR ?_
 refine aops_n hTT (M := []) (n := 7) [pc (33 : Nat) (((((!betB (Bl.per b) (1 : Int) (65536 : Int) || !betB (Bl.rim b) (0 : Int) (4194304 : Int) || !betB (Bl.core b) (0 : Int) (Bl.rim b) || !betB (Bl.land b) (0 : Int) (65536 : Int)) == false) = true → ((!betB (Bl.per b) (1 : Int) (65536 : Int) || !betB (Bl.rim b) (0 : Int) (4194304 : Int) || !betB (Bl.core b) (0 : Int) (Bl.rim b) || !betB (Bl.land b) (0 : Int) (65536 : Int)) == false) = true) ∧ True) ∧ (((!betB (Bl.per b) (1 : Int) (65536 : Int) || !betB (Bl.rim b) (0 : Int) (4194304 : Int) || !betB (Bl.core b) (0 : Int) (Bl.rim b) || !betB (Bl.land b) (0 : Int) (65536 : Int)) == false) = true → True)) (V.gd ((!betB (Bl.per b) (1 : Int) (65536 : Int) || !betB (Bl.rim b) (0 : Int) (4194304 : Int) || !betB (Bl.core b) (0 : Int) (Bl.rim b) || !betB (Bl.land b) (0 : Int) (65536 : Int)) == false) (V.b !betB (Bl.slow b) (0 : Int) (Bl.fast b))), pc (34 : Nat) (True ∧ ((!betB (Bl.per b) (1 : Int) (65536 : Int) || !betB (Bl.rim b) (0 : Int) (4194304 : Int) || !betB (Bl.core b) (0 : Int) (Bl.rim b) || !betB (Bl.land b) (0 : Int) (65536 : Int)) = false → ((!betB (Bl.per b) (1 : Int) (65536 : Int) || !betB (Bl.rim b) (0 : Int) (4194304 : Int) || !betB (Bl.core b) (0 : Int) (Bl.rim b) || !betB (Bl.land b) (0 : Int) (65536 : Int)) == false) = true)) (V.b (!betB (Bl.per b) (1 : Int) (65536 : Int) || !betB (Bl.rim b) (0 : Int) (4194304 : Int) || !betB (Bl.core b) (0 : Int) (Bl.rim b) || !betB (Bl.land b) (0 : Int) (65536 : Int) || !betB (Bl.slow b) (0 : Int) (Bl.fast b))), pv (35 : Nat) (V.b (!betB (Bl.per b) (1 : Int) (65536 : Int) || !betB (Bl.rim b) (0 : Int) (4194304 : Int) || !betB (Bl.core b) (0 : Int) (Bl.rim b) || !betB (Bl.land b) (0 : Int) (65536 : Int) || !betB (Bl.slow b) (0 : Int) (Bl.fast b))), pc (36 : Nat) ((True ∧ True) ∧ (((!betB (Bl.per b) (1 : Int) (65536 : Int) || !betB (Bl.rim b) (0 : Int) (4194304 : Int) || !betB (Bl.core b) (0 : Int) (Bl.rim b) || !betB (Bl.land b) (0 : Int) (65536 : Int) || !betB (Bl.slow b) (0 : Int) (Bl.fast b)) == false) = true → True)) (V.gd ((!betB (Bl.per b) (1 : Int) (65536 : Int) || !betB (Bl.rim b) (0 : Int) (4194304 : Int) || !betB (Bl.core b) (0 : Int) (Bl.rim b) || !betB (Bl.land b) (0 : Int) (65536 : Int) || !betB (Bl.slow b) (0 : Int) (Bl.fast b)) == false) (V.ptr [V.i (Bl.fast b)])), pc (37 : Nat) (((((!betB (Bl.per b) (1 : Int) (65536 : Int) || !betB (Bl.rim b) (0 : Int) (4194304 : Int) || !betB (Bl.core b) (0 : Int) (Bl.rim b) || !betB (Bl.land b) (0 : Int) (65536 : Int) || !betB (Bl.slow b) (0 : Int) (Bl.fast b)) == false) = true → ((!betB (Bl.per b) (1 : Int) (65536 : Int) || !betB (Bl.rim b) (0 : Int) (4194304 : Int) || !betB (Bl.core b) (0 : Int) (Bl.rim b) || !betB (Bl.land b) (0 : Int) (65536 : Int) || !betB (Bl.slow b) (0 : Int) (Bl.fast b)) == false) = true) ∧ True) ∧ (((!betB (Bl.per b) (1 : Int) (65536 : Int) || !betB (Bl.rim b) (0 : Int) (4194304 : Int) || !betB (Bl.core b) (0 : Int) (Bl.rim b) || !betB (Bl.land b) (0 : Int) (65536 : Int) || !betB (Bl.slow b) (0 : Int) (Bl.fast b)) == false) = true → True)) (V.gd ((!betB (Bl.per b) (1 : Int) (65536 : Int) || !betB (Bl.rim b) (0 : Int) (4194304 : Int) || !betB (Bl.core b) (0 : Int) (Bl.rim b) || !betB (Bl.land b) (0 : Int) (65536 : Int) || !betB (Bl.slow b) (0 : Int) (Bl.fast b)) == false) (V.i (Bl.fast b))), pc (38 : Nat) (((((!betB (Bl.per b) (1 : Int) (65536 : Int) || !betB (Bl.rim b) (0 : Int) (4194304 : Int) || !betB (Bl.core b) (0 : Int) (Bl.rim b) || !betB (Bl.land b) (0 : Int) (65536 : Int) || !betB (Bl.slow b) (0 : Int) (Bl.fast b)) == false) = true → ((!betB (Bl.per b) (1 : Int) (65536 : Int) || !betB (Bl.rim b) (0 : Int) (4194304 : Int) || !betB (Bl.core b) (0 : Int) (Bl.rim b) || !betB (Bl.land b) (0 : Int) (65536 : Int) || !betB (Bl.slow b) (0 : Int) (Bl.fast b)) == false) = true) ∧ True ∧ True) ∧ (((!betB (Bl.per b) (1 : Int) (65536 : Int) || !betB (Bl.rim b) (0 : Int) (4194304 : Int) || !betB (Bl.core b) (0 : Int) (Bl.rim b) || !betB (Bl.land b) (0 : Int) (65536 : Int) || !betB (Bl.slow b) (0 : Int) (Bl.fast b)) == false) = true → True)) (V.gd ((!betB (Bl.per b) (1 : Int) (65536 : Int) || !betB (Bl.rim b) (0 : Int) (4194304 : Int) || !betB (Bl.core b) (0 : Int) (Bl.rim b) || !betB (Bl.land b) (0 : Int) (65536 : Int) || !betB (Bl.slow b) (0 : Int) (Bl.fast b)) == false) (V.b (decide ((65536 : Int) < Bl.fast b)))), pc (39 : Nat) (True ∧ ((!betB (Bl.per b) (1 : Int) (65536 : Int) || !betB (Bl.rim b) (0 : Int) (4194304 : Int) || !betB (Bl.core b) (0 : Int) (Bl.rim b) || !betB (Bl.land b) (0 : Int) (65536 : Int) || !betB (Bl.slow b) (0 : Int) (Bl.fast b)) = false → ((!betB (Bl.per b) (1 : Int) (65536 : Int) || !betB (Bl.rim b) (0 : Int) (4194304 : Int) || !betB (Bl.core b) (0 : Int) (Bl.rim b) || !betB (Bl.land b) (0 : Int) (65536 : Int) || !betB (Bl.slow b) (0 : Int) (Bl.fast b)) == false) = true)) (V.b (!betB (Bl.per b) (1 : Int) (65536 : Int) || !betB (Bl.rim b) (0 : Int) (4194304 : Int) || !betB (Bl.core b) (0 : Int) (Bl.rim b) || !betB (Bl.land b) (0 : Int) (65536 : Int) || !betB (Bl.slow b) (0 : Int) (Bl.fast b) || decide ((65536 : Int) < Bl.fast b)))] kR kR ⟨⟨⟨(by (exact fun h => h)), tI⟩, (fun _ => tI)⟩, ⟨tI, (by (intro h; rw [h]; rfl))⟩, ⟨⟨tI, tI⟩, (fun _ => tI)⟩, ⟨⟨(by (exact fun h => h)), tI⟩, (fun _ => tI)⟩, ⟨⟨(by (exact fun h => h)), ⟨tI, tI⟩⟩, (fun _ => tI)⟩, ⟨tI, (by (intro h; rw [h]; rfl))⟩, tI⟩ ?_
 refine aops_nil ?_
 refine xt_n ?_
 refine hK _ ?_
 clear hK K
 refine w_cond (t := !betB (Bl.per b) (1 : Int) (65536 : Int) || !betB (Bl.rim b) (0 : Int) (4194304 : Int) || !betB (Bl.core b) (0 : Int) (Bl.rim b) || !betB (Bl.land b) (0 : Int) (65536 : Int) || !betB (Bl.slow b) (0 : Int) (Bl.fast b) || decide ((65536 : Int) < Bl.fast b)) kR (fun c1 => ?_) (fun c1 => ?_)
 ·
  have e : blE b = 2 := blE_2 fun ⟨⟨q1, q2⟩, ⟨q3, q4⟩, ⟨q5, q6⟩, ⟨q7, q8⟩, ⟨q9, q10⟩, q11, q12⟩ => by
   simp [betB] at c1
   omega
  refine aw_seq_k fun K hK => ?_
  refine w_region (n' := 4) kR kR ?_
  refine aops_n hTT (M := []) (n := 1) [pv (2 : Nat) (V.i (2 : Int))] kR kR tI ?_
  refine aops_nil ?_
  refine xt_n ?_
  refine hK _ ?_
  clear hK K
  refine aw_ret ?_
  refine xt_r ?_
  rw [e]
  refine ret_pure (v' := V.i (2 : Int)) (.inr rfl) kR kR kR
 ·
  have e : blE b = 0 := blE_ok.2 (by
   simp [betB] at c1
   unfold Bl.ok
   omega)
  refine aw_skip ?_
  refine xt_n ?_
  refine hK _ ?_
  clear hK K
  refine aw_seq_k fun K hK => ?_
  refine w_region (n' := 4) kR kR ?_
  refine aops_n hTT (M := []) (n := 1) [pv (2 : Nat) (V.i (0 : Int))] kR kR tI ?_
  refine aops_nil ?_
  refine xt_n ?_
  refine hK _ ?_
  clear hK K
  refine aw_ret ?_
  rw [e]
  refine ret_pure (v' := V.i (0 : Int)) (.inr rfl) kR kR kR
set_option maxRecDepth 100000 in
theorem cut_no (c : Cut) (b : Bl) (p : List Pt) (m : Nat) (h : m < p.length ∨ blE b ≠ 0) : AC Tryz.prog 9 [V.pts p, c.v, b.v, .i m] (.tup [.nil, .b false]) [] := by
 refine acI hTT hMX Tryz.func9 Tryz.ntmps9 fun C hC hF => ?_
 refine aw_seq_k fun K hK => wR 2 ?_; refine aX hTT 4 [] tI ?_; refine aops_nil (xt_n (hK _ ?_)); clear hK K; refine aw_seq_k fun K hK => ?_; refine aw_seq_k fun K hK => wR 3 ?_; refine aX hTT 6 [(5, .c (gA (decide ((↑m : Int) < (↑(List.length p) : Int)) == false) True))] ⟨⟨⟨tI, tI⟩, (fun _ => tI)⟩, tI⟩ ?_
 refine eG 1 (g := decide ((↑m : Int) < (↑(List.length p) : Int)) == false) (fun h => rCheck5_ac b) ?_
 refine aX hTT 2 [(0, .c (gD (decide ((↑m : Int) < (↑(List.length p) : Int)) == false) True)), (1, .c (True ∧ (decide ((↑m : Int) < (↑(List.length p) : Int)) = false → (decide ((↑m : Int) < (↑(List.length p) : Int)) == false) = true)))] ⟨⟨⟨(by (exact fun h => h)), ⟨tI, tI⟩⟩, (fun _ => tI)⟩, ⟨tI, (by (intro h; rw [h]; rfl))⟩, tI⟩ ?_; refine aops_nil (xt_n (hK _ ?_)); clear hK K
 refine w_cond (t := decide ((↑m : Int) < (↑(List.length p) : Int)) || !decide (blE b = (0 : Int))) kR (fun c1 => ?_) (fun c1 => ?_)
 ·
  refine aw_seq_k fun K hK => ?_
  refine wR 4 ?_; refine aX hTT 2 [] tI ?_; refine aops_nil (xt_n (hK _ ?_)); clear hK K
  refine aw_ret ?_
  refine xt_r ?_
  refine rP (V.tup [V.nil, V.b false])
 ·
  simp at c1
  omega
set_option maxRecDepth 100000 in
theorem cut_some (c : Cut) (b : Bl) (p : List Pt) (m : Nat) (h : p.length ≤ m ∧ blE b = 0) (hl : p.length ≤ 4611686018427387904) (hr : ∀ k, k < p.length → inR2 (gp p k)) : AC Tryz.prog 9 [V.pts p, c.v, b.v, .i m] (.tup [V.pts (cutR c p).1, .b (decide ((cutR c p).2 = 0))]) [] := by
 refine acI hTT hMX Tryz.func9 Tryz.ntmps9 fun C hC hF => ?_
 refine aw_seq_k fun K hK => wR 2 ?_; refine aX hTT 4 [] tI ?_; refine aops_nil (xt_n (hK _ ?_)); clear hK K; refine aw_seq_k fun K hK => ?_; refine aw_seq_k fun K hK => wR 3 ?_; refine aX hTT 6 [(5, .c (gA (decide ((↑m : Int) < (↑(List.length p) : Int)) == false) True))] ⟨⟨⟨tI, tI⟩, (fun _ => tI)⟩, tI⟩ ?_
 refine eG 1 (g := decide ((↑m : Int) < (↑(List.length p) : Int)) == false) (fun h => rCheck5_ac b) ?_
 refine aX hTT 2 [(0, .c (gD (decide ((↑m : Int) < (↑(List.length p) : Int)) == false) True)), (1, .c (True ∧ (decide ((↑m : Int) < (↑(List.length p) : Int)) = false → (decide ((↑m : Int) < (↑(List.length p) : Int)) == false) = true)))] ⟨⟨⟨(by (exact fun h => h)), ⟨tI, tI⟩⟩, (fun _ => tI)⟩, ⟨tI, (by (intro h; rw [h]; rfl))⟩, tI⟩ ?_; refine aops_nil (xt_n (hK _ ?_)); clear hK K
 refine w_cond (t := decide ((↑m : Int) < (↑(List.length p) : Int)) || !decide (blE b = (0 : Int))) kR (fun c1 => ?_) (fun c1 => ?_)
 ·
  simp at c1
  omega
 ·
  refine aw_skip ?_
  refine xt_n (hK _ ?_); clear hK K; refine aw_seq_k fun K hK => wR 4 ?_; refine aX hTT 2 [] tI ?_
  refine eC (refCut_ac c p hl hr) ?_
  refine aX hTT 5 [] tI ?_; refine aops_nil (xt_n (hK _ ?_)); clear hK K; refine aw_seq_k fun K hK => wR 5 ?_; refine aX hTT 5 [] tI ?_; refine aops_nil (xt_n (hK _ ?_)); clear hK K
  refine aw_ret ?_
  refine rP (V.tup [V.sl 2 (List.length (Prod.fst (cutR c p))) fun (k : Nat) => [V.i (Prod.fst (gp (Prod.fst (cutR c p)) k)), V.i (Prod.snd (gp (Prod.fst (cutR c p)) k))], V.b (decide (Prod.snd (cutR c p) = (0 : Int)))])
theorem SOk.take {b : Bl} {l : List Pt} (h : SOk b l) (k : Nat) : SOk b (l.take k) := by
 refine ⟨h.b0, gChk_ok.2 ⟨?_, fun j hj => ?_⟩⟩
 ·
  have := h.len
  rw [List.length_take]; omega
 ·
  rw [List.length_take] at hj
  have : gp (l.take k) j = gp l j := by
   simp [gp, List.getD_eq_getElem?_getD, List.getElem?_take, show j < k by omega]
  rw [this]
  exact (gChk_ok.1 h.l0).2 j oM
end Go.Proofs.YtplnhbenmgclfaaGreatDoor

namespace Go.Proofs.YtplnhbenmgclfaaGreatDoor
open Go.Ab Go.RowKit Go.Dw Go.Shelf
def optP : Option Pt → V
 | none => .c (.pointer none)
 | some p => .ptr [.i p.1, .i p.2]
def stepP (b : Option Pt) (h : Pt) : Int := match b with
 | none => 0
 | some b => max (gAmt (h.1 - b.1)) (gAmt (h.2 - b.2))
def bendP (b : Option Pt) (h : Pt) (a : Option Pt) : Int := match b, a with
 | some b, some a => max (gAmt (b.1 + a.1 - 2 * h.1)) (gAmt (b.2 + a.2 - 2 * h.2))
 | _, _ => 0
def gArc (r per : Int) : Int := (710 * r * (710 * r)).tdiv (113 * per * (113 * per))
def thinB (c : Cut) (h : Pt) : Bool := decide (h.2 - h.1 < c.thin)
def wideB (c : Cut) (h : Pt) : Bool := decide (c.wide < h.2 - h.1)
def steepB (c : Cut) (r per : Int) (b : Option Pt) (h : Pt) : Bool := decide (710 * r * c.slope < 113000 * per * stepP b h)
def suddenB (c : Cut) (b : Option Pt) (h : Pt) (a : Option Pt) : Bool := decide (c.jerk < bendP b h a)
def sharpB (c : Cut) (r per : Int) (b : Option Pt) (h : Pt) (a : Option Pt) : Bool := decide (gArc r per < bendP b h a * c.sty)
def ruleB (c : Cut) (r per : Int) (b : Option Pt) (h : Pt) (a : Option Pt) : Nat → Bool
 | 1 => thinB c h
 | 2 => wideB c h
 | 3 => steepB c r per b h
 | 4 => suddenB c b h a
 | _ => sharpB c r per b h a
def ruleP (c : Cut) (r per : Int) (b : Option Pt) (h : Pt) (a : Option Pt) : Int :=
 if thinB c h then 1 else if wideB c h then 2 else if steepB c r per b h then 3 else if suddenB c b h a then 4 else if sharpB c r per b h a then 5 else 0
def Ed (p : Pt) : Prop := (-4194304 ≤ p.1 ∧ p.1 ≤ 4194304) ∧ -4194304 ≤ p.2 ∧ p.2 ≤ 4194304
def EdO : Option Pt → Prop
 | none => True
 | some p => Ed p
theorem stepP_bd {b : Option Pt} {h : Pt} (hb : EdO b) (hh : Ed h) : 0 ≤ stepP b h ∧ stepP b h ≤ 8388608 := by
 cases b with
 | none => simp [stepP]
 | some b =>
  unfold EdO Ed at hb
  unfold Ed at hh
  simp only [stepP, gAmt]
  omega
theorem bendP_bd {b a : Option Pt} {h : Pt} (hb : EdO b) (hh : Ed h) (ha : EdO a) : 0 ≤ bendP b h a ∧ bendP b h a ≤ 16777216 := by
 cases b with
 | none => simp [bendP]
 | some b =>
  cases a with
  | none => simp [bendP]
  | some a =>
   unfold EdO Ed at hb ha
   unfold Ed at hh
   simp only [bendP, gAmt]
   omega
structure Plc (r per : Int) : Prop where
 r : 0 ≤ r ∧ r ≤ 4194304
 p : 1 ≤ per ∧ per ≤ 65536
theorem way_bd {r per : Int} (h : Plc r per) : (0 ≤ 710 * r ∧ 710 * r ≤ 2977955840) ∧ (0 ≤ 710 * r * (710 * r) ∧ 710 * r * (710 * r) ≤ 8868220984990105600) ∧ (113 ≤ 113 * per ∧ 113 * per ≤ 7405568) ∧ 12769 ≤ 113 * per * (113 * per) ∧ 113 * per * (113 * per) ≤ 54842437402624 := by
 obtain ⟨⟨a, b⟩, c, d⟩ := h
 have h1 : 0 ≤ (710 * r) * (710 * r) := Int.mul_nonneg oM oM
 have h2 : (710 * r) * (710 * r) ≤ 2977955840 * 2977955840 := Int.mul_le_mul oM oM oM oM
 have h3 : 113 * 113 ≤ (113 * per) * (113 * per) := Int.mul_le_mul oM oM oM oM
 have h4 : (113 * per) * (113 * per) ≤ 7405568 * 7405568 := Int.mul_le_mul oM oM oM oM
 have e1 : (2977955840 : Int) * 2977955840 = 8868220984990105600 := by decide
 have e2 : (7405568 : Int) * 7405568 = 54842437402624 := by decide
 exact ⟨by omega, ⟨h1, by omega⟩, by omega, by omega, by omega⟩
end Go.Proofs.YtplnhbenmgclfaaGreatDoor
