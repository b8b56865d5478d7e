/-
  Several texts in one: The small examples of the layers up to 4, run by the machine. No condition. .. Programmes: walks of take.Render and take.Split, where all is valid. Conditions: told in each theorem.
-/
import Derived.Test.YtpmchnojeloohaaGreatDoorX02
import Derived.Test.YtpmchnojeloohaaGreatDoorMC
import Derived.Test.YtpmchnojeloohaaGreatDoorAbs42
import Derived.Test.YtpmchnojeloohaaGreatDoorX05
namespace Go.Proofs.YtpmchnojeloohaaGreatDoor
open Go.Ab Go.RowKit Go.Dw Go.Shelf
def evMu : List Nat := [81, 45, 93, 82, 114, 94, 61, 120, 136, 138, 143, 160, 171, 172, 173, 174, 175, 176, 177, 178, 186, 189, 190, 195]
def evM : ML := [(91, [21]), (121, [8]), (27, [24])]
def evLit (sz n : Nat) (cs : List V) : V := .sl sz n fun i => (cs.drop (i * sz)).take sz
def evR1 (l : List Int) : V := evLit 1 l.length (l.map V.i)
def evFl : List (Int × Int) → List V
  | [] => []
  | x :: l => .i x.1 :: .i x.2 :: evFl l
def evR2 (l : List (Int × Int)) : V := evLit 2 l.length (evFl l)
def evQ1 (l : List Int) : V := .sl 1 l.length (rowOf (l.map fun x => [.i x]))
def evQ2 (l : List (Int × Int)) : V := .sl 2 l.length (rowOf (l.map fun x => [.i x.1, .i x.2]))
theorem evIdf (l : List (List V)) (h : l.all V.idfL = true) (i : Nat) : V.idfL (rowOf l i) = true := rowOf_idf h i
def evCut : V := .agg [.i 400, .i 2000, .i 200, .i 2000, .i 1000, .i 1000, .i 100]
def evPt : List (Int × Int) := [(-400, 400), (-200, 600), (-400, 400)]
set_option maxRecDepth 100000 in
theorem ev_Cut0 : AM Tryz.prog 11 [evCut, evR2 [(0, 0), (100, 100), (0, 0)]] [] (.tup [.own 0, .i 0]) [] [.row 61 2 3 (rowOf [[.i (-400), .i 400], [.i (-200), .i 600], [.i (-400), .i 400]])] := cAM' hTT hMX evM evMu kR kR
theorem ev_Cut : AC Tryz.prog 11 [evCut, evR2 [(0, 0), (100, 100), (0, 0)]] (.tup [evQ2 evPt, .i 0]) [] := AC.shut1 (ev_Cut0.ac (by decide)) rfl (fun _ _ => rfl) (evIdf _ rfl) rfl rfl
set_option maxRecDepth 100000 in
theorem ev_L : AC Tryz.prog 56 [evCut, evQ2 evPt, .i 1000] (.tup [.i 31831, .i 0]) [] := AM.ac (cAM' hTT hMX evM evMu kR kR) (by decide)
set_option maxRecDepth 100000 in
theorem ev_Ap0 : AM Tryz.prog 57 [.agg [evR1 [64], evR1 [128], .i 256], evR1 [100, 0, 0, -3]] [] (.tup [.own 0, .i 0]) [] [.row 2 1 4 (rowOf [[.i 100], [.i 75], [.i 37], [.i 15]])] := cAM' hTT hMX evM evMu kR kR
theorem ev_Ap : AC Tryz.prog 57 [.agg [evR1 [64], evR1 [128], .i 256], evR1 [100, 0, 0, -3]] (.tup [evQ1 [100, 75, 37, 15], .i 0]) [] := AC.shut1 (ev_Ap0.ac (by decide)) rfl (fun _ _ => rfl) (evIdf _ rfl) rfl rfl
def evNa : ByteArray := ⟨#[97]⟩
def evTks : V := evLit 2 1 [.c (.string evNa), evR2 [(10, -10), (5, 0)]]
def evPrt : V := evLit 7 1 [.i 0, .i 0, .i 2, .i 0, .i 0, .i 0, .i 500]
set_option maxRecDepth 100000 in
theorem ev_Ren : AC Tryz.prog 10 [evTks, evPrt] (.tup [evQ2 [(5, -5), (2, 0)], .i 0]) [] := AM.ac (cAM' hTT hMX evM evMu kR kR) (by decide)
def evTrk (n : Nat) (l : List Int) : V := evLit 3 n (l.map V.i)
def evNf : ByteArray := ⟨#[102]⟩
def evFmt (l : List Int) : V := .agg (.c (.string evNf) :: l.map V.i)
set_option maxRecDepth 100000 in
theorem ev_Arr : AC Tryz.prog 74 [evFmt [1000, 400, 10, 20, 10, 30, 5], evTrk 3 [95, 20, 500, 30, 40, 800, 41, 10, 0]] (.tup [evQ1 [1, 0, 2], .i 0]) [] := AM.ac (cAM' hTT hMX evM evMu kR kR) (by decide)
set_option maxRecDepth 100000 in
theorem ev_Wid : AC Tryz.prog 23 [evFmt [1000, 400, 10, 20, 10, 30, 5], .agg [.i 95, .i 20, .i 500]] (.tup [.i 200, .i 0]) [] := AM.ac (cAM' hTT hMX evM evMu kR kR) (by decide)
end Go.Proofs.YtpmchnojeloohaaGreatDoor

namespace Go.Proofs.YtpmchnojeloohaaGreatDoor
open Go.Ab Go.RowKit Go.Dw Go.Shelf
theorem eFNT1 {x c : Bool} (h : x = c) : (x == c) = true := by rw [h]; cases c <;> rfl
def azS : ByteArray := ⟨#[97, 98, 99, 100, 101, 102, 103, 104, 105, 106, 107, 108, 109, 110, 111, 112, 113, 114, 115, 116, 117, 118, 119, 120, 121, 122, 48, 49, 50, 51, 52, 53, 54, 55, 56, 57]⟩
set_option maxRecDepth 100000 in
theorem makeSet_ac : AC Tryz.prog 155 [.c (.string azS)] (.tup [.agg asV, .b true]) [] := AM.ac (cAM' hTT hMX [] [] kR kR) (by decide)
set_option maxRecDepth 100000 in
theorem contains_ac (c : Int) (h : 0 ≤ c ∧ c ≤ 255) : AC Tryz.prog 167 [.ptr asV, .c (.int .u8 c)] (.b (chB c)) [] := by
 refine acI hTT hMX Tryz.func167 Tryz.ntmps167 fun C hC hF => ?_
 refine sX hTT 2 1 [] tI (sK fun K hK => wR 3 (aX hTT 4 [(3, .c ((0 : Int) ≤ c ∧ c < (↑(256 : Nat) : Int)))] ⟨oM, tI⟩ ?_))
 refine aops_pure rfl (ap_load1 4 (.tmp 8) (cs := List.drop (c.toNat * 1) asV) (v := .b (chB c)) (hTT.agg rfl) rfl (asV_at h)) ?_
 refine aX hTT 1 [] tI (nK hK ?_); clear hK K
 refine aw_ret ?_
 refine rP (V.b (chB c))
theorem gby_bd (s : List UInt8) (k : Nat) : 0 ≤ gby s k ∧ gby s k ≤ 255 := by
 unfold gby
 have := (s.getD k 0).toNat_lt
 omega
set_option maxRecDepth 100000 in
theorem trimRight_ac (s : List UInt8) (hl : s.length ≤ 20) (h : ∀ k, k < s.length → chB (gby s k) = true) : AC Tryz.prog 157 [nmV s, .ptr asV] (nmV []) [] := by
 refine acI hTT hMX Tryz.func157 Tryz.ntmps157 fun C hC hF => ?_
 refine sX hTT 2 1 [] tI (sK fun K hK => ?_)
 refine aw_block ?_
 refine w_loop (ι := List UInt8) (fun u => [(0, nmV u), (1, .ptr asV)]) (fun _ => []) (fun u => u.length ≤ 20 ∧ ∀ k, k < u.length → chB (gby u k) = true) (fun u => u.length) s ⟨hl, h⟩ ?_ ?_
 ·
  refine le_ren [] (.cons kR (.cons kR .nil)) .nil kR kR
 rintro u ⟨hu, hc⟩
 have hsz := bytes_size u
 refine sK fun K hK => sX hTT 2 3 [] tI ?_
 refine w_cond (t := decide ((0 : Int) < (↑(ByteArray.size (ByteArray.mk (List.toArray u))) : Int))) kR (fun c1 => ?_) (fun c1 => ?_)
 ·
  rw [hsz] at c1
  have h0 : 0 < u.length := by simp at c1; omega
  have e0 : (((ByteArray.mk u.toArray).size : Int) - 1).toNat = u.length - 1 := by rw [hsz]; omega
  have e : strB (ByteArray.mk u.toArray) (((ByteArray.mk u.toArray).size : Int) - 1).toNat = gby u (u.length - 1) := by rw [e0]; exact strB_gby u oM
  have e2 := hc (u.length - 1) oM
  have e3 : (ByteArray.mk u.toArray).extract 0 (((ByteArray.mk u.toArray).size : Int) - 1).toNat = ⟨(u.take (u.length - 1)).toArray⟩ := by rw [e0]; exact bytes_take u _
  refine aw_skip ?_
  refine xt_n (hK _ ?_); clear hK K
  refine aw_block ?_
  refine sK fun K hK => sK fun K hK => wR 3 (aX hTT 6 [(4, .i ((↑(ByteArray.size (ByteArray.mk (List.toArray u))) : Int) - 1)), (5, .c ((0 : Int) ≤ (↑(ByteArray.size (ByteArray.mk (List.toArray u))) : Int) - 1 ∧ (↑(ByteArray.size (ByteArray.mk (List.toArray u))) : Int) - 1 < (↑(ByteArray.size (ByteArray.mk (List.toArray u))) : Int)))] ⟨oM, oM, tI⟩ ?_)
  refine eC (contains_ac (strB (ByteArray.mk u.toArray) (((ByteArray.mk u.toArray).size : Int) - 1).toNat) (by rw [e]; exact gby_bd u _)) ?_
  rw [e, e2]
  refine aX hTT 1 [] tI (nK hK ?_); clear hK K; refine w_false (t := false) kR rfl ?_
  refine aw_skip ?_
  refine xt_n (hK _ ?_); clear hK K; refine wR 4 (aX hTT 6 [(3, .i ((↑(ByteArray.size (ByteArray.mk (List.toArray u))) : Int) - 1)), (4, .c ((0 : Int) ≤ (0 : Int) ∧ (0 : Int) ≤ (↑(ByteArray.size (ByteArray.mk (List.toArray u))) : Int) - 1 ∧ (↑(ByteArray.size (ByteArray.mk (List.toArray u))) : Int) - 1 ≤ (↑(ByteArray.size (ByteArray.mk (List.toArray u))) : Int)))] ⟨oM, ⟨oM, oM⟩, tI⟩ (aops_nil (xb_n (xt_n ?_))))
  refine ⟨u.take (u.length - 1), ⟨by rw [List.length_take]; omega, fun k hk => ?_⟩, ?_, by rw [List.length_take]; omega⟩
  ·
   rw [List.length_take] at hk
   have : gby (u.take (u.length - 1)) k = gby u k := by simp [gby, List.getElem?_take, show k < u.length - 1 by omega, List.getElem?_eq_getElem (show k < u.length by omega)]
   rw [this]
   exact hc k oM
  ·
   refine le_ren (tl := [(0, V.c (Value.string (ByteArray.mk (List.toArray (List.take (List.length u - 1) u))))), (1, V.ptr asV)]) [] (.cons ?_ (.cons kR .nil)) .nil kR kR
   exact congrArg (fun b => V.c (Value.string b)) e3
 ·
  rw [hsz] at c1
  obtain rfl : u = [] := by
   cases u with
   | nil => rfl
   | cons a t => simp at c1
  refine aw_exit ?_
  refine xt_x ?_; refine xt_x ?_
  refine xb_same ?_
  refine xt_n ?_; clear hK K; refine hK _ ?_; clear hK K; refine sX hTT 3 2 [] tI ?_
  refine aw_ret ?_
  refine rP (V.c (Value.string (ByteArray.mk #[])))
set_option maxRecDepth 100000 in
theorem trimLeft_ac : AC Tryz.prog 156 [nmV [], .ptr asV] (nmV []) [] := by
 refine acI hTT hMX Tryz.func156 Tryz.ntmps156 fun C hC hF => ?_
 refine sX hTT 2 1 [] tI (sK fun K hK => ?_)
 refine aw_block ?_
 refine w_loop (ι := Unit) (fun _ => [(0, nmV []), (1, .ptr asV)]) (fun _ => []) (fun _ => True) (fun _ => 0) () trivial ?_ ?_
 ·
  refine le_ren [] (.cons kR (.cons kR .nil)) .nil kR kR
 intro _ _
 refine sK fun K hK => sX hTT 2 3 [] tI (w_false (t := false) kR rfl ?_)
 refine aw_exit ?_
 refine xt_x ?_; refine xt_x ?_
 refine xb_same ?_
 refine xt_n ?_; clear hK K; refine hK _ ?_; clear hK K; refine sX hTT 3 2 [] tI ?_
 refine aw_ret ?_
 refine rP (V.c (Value.string (ByteArray.mk #[])))
abbrev yyNT10 : Ob := Ob.box 246 asV
abbrev wt1B0 (s : List UInt8) : Bool := (ByteArray.toList (ByteArray.mk (List.toArray s)) == ByteArray.toList (ByteArray.mk #[])) == false
abbrev wt1B1 (s : List UInt8) : Bool := (!ByteArray.toList (ByteArray.mk (List.toArray s)) == ByteArray.toList (ByteArray.mk #[])) == true
abbrev wt1B2 (s : List UInt8) : Bool := (!ByteArray.toList (ByteArray.mk (List.toArray s)) == ByteArray.toList (ByteArray.mk #[]) && decide ((↑(ByteArray.size (ByteArray.mk (List.toArray s))) : Int) ≤ 20)) == true
set_option maxRecDepth 100000 in
theorem trim_ac (s : List UInt8) (h : nmB s = true) : AC Tryz.prog 141 [nmV s, .c (.string azS)] (nmV []) [] := by
 obtain ⟨h1, h2, h3⟩ := nmB_inv h
 have e2 : decide (s = []) = false := decide_eq_false fun h => by rw [h] at h1; simp at h1
 have e : ((ByteArray.mk s.toArray).toList == (ByteArray.mk #[]).toList) = false := (bytes_beq s []).trans e2
 refine acI hTT hMX Tryz.func141 Tryz.ntmps141 fun C hC hF => ?_
 refine sK fun K hK => wR 2 ?_
 refine aops_n hTT (M := []) (n := 1) [pv 4 (V.c (Value.string (ByteArray.mk #[])))] kR kR tI ?_
 refine nK hK ?_; clear hK K; refine sK fun K hK => sK fun K hK => wR 3 ?_
 refine aops_n hTT (M := []) (n := 6) [pv 7 (V.c (Value.string (ByteArray.mk (List.toArray s)))), pv 8 (V.b (ByteArray.toList (ByteArray.mk (List.toArray s)) == ByteArray.toList (ByteArray.mk #[]))), pv 9 (V.b (ByteArray.toList (ByteArray.mk (List.toArray s)) == ByteArray.toList (ByteArray.mk #[]))), pc 10 ((True ∧ True) ∧ ((wt1B0 s) = true → True)) (V.gd (wt1B0 s) (V.c (Value.string azS))), pc 11 ((((wt1B0 s) = true → (wt1B0 s) = true) ∧ True ∧ True) ∧ ((wt1B0 s) = true → True)) (V.gd (wt1B0 s) (V.b false)), pc 12 (True ∧ ((ByteArray.toList (ByteArray.mk (List.toArray s)) == ByteArray.toList (ByteArray.mk #[])) = false → (wt1B0 s) = true)) (V.b (ByteArray.toList (ByteArray.mk (List.toArray s)) == ByteArray.toList (ByteArray.mk #[]) && true))] kR kR ⟨⟨⟨tI, tI⟩, (fun _ => tI)⟩, ⟨⟨(by (exact fun h => h)), ⟨tI, tI⟩⟩, (fun _ => tI)⟩, ⟨tI, eFNT1⟩, tI⟩ ?_
 refine nK hK ?_; clear hK K
 rw [e]
 refine w_cond (t := false) kR (fun c1 => ?_) (fun c1 => ?_)
 ·
  cases c1
 refine aw_skip ?_
 refine xt_n (hK _ ?_); clear hK K; refine sK fun K hK => sK fun K hK => wR 4 ?_
 refine aops_n hTT (M := []) (n := 8) [pv 14 (V.c (Value.string azS)), pv 15 (V.i 36), pv 16 (V.b false), pv 17 (V.b false), pc 18 ((True ∧ True) ∧ ((false == true) = true → True)) (V.gd (false == true) (V.c (Value.string azS))), pc 19 ((((false == true) = true → (false == true) = true) ∧ True ∧ True) ∧ ((false == true) = true → (0 : Int) ≤ (0 : Int) ∧ (0 : Int) < (↑(ByteArray.size azS) : Int))) (V.gd (false == true) (V.c (Value.int IntKind.u8 97))), pc 20 ((((false == true) = true → (false == true) = true) ∧ True ∧ True) ∧ ((false == true) = true → True)) (V.gd (false == true) (V.b true)), pc 21 ((false = true → (false == true) = true) ∧ True) (V.b false)] kR kR ⟨⟨⟨tI, tI⟩, (fun _ => tI)⟩, ⟨⟨(by (exact fun h => h)), ⟨tI, tI⟩⟩, (by (intro h; simp at h; done))⟩, ⟨⟨(by (exact fun h => h)), ⟨tI, tI⟩⟩, (fun _ => tI)⟩, ⟨(by (exact fun h => h)), tI⟩, tI⟩ ?_
 refine nK hK ?_; clear hK K; refine w_false (t := false) kR rfl ?_
 refine aw_skip ?_
 refine xt_n (hK _ ?_); clear hK K; refine sK fun K hK => sK fun K hK => wR 5 ?_
 refine aops_n hTT (M := []) (n := 1) [pv 30 (V.c (Value.string azS))] kR kR tI ?_
 refine eC (makeSet_ac) ?_
 refine aops_n hTT (M := []) (n := 6) [pv 29 (V.tup [V.agg asV, V.b true]), pv 32 (V.agg asV), pv 33 (V.b true), pn 5 (V.ref 400005 0) (400005 : Nat) (Ob.box 246 (List.replicate 256 (V.b false))), pw ((0 : Nat) + (256 : Nat) ≤ (256 : Nat)) (400005 : Nat) (yyNT10), pv 6 (V.b true)] kR kR ⟨oM, tI⟩ ?_
 refine nK hK ?_; clear hK K; refine sK fun K hK => wR 6 ?_
 refine aops_n hTT (M := []) (n := 1) [pv 34 (V.b true)] kR kR tI ?_
 refine nK hK ?_; clear hK K; refine w_true (t := true) kR rfl (sK fun K hK => ?_)
 refine w_le (s' := ⟨mkT [(0, nmV s), (5, .ref 1 0), (6, .b true)], mkS [(1, .box 246 asV)], 1⟩) ?_ ?_
 ·
  refine le_ren (sl := [(1, Ob.box 246 asV)]) [(1, 400005)] (.cons kR (.cons kR (.cons kR .nil))) (.cons ⟨yyNT10, kR, .box kR⟩ .nil) kR kR
 refine w_le (le_freezeBox (t := 246) (cs := asV) 1 kR asV_idf) ?_
 refine wR 2 ?_
 refine aops_n hTT (M := []) (n := 1) [pv 35 (V.c (Value.string (ByteArray.mk (List.toArray s))))] kR kR tI ?_
 refine eC (trimRight_ac s h2 h3) ?_
 skip
 refine eC (trimLeft_ac) ?_
 refine aops_n hTT (M := []) (n := 1) [pv 4 (V.c (Value.string (ByteArray.mk #[])))] kR kR tI ?_
 refine nK hK ?_; clear hK K
 refine aw_ret ?_
 refine xt_r ?_
 refine rP (V.c (Value.string (ByteArray.mk #[])))
set_option maxRecDepth 100000 in
theorem isName_ac (s : List UInt8) (h : nmB s = true) : AC Tryz.prog 123 [nmV s] (.b true) [] := by
 obtain ⟨h1, h2, h3⟩ := nmB_inv h
 have hsz := bytes_size s
 have e2 : decide (s = []) = false := decide_eq_false fun h => by rw [h] at h1; simp at h1
 have e : ((ByteArray.mk s.toArray).toList == (ByteArray.mk #[]).toList) = false := (bytes_beq s []).trans e2
 have e3 : ((ByteArray.mk ([] : List UInt8).toArray).toList == (ByteArray.mk #[]).toList) = true := (bytes_beq [] []).trans (by decide)
 refine acI hTT hMX Tryz.func123 Tryz.ntmps123 fun C hC hF => ?_
 refine sX hTT 2 1 [] tI (sK fun K hK => wR 3 ?_); refine aX hTT 9 [(3, .c (gA (wt1B1 s) True)), (4, .c (gB (wt1B1 s) True)), (5, .c (gD (wt1B1 s) True)), (6, .c (((!ByteArray.toList (ByteArray.mk (List.toArray s)) == ByteArray.toList (ByteArray.mk #[])) = true → (wt1B1 s) = true) ∧ True)), (8, .c (gA (wt1B2 s) True))] ⟨⟨⟨tI, tI⟩, (fun _ => tI)⟩, ⟨⟨(by (exact fun h => h)), tI⟩, (fun _ => tI)⟩, ⟨⟨(by (exact fun h => h)), ⟨tI, tI⟩⟩, (fun _ => tI)⟩, ⟨eFNT1, tI⟩, ⟨⟨tI, tI⟩, (fun _ => tI)⟩, tI⟩ ?_
 refine eG 1 (g := (!ByteArray.toList (ByteArray.mk (List.toArray s)) == ByteArray.toList (ByteArray.mk #[]) && decide ((↑(ByteArray.size (ByteArray.mk (List.toArray s))) : Int) ≤ 20)) == true) (fun g => trim_ac s h) ?_
 refine aX hTT 3 [(0, .c (gD (wt1B2 s) True)), (1, .c (((!ByteArray.toList (ByteArray.mk (List.toArray s)) == ByteArray.toList (ByteArray.mk #[]) && decide ((↑(ByteArray.size (ByteArray.mk (List.toArray s))) : Int) ≤ 20)) = true → (wt1B2 s) = true) ∧ True))] ⟨⟨⟨(by (exact fun h => h)), ⟨tI, tI⟩⟩, (fun _ => tI)⟩, ⟨eFNT1, tI⟩, tI⟩ ?_; refine nK hK ?_; clear hK K
 refine aw_ret ?_
 rw [show (V.b true) = V.b (!((ByteArray.mk s.toArray).toList == (ByteArray.mk #[]).toList) && decide (((ByteArray.mk s.toArray).size : Int) ≤ 20) && ((ByteArray.mk ([] : List UInt8).toArray).toList == (ByteArray.mk #[]).toList)) by rw [e, e3, hsz]; simp; omega]
 refine rP (V.b (!ByteArray.toList (ByteArray.mk (List.toArray s)) == ByteArray.toList (ByteArray.mk #[]) && decide ((↑(ByteArray.size (ByteArray.mk (List.toArray s))) : Int) ≤ 20) && true))
set_option maxRecDepth 100000 in
theorem checkTake_ac (t : Tk) (h1 : t.2.length ≤ 4096) (h2 : tkBad t = false) : AC Tryz.prog 97 [.agg [nmV t.1, V.pts t.2]] (.i 0) [] := by
 simp only [tkBad, Bool.or_eq_false_iff, Bool.not_eq_false', decide_eq_false_iff_not] at h2
 have A := tCheckSamples_ac t.2 oM
 have e : sChk t.2 = 0 := by rw [sChk, if_neg oM, if_pos h2.2]
 rw [e] at A
 refine acI hTT hMX Tryz.func97 Tryz.ntmps97 fun C hC hF => ?_
 refine sX hTT 2 2 [] tI (sK fun K hK => wR 3 (aX hTT 2 [] tI ?_))
 refine eC (A) ?_
 refine aX hTT 1 [] tI (nK hK ?_); clear hK K; refine sK fun K hK => sK fun K hK => wR 4 ?_; refine aX hTT 5 [(3, .c (gA (true == true) True)), (4, .c (gB (true == true) True))] ⟨⟨⟨tI, tI⟩, (fun _ => tI)⟩, ⟨⟨(by (exact fun h => h)), tI⟩, (fun _ => tI)⟩, tI⟩ ?_
 refine eG 1 (g := true == true) (fun g => isName_ac t.1 h2.1.1) ?_
 refine aX hTT 8 [(0, .c (gB (true == true) True)), (1, .c (gB (true == true) True)), (2, .c (gA (true == true && false == false) True)), (3, .c (gB (true == true && false == false) True)), (4, .c (gB (true == true && false == false) True)), (5, .c (gD (true == true && false == false) True)), (6, .c (((true == true) = true → (true == true) = true) ∧ ((true == true) = true → True) ∧ ((true == true) = true → false = false → (true == true && false == false) = true))), (7, .c ((true = true → (true == true) = true) ∧ True))] ⟨⟨⟨(by (exact fun h => h)), tI⟩, (fun _ => tI)⟩, ⟨⟨(by (exact fun h => h)), tI⟩, (fun _ => tI)⟩, ⟨⟨tI, tI⟩, (fun _ => tI)⟩, ⟨⟨(by (exact fun h => h)), tI⟩, (fun _ => tI)⟩, ⟨⟨(by (exact fun h => h)), tI⟩, (fun _ => tI)⟩, ⟨⟨(by (exact fun h => h)), ⟨tI, tI⟩⟩, (fun _ => tI)⟩, ⟨(by (exact fun h => h)), ⟨(fun _ => tI), (by (intro _; simp; done))⟩⟩, ⟨(by (exact fun h => h)), tI⟩, tI⟩ ?_; refine nK hK ?_; clear hK K
 refine w_cond (t := decide ((↑(List.length (Prod.snd t)) : Int) = 0)) kR (fun c1 => ?_) (fun c1 => ?_)
 ·
  have := h2.1.2
  simp at c1
  rw [c1] at this
  simp at this
 ·
  refine aw_skip ?_
  refine xt_n (hK _ ?_); clear hK K; refine sX hTT 5 2 [] tI ?_
  refine aw_ret ?_
  refine rP (V.i 0)
end Go.Proofs.YtpmchnojeloohaaGreatDoor

namespace Go.Proofs.YtpmchnojeloohaaGreatDoor
open Go.Ab Go.RowKit Go.Dw Go.Shelf
theorem eFNR2 {x c : Bool} (h : x = c) : (x == c) = true := by rw [h]; cases c <;> rfl
structure WTk (l : List Tk) : Prop where
 len : l.length ≤ 4611686018427387904
 nm : ∀ i, i < l.length → (gtk l i).1.length ≤ 9223372036854775807
 dt : ∀ i, i < l.length → (gtk l i).2.length ≤ 4611686018427387904
 rg : ∀ i, i < l.length → ∀ k, k < (gtk l i).2.length → inR2 (gp (gtk l i).2 k)
theorem any_tk {l : List Tk} {f : Tk → Bool} : l.any f = true ↔ ∃ i, i < l.length ∧ f (gtk l i) = true := by
 rw [List.any_eq_true]
 constructor
 ·
  rintro ⟨x, hx, h⟩
  obtain ⟨i, hi, rfl⟩ := mem_gtk hx
  exact ⟨i, hi, h⟩
 ·
  rintro ⟨i, hi, h⟩
  exact ⟨_, gtk_mem hi, h⟩
theorem any_tk_no {l : List Tk} {f : Tk → Bool} (h : ∀ i, i < l.length → f (gtk l i) = false) : l.any f = false := by
 cases e : l.any f with
 | false => rfl
 | true =>
  obtain ⟨i, hi, h2⟩ := any_tk.1 e
  rw [h i hi] at h2
  cases h2
theorem dupB_at {l : List Tk} {i k : Nat} (hi : i < l.length) (hk : k < i) (h : (gtk l i).1 = (gtk l k).1) : dupB l = true := by
 rw [dupB, List.any_eq_true]
 exact ⟨i, List.mem_range.2 hi, List.any_eq_true.2 ⟨k, List.mem_range.2 hk, by simpa using h⟩⟩
theorem dupB_no {l : List Tk} (h : ∀ i, i < l.length → ∀ k, k < i → (gtk l i).1 ≠ (gtk l k).1) : dupB l = false := by
 cases e : dupB l with
 | false => rfl
 | true =>
  rw [dupB, List.any_eq_true] at e
  obtain ⟨i, hi, h1⟩ := e
  rw [List.any_eq_true] at h1
  obtain ⟨k, hk, h2⟩ := h1
  exact absurd (by simpa using h2) (h i (List.mem_range.1 hi) k (List.mem_range.1 hk))
abbrev wr2B0 (x : Pr) : Bool := decide (Pr.tk x < 0) == false
abbrev wr2B1 (x : Pr) : Bool := decide ((0 : Int) ≤ Pr.inn x) == true
abbrev wr2B2 (k : Nat) : Bool := decide ((↑k : Int) = 0) == true
abbrev wr2B3 (l : List Tk) : Bool := decide ((↑(List.length l) : Int) < 1) == false
abbrev wr2B4 (x : Pr) : Bool := decide ((0 : Int) ≤ Pr.inn x) && decide (Pr.inn x ≤ 1000)
abbrev wr2B5 (k : Nat) (p : List Pr) : Bool := decide ((↑k : Int) = 0) && decide (gi (bgL p) k < 0)
abbrev wr2B6 (k : Nat) (p : List Pr) : Bool := (wr2B5 k p) == false && decide ((0 : Int) < (↑k : Int)) == true
abbrev wr2B7 (l : List Tk) (x : Pr) : Bool := decide (Pr.tk x < 0) || decide ((↑(List.length l) : Int) ≤ Pr.tk x)
abbrev wr2B8 (x : Pr) : Bool := decide ((0 : Int) ≤ Pr.inn x) && decide (Pr.inn x ≤ 1000) && decide ((0 : Int) ≤ Pr.out x)
abbrev wr2B9 (l : List Tk) (x : Pr) : Bool := decide (Pr.tk x < 0) || decide ((↑(List.length l) : Int) ≤ Pr.tk x) || decide (Pr.fr x < 0)
abbrev wr2B10 (k : Nat) (p : List Pr) : Bool := (wr2B5 k p) == false && decide ((0 : Int) < (↑k : Int)) == true && decide (Pr.gap (gpr p k) < -Pr.long (gpr p k)) == false
abbrev wr2B11 (k : Nat) (p : List Pr) : Bool := decide (Pr.gap (gpr p k) < -Pr.long (gpr p k)) || decide (Pr.gap (gpr p k) < -Pr.long (gpr p (Int.toNat ((↑k : Int) - 1))))
abbrev wr2B12 (k : Nat) (p : List Pr) : Bool := decide ((↑k : Int) = 0) && decide (gi (bgL p) k < 0) || decide ((0 : Int) < (↑k : Int)) && (wr2B11 k p)
abbrev wr2B13 (k : Nat) (p : List Pr) : Bool := (wr2B12 k p) == false && decide ((1 : Int) < (↑k : Int)) == true
abbrev wr2B14 (x : Pr) : Bool := decide ((0 : Int) ≤ Pr.inn x) && decide (Pr.inn x ≤ 1000) && decide ((0 : Int) ≤ Pr.out x) && decide (Pr.out x ≤ 1000)
abbrev wr2B15 (l : List Tk) (x : Pr) : Bool := decide (Pr.tk x < 0) || decide ((↑(List.length l) : Int) ≤ Pr.tk x) || decide (Pr.fr x < 0) || decide (Pr.to x ≤ Pr.fr x)
abbrev wr2B16 (x : Pr) : Bool := decide ((0 : Int) ≤ Pr.inn x) && decide (Pr.inn x ≤ 1000) && decide ((0 : Int) ≤ Pr.out x) && decide (Pr.out x ≤ 1000) && decide ((0 : Int) ≤ Pr.lev x)
abbrev wr2B17 (l : List Tk) (x : Pr) : Bool := decide (Pr.tk x < 0) || decide ((↑(List.length l) : Int) ≤ Pr.tk x) || decide (Pr.fr x < 0) || decide (Pr.to x ≤ Pr.fr x) || decide ((↑(List.length (Prod.snd (gtk l (Int.toNat (Pr.tk x))))) : Int) < Pr.to x)
abbrev wr2B18 (l : List Tk) (x : Pr) : Bool := decide (Pr.tk x < 0) || decide ((↑(List.length l) : Int) ≤ Pr.tk x) || decide (Pr.fr x < 0) || decide (Pr.to x ≤ Pr.fr x) || decide ((↑(List.length (Prod.snd (gtk l (Int.toNat (Pr.tk x))))) : Int) < Pr.to x) || decide (Pr.gap x < (-4096 : Int))
set_option maxHeartbeats 4000000 in
set_option maxRecDepth 100000 in
theorem rCheckTakes_ac (l : List Tk) (h : WTk l) : AC Tryz.prog 48 [V.tks l] (.i (ctE l)) [] := by
 have hlen := h.len
 refine acI hTT hMX Tryz.func48 Tryz.ntmps48 fun C hC hF => ?_
 refine sX hTT 2 1 [] tI (sK fun K hK => ?_); refine sX hTT 3 8 [(4, .c (gA (wr2B3 l) True)), (5, .c (gB (wr2B3 l) True)), (6, .c (gD (wr2B3 l) True)), (7, .c (True ∧ (decide ((↑(List.length l) : Int) < 1) = false → (wr2B3 l) = true)))] ⟨⟨⟨tI, tI⟩, (fun _ => tI)⟩, ⟨⟨(by (exact fun h => h)), tI⟩, (fun _ => tI)⟩, ⟨⟨(by (exact fun h => h)), ⟨tI, tI⟩⟩, (fun _ => tI)⟩, ⟨tI, eFNR2⟩, tI⟩ ?_
 refine w_cond (t := decide ((↑(List.length l) : Int) < 1) || decide ((16 : Int) < (↑(List.length l) : Int))) kR (fun c1 => ?_) (fun c1 => ?_)
 ·
  have e : ctE l = 6 := if_pos (by simp at c1; omega)
  refine sX hTT 4 1 [] tI ?_
  refine aw_ret ?_
  refine xt_r ?_
  rw [e]
  refine rP (V.i 6)
 have n1 : ¬ (l.length < 1 ∨ 16 < l.length) := by simp at c1; omega
 refine aw_skip ?_
 refine xt_n (hK _ ?_); clear hK K; refine sK fun K hK => sX hTT 4 1 [] tI ?_
 refine aw_block ?_
 refine w_loop (ι := Nat) (fun k => [(0, V.tks l), (3, .i k)]) (fun _ => []) (fun k => k ≤ l.length ∧ ∀ j, j < k → ¬ 4096 < (gtk l j).2.length) (fun k => l.length - k) 0 ⟨Nat.zero_le _, fun j hj => by omega⟩ ?_ ?_
 ·
  refine le_ren [] (.cons kR (.cons kR .nil)) .nil kR kR
 rintro k ⟨hk, hj⟩
 refine sK fun K hK => sX hTT 2 4 [] tI ?_
 refine w_cond (t := decide ((↑k : Int) < (↑(List.length l) : Int))) kR (fun c2 => ?_) (fun c2 => ?_)
 ·
  have hk1 : k < l.length := by simpa using c2
  have hd := h.dt k hk1
  refine aw_skip ?_
  refine xt_n (hK _ ?_); clear hK K; refine sK fun K hK => ?_
  refine aw_block ?_
  refine sX hTT 3 7 [(2, .c ((0 : Int) ≤ (↑k : Int) ∧ (↑k : Int) < (↑(List.length l) : Int)))] ⟨oM, tI⟩ ?_
  refine w_cond (t := decide ((4096 : Int) < (↑(List.length (Prod.snd (gtk l k))) : Int))) kR (fun c3 => ?_) (fun c3 => ?_)
  ·
   have h3 : 4096 < (gtk l k).2.length := by simp at c3; omega
   have e : ctE l = 6 := by rw [ctE, if_neg n1, if_pos (any_tk.2 ⟨k, hk1, by simpa using h3⟩)]
   refine sX hTT 4 1 [] tI ?_
   refine aw_ret ?_
   refine xb_r ?_
   refine xt_r (xt_r ?_)
   refine xb_r ?_
   refine xt_r ?_
   rw [e]
   refine rP (V.i 6)
  ·
   have h3 : ¬ 4096 < (gtk l k).2.length := by simp at c3; omega
   refine aw_skip ?_
   refine xb_n (xt_n (hK _ ?_)); clear hK K; refine wR 4 (aX hTT 3 [(1, .i ((↑k : Int) + 1))] ⟨oM, tI⟩ (aops_nil (xt_n ?_)))
   refine ⟨k + 1, ⟨by omega, fun j hj2 => ?_⟩, by refine le_ren [] (.cons kR (.cons kR .nil)) .nil kR kR, by omega⟩
   by_cases e : j = k
   ·
    rw [e]; exact h3
   ·
    exact hj j oM
 have n2' : (l.any fun t => decide (4096 < t.2.length)) = false := any_tk_no fun i hi => decide_eq_false (hj i (by simp at c2; omega))
 refine aw_exit ?_
 refine xt_x ?_; refine xt_x ?_
 refine xb_same ?_
 refine xt_n ?_; clear hK K; refine hK _ ?_; clear hK K; refine sK fun K hK => sX hTT 3 1 [] tI ?_
 refine aw_block ?_
 refine w_loop (ι := Nat) (fun k => [(0, V.tks l), (4, .i k)]) (fun _ => []) (fun k => k ≤ l.length ∧ ∀ j, j < k → tkBad (gtk l j) = false) (fun k => l.length - k) 0 ⟨Nat.zero_le _, fun j hj => by omega⟩ ?_ ?_
 ·
  refine le_ren [] (.cons kR (.cons kR .nil)) .nil kR kR
 rintro k' ⟨hk', hj'⟩
 have hb : ∀ i, i < l.length → ¬ 4096 < (gtk l i).2.length := fun i hi => hj i (by simp at c2; omega)
 refine sK fun K hK => sX hTT 2 4 [] tI ?_
 refine w_cond (t := decide ((↑k' : Int) < (↑(List.length l) : Int))) kR (fun c3 => ?_) (fun c3 => ?_)
 ·
  have hk1 : k' < l.length := by simpa using c3
  refine aw_skip ?_
  refine xt_n (hK _ ?_); clear hK K; refine sK fun K hK => ?_
  refine aw_block ?_
  refine sK fun K hK => wR 3 (aX hTT 4 [(2, .c ((0 : Int) ≤ (↑k' : Int) ∧ (↑k' : Int) < (↑(List.length l) : Int)))] ⟨oM, tI⟩ ?_)
  refine eC (rTake_ac (gtk l k') (h.nm k' hk1) (h.dt k' hk1) (h.rg k' hk1)) ?_
  rw [tkE, if_neg (hb k' hk1)]
  cases h4 : tkBad (gtk l k') with
  | true =>
   rw [if_pos rfl]
   refine aX hTT 1 [] tI (nK hK ?_); clear hK K; refine w_true (t := true) kR rfl (sX hTT 4 1 [] tI ?_)
   refine aw_ret ?_
   refine xb_r ?_
   refine xt_r (xt_r ?_)
   refine xb_r ?_
   refine xt_r ?_
   have e : ctE l = 2 := by rw [ctE, if_neg n1, n2', if_neg (by decide), if_pos (any_tk.2 ⟨k', hk1, h4⟩)]
   rw [e]
   refine rP (V.i 2)
  | false =>
   rw [if_neg (by decide)]
   refine aX hTT 1 [] tI (nK hK ?_); clear hK K; refine w_false (t := false) kR rfl ?_
   refine aw_skip ?_
   refine xb_n (xt_n (hK _ ?_)); clear hK K; refine wR 4 (aX hTT 3 [(1, .i ((↑k' : Int) + 1))] ⟨oM, tI⟩ (aops_nil (xt_n ?_)))
   refine ⟨k' + 1, ⟨by omega, fun j hj2 => ?_⟩, by refine le_ren [] (.cons kR (.cons kR .nil)) .nil kR kR, by omega⟩
   by_cases e : j = k'
   ·
    rw [e]; exact h4
   ·
    exact hj' j oM
 have n3 : l.any tkBad = false := any_tk_no fun i hi => hj' i (by simp at c3; omega)
 refine aw_exit ?_
 refine xt_x ?_; refine xt_x ?_
 refine xb_same ?_
 refine xt_n ?_; clear hK K; refine hK _ ?_; clear hK K; refine sK fun K hK => sX hTT 3 1 [] tI ?_
 refine aw_block ?_
 refine w_loop (ι := Nat) (fun k => [(0, V.tks l), (5, .i k)]) (fun _ => []) (fun k => k ≤ l.length ∧ ∀ i, i < k → ∀ j, j < i → (gtk l i).1 ≠ (gtk l j).1) (fun k => l.length - k) 0 ⟨Nat.zero_le _, fun j hj => by omega⟩ ?_ ?_
 ·
  refine le_ren [] (.cons kR (.cons kR .nil)) .nil kR kR
 rintro i ⟨hi, hd⟩
 refine sK fun K hK => sX hTT 2 4 [] tI ?_
 refine w_cond (t := decide ((↑i : Int) < (↑(List.length l) : Int))) kR (fun c4 => ?_) (fun c4 => ?_)
 ·
  have hi1 : i < l.length := by simpa using c4
  refine aw_skip ?_
  refine xt_n (hK _ ?_); clear hK K; refine sK fun K hK => ?_
  refine aw_block ?_
  refine sX hTT 3 1 [] tI ?_
  refine aw_block ?_
  refine w_loop (ι := Nat) (fun k => [(0, V.tks l), (5, .i i), (6, .i k)]) (fun _ => []) (fun k => k ≤ i ∧ ∀ j, j < k → (gtk l i).1 ≠ (gtk l j).1) (fun k => i - k) 0 ⟨Nat.zero_le _, fun j hj => by omega⟩ ?_ ?_
  ·
   refine le_ren [] (.cons kR (.cons kR (.cons kR .nil))) .nil kR kR
  rintro q ⟨hq, hqd⟩
  refine sK fun K hK => sX hTT 2 3 [] tI ?_
  refine w_cond (t := decide ((↑q : Int) < (↑i : Int))) kR (fun c5 => ?_) (fun c5 => ?_)
  ·
   have hq1 : q < i := by simpa using c5
   have e := bytes_beq (gtk l i).1 (gtk l q).1
   refine aw_skip ?_
   refine xt_n (hK _ ?_); clear hK K; refine sK fun K hK => ?_
   refine aw_block ?_
   refine sK fun K hK => wD 3 ?_
   refine aops_n hTT (M := []) (n := 11) [pv 51 (V.tks l), pv 52 (V.i (↑i : Int)), pc 53 ((0 : Int) ≤ (↑i : Int) ∧ (↑i : Int) < (↑(List.length l) : Int)) (V.ptr [V.c (Value.string (ByteArray.mk (List.toArray (Prod.fst (gtk l i))))), V.sl 2 (List.length (Prod.snd (gtk l i))) fun (k : Nat) => [V.i (Prod.fst (gp (Prod.snd (gtk l i)) k)), V.i (Prod.snd (gp (Prod.snd (gtk l i)) k))]]), pv 54 (V.ptr [V.c (Value.string (ByteArray.mk (List.toArray (Prod.fst (gtk l i))))), V.sl 2 (List.length (Prod.snd (gtk l i))) fun (k : Nat) => [V.i (Prod.fst (gp (Prod.snd (gtk l i)) k)), V.i (Prod.snd (gp (Prod.snd (gtk l i)) k))]]), pv 55 (V.c (Value.string (ByteArray.mk (List.toArray (Prod.fst (gtk l i)))))), pv 56 (V.tks l), pv 57 (V.i (↑q : Int)), pc 58 ((0 : Int) ≤ (↑q : Int) ∧ (↑q : Int) < (↑(List.length l) : Int)) (V.ptr [V.c (Value.string (ByteArray.mk (List.toArray (Prod.fst (gtk l q))))), V.sl 2 (List.length (Prod.snd (gtk l q))) fun (k : Nat) => [V.i (Prod.fst (gp (Prod.snd (gtk l q)) k)), V.i (Prod.snd (gp (Prod.snd (gtk l q)) k))]]), pv 59 (V.ptr [V.c (Value.string (ByteArray.mk (List.toArray (Prod.fst (gtk l q))))), V.sl 2 (List.length (Prod.snd (gtk l q))) fun (k : Nat) => [V.i (Prod.fst (gp (Prod.snd (gtk l q)) k)), V.i (Prod.snd (gp (Prod.snd (gtk l q)) k))]]), pv 60 (V.c (Value.string (ByteArray.mk (List.toArray (Prod.fst (gtk l q)))))), pv 61 (V.b (ByteArray.toList (ByteArray.mk (List.toArray (Prod.fst (gtk l i)))) == ByteArray.toList (ByteArray.mk (List.toArray (Prod.fst (gtk l q))))))] kR kR ⟨oM, oM, tI⟩ ?_
   refine aops_nil ⟨kR, (xt_n (hK _ ?_))⟩; clear hK K
   rw [e]
   refine w_cond (t := decide (Prod.fst (gtk l i) = Prod.fst (gtk l q))) kR (fun c6 => ?_) (fun c6 => ?_)
   ·
    have e2 : ctE l = 12 := by rw [ctE, if_neg n1, n2', if_neg (by decide), n3, if_neg (by decide), if_pos (dupB_at hi1 hq1 (of_decide_eq_true c6))]
    refine sX hTT 4 1 [] tI ?_
    refine aw_ret ?_
    refine xb_r ?_
    refine xt_r (xt_r ?_)
    refine xb_r ?_
    refine xb_r ?_
    refine xt_r (xt_r ?_)
    refine xb_r ?_
    refine xt_r ?_
    rw [e2]
    refine rP (V.i 12)
   ·
    have e2 := of_decide_eq_false c6
    refine aw_skip ?_
    refine xb_n (xt_n (hK _ ?_)); clear hK K; refine wR 4 (aX hTT 3 [(1, .i ((↑q : Int) + 1))] ⟨oM, tI⟩ (aops_nil (xt_n ?_)))
    refine ⟨q + 1, ⟨by omega, fun j hj2 => ?_⟩, by refine le_ren [] (.cons kR (.cons kR (.cons kR .nil))) .nil kR kR, by omega⟩
    by_cases e3 : j = q
    ·
     rw [e3]; exact e2
    ·
     exact hqd j oM
  ·
   refine aw_exit ?_
   refine xt_x ?_; refine xt_x ?_
   refine xb_same ?_
   refine xb_n (xt_n ?_); clear hK K; refine hK _ ?_; clear hK K; refine wR 3 (aX hTT 3 [(1, .i ((↑i : Int) + 1))] ⟨oM, tI⟩ (aops_nil (xt_n ?_)))
   refine ⟨i + 1, ⟨by omega, fun a ha j hj2 => ?_⟩, by refine le_ren [] (.cons kR (.cons kR .nil)) .nil kR kR, by omega⟩
   by_cases e : a = i
   ·
    subst e
    exact hqd j (by simp at c5; omega)
   ·
    exact hd a oM j hj2
 have n4 : dupB l = false := dupB_no fun a ha j hj2 => hd a (by simp at c4; omega) j hj2
 have e : ctE l = 0 := by rw [ctE, if_neg n1, n2', if_neg (by decide), n3, if_neg (by decide), n4, if_neg (by decide)]
 refine aw_exit ?_
 refine xt_x ?_; refine xt_x ?_
 refine xb_same ?_
 refine xt_n ?_; clear hK K; refine hK _ ?_; clear hK K; refine sX hTT 3 1 [] tI ?_
 refine aw_ret ?_
 rw [e]
 refine rP (V.i 0)
set_option maxRecDepth 100000 in
theorem rLong_ac (x : Pr) (h1 : -1000000 ≤ x.to ∧ x.to ≤ 1000000) (h2 : -1000000 ≤ x.fr ∧ x.fr ≤ 1000000) : AC Tryz.prog 84 [.agg x.c] (.i x.long) [] := by
 refine acI hTT hMX Tryz.func84 Tryz.ntmps84 fun C hC hF => ?_
 refine sX hTT 2 2 [] tI (sX hTT 3 6 [(4, .i (Pr.to x - Pr.fr x))] ⟨oM, tI⟩ ?_)
 refine aw_ret ?_
 refine rP (V.i (Pr.to x - Pr.fr x))
set_option maxHeartbeats 4000000 in
set_option maxRecDepth 100000 in
theorem rPart_ac (l : List Tk) (x : Pr) (h : WTk l) : AC Tryz.prog 49 [V.tks l, .agg x.c] (.b (prB l x)) [] := by
 refine acI hTT hMX Tryz.func49 Tryz.ntmps49 fun C hC hF => ?_
 refine sX hTT 2 2 [] tI (sK fun K hK => sK fun K hK => wD 3 ?_); refine aX hTT 44 ((4, .c (gA (wr2B0 x) True)) :: (5, .c (gB (wr2B0 x) True)) :: (6, .c (gA (wr2B0 x) True)) :: (7, .c (gB (wr2B0 x) True)) :: (8, .c (gC (wr2B0 x) True)) :: (9, .c (True ∧ (decide (Pr.tk x < 0) = false → (wr2B0 x) = true))) :: (11, .c (gA ((wr2B7 l x) == false) True)) :: (12, .c (gB ((wr2B7 l x) == false) True)) :: (13, .c (gD ((wr2B7 l x) == false) True)) :: (14, .c (True ∧ ((wr2B7 l x) = false → ((wr2B7 l x) == false) = true))) :: (16, .c (gA ((wr2B9 l x) == false) True)) :: (17, .c (gB ((wr2B9 l x) == false) True)) :: (18, .c (gA ((wr2B9 l x) == false) True)) :: (19, .c (gB ((wr2B9 l x) == false) True)) :: (20, .c (gC ((wr2B9 l x) == false) True)) :: (21, .c (True ∧ ((wr2B9 l x) = false → ((wr2B9 l x) == false) = true))) :: (23, .c (gA ((wr2B15 l x) == false) True)) :: (24, .c (gB ((wr2B15 l x) == false) True)) :: (25, .c (gA ((wr2B15 l x) == false) True)) :: (26, .c (gA ((wr2B15 l x) == false) True)) :: (27, .c (gB ((wr2B15 l x) == false) True)) :: (28, .c (gC ((wr2B15 l x) == false) ((0 : Int) ≤ Pr.tk x ∧ Pr.tk x < (↑(List.length l) : Int)))) :: (29, .c (gB ((wr2B15 l x) == false) True)) :: (30, .c (gB ((wr2B15 l x) == false) True)) :: (31, .c (gB ((wr2B15 l x) == false) True)) :: (32, .c (gC ((wr2B15 l x) == false) True)) :: (33, .c (True ∧ ((wr2B15 l x) = false → ((wr2B15 l x) == false) = true))) :: (35, .c (gA ((wr2B17 l x) == false) True)) :: (36, .c (gB ((wr2B17 l x) == false) True)) :: (37, .c (gD ((wr2B17 l x) == false) True)) :: (38, .c (True ∧ ((wr2B17 l x) = false → ((wr2B17 l x) == false) = true))) :: (40, .c (gA ((wr2B18 l x) == false) True)) :: (41, .c (gB ((wr2B18 l x) == false) True)) :: (42, .c (gD ((wr2B18 l x) == false) True)) :: (43, .c (True ∧ ((wr2B18 l x) = false → ((wr2B18 l x) == false) = true))) :: []) ⟨⟨⟨tI, tI⟩, (fun _ => tI)⟩, ⟨⟨(by (exact fun h => h)), tI⟩, (fun _ => tI)⟩, ⟨⟨tI, tI⟩, (fun _ => tI)⟩, ⟨⟨(by (exact fun h => h)), tI⟩, (fun _ => tI)⟩, ⟨⟨(by (exact fun h => h)), ⟨(by (exact fun h => h)), tI⟩⟩, (fun _ => tI)⟩, ⟨tI, eFNR2⟩, ⟨⟨tI, tI⟩, (fun _ => tI)⟩, ⟨⟨(by (exact fun h => h)), tI⟩, (fun _ => tI)⟩, ⟨⟨(by (exact fun h => h)), ⟨tI, tI⟩⟩, (fun _ => tI)⟩, ⟨tI, eFNR2⟩, ⟨⟨tI, tI⟩, (fun _ => tI)⟩, ⟨⟨(by (exact fun h => h)), tI⟩, (fun _ => tI)⟩, ⟨⟨tI, tI⟩, (fun _ => tI)⟩, ⟨⟨(by (exact fun h => h)), tI⟩, (fun _ => tI)⟩, ⟨⟨(by (exact fun h => h)), ⟨(by (exact fun h => h)), tI⟩⟩, (fun _ => tI)⟩, ⟨tI, eFNR2⟩, ⟨⟨tI, tI⟩, (fun _ => tI)⟩, ⟨⟨(by (exact fun h => h)), tI⟩, (fun _ => tI)⟩, ⟨⟨tI, tI⟩, (fun _ => tI)⟩, ⟨⟨tI, tI⟩, (fun _ => tI)⟩, ⟨⟨(by (exact fun h => h)), tI⟩, (fun _ => tI)⟩, ⟨⟨(by (exact fun h => h)), ⟨(by (exact fun h => h)), tI⟩⟩, (by (intro hg; simp at hg; omega))⟩, ⟨⟨(by (exact fun h => h)), tI⟩, (fun _ => tI)⟩, ⟨⟨(by (exact fun h => h)), tI⟩, (fun _ => tI)⟩, ⟨⟨(by (exact fun h => h)), tI⟩, (fun _ => tI)⟩, ⟨⟨(by (exact fun h => h)), ⟨(by (exact fun h => h)), tI⟩⟩, (fun _ => tI)⟩, ⟨tI, eFNR2⟩, ⟨⟨tI, tI⟩, (fun _ => tI)⟩, ⟨⟨(by (exact fun h => h)), tI⟩, (fun _ => tI)⟩, ⟨⟨(by (exact fun h => h)), ⟨tI, tI⟩⟩, (fun _ => tI)⟩, ⟨tI, eFNR2⟩, ⟨⟨tI, tI⟩, (fun _ => tI)⟩, ⟨⟨(by (exact fun h => h)), tI⟩, (fun _ => tI)⟩, ⟨⟨(by (exact fun h => h)), ⟨tI, tI⟩⟩, (fun _ => tI)⟩, ⟨tI, eFNR2⟩, tI⟩ ?_
 refine aops_nil ⟨kR, (xt_n (hK _ ?_))⟩; clear hK K
 refine w_cond (t := decide (Pr.tk x < 0) || decide ((↑(List.length l) : Int) ≤ Pr.tk x) || decide (Pr.fr x < 0) || decide (Pr.to x ≤ Pr.fr x) || decide ((↑(List.length (Prod.snd (gtk l (Int.toNat (Pr.tk x))))) : Int) < Pr.to x) || decide (Pr.gap x < (-4096 : Int)) || decide ((4096 : Int) < Pr.gap x)) kR (fun c1 => ?_) (fun c1 => ?_)
 ·
  have e : prB l x = false := decide_eq_false fun h => by simp at c1; omega
  refine sX hTT 4 1 [] tI ?_
  refine aw_ret ?_
  refine xt_r ?_
  rw [e]
  refine rP (V.b false)
 ·
  have e : prB l x = (decide (0 ≤ x.inn) && decide (x.inn ≤ 1000) && decide (0 ≤ x.out) && decide (x.out ≤ 1000) && decide (0 ≤ x.lev) && decide (x.lev ≤ 4000)) := by
   simp at c1
   rw [Bool.eq_iff_iff]
   simp [prB]
   omega
  refine aw_skip ?_
  refine xt_n (hK _ ?_); clear hK K; refine sX hTT 4 29 [(4, .c (gA (wr2B1 x) True)), (5, .c (gB (wr2B1 x) True)), (6, .c (gD (wr2B1 x) True)), (7, .c ((decide ((0 : Int) ≤ Pr.inn x) = true → (wr2B1 x) = true) ∧ True)), (9, .c (gA ((wr2B4 x) == true) True)), (10, .c (gB ((wr2B4 x) == true) True)), (11, .c (gD ((wr2B4 x) == true) True)), (12, .c (((wr2B4 x) = true → ((wr2B4 x) == true) = true) ∧ True)), (14, .c (gA ((wr2B8 x) == true) True)), (15, .c (gB ((wr2B8 x) == true) True)), (16, .c (gD ((wr2B8 x) == true) True)), (17, .c (((wr2B8 x) = true → ((wr2B8 x) == true) = true) ∧ True)), (19, .c (gA ((wr2B14 x) == true) True)), (20, .c (gB ((wr2B14 x) == true) True)), (21, .c (gD ((wr2B14 x) == true) True)), (22, .c (((wr2B14 x) = true → ((wr2B14 x) == true) = true) ∧ True)), (24, .c (gA ((wr2B16 x) == true) True)), (25, .c (gB ((wr2B16 x) == true) True)), (26, .c (gD ((wr2B16 x) == true) True)), (27, .c (((wr2B16 x) = true → ((wr2B16 x) == true) = true) ∧ True))] ⟨⟨⟨tI, tI⟩, (fun _ => tI)⟩, ⟨⟨(by (exact fun h => h)), tI⟩, (fun _ => tI)⟩, ⟨⟨(by (exact fun h => h)), ⟨tI, tI⟩⟩, (fun _ => tI)⟩, ⟨eFNR2, tI⟩, ⟨⟨tI, tI⟩, (fun _ => tI)⟩, ⟨⟨(by (exact fun h => h)), tI⟩, (fun _ => tI)⟩, ⟨⟨(by (exact fun h => h)), ⟨tI, tI⟩⟩, (fun _ => tI)⟩, ⟨eFNR2, tI⟩, ⟨⟨tI, tI⟩, (fun _ => tI)⟩, ⟨⟨(by (exact fun h => h)), tI⟩, (fun _ => tI)⟩, ⟨⟨(by (exact fun h => h)), ⟨tI, tI⟩⟩, (fun _ => tI)⟩, ⟨eFNR2, tI⟩, ⟨⟨tI, tI⟩, (fun _ => tI)⟩, ⟨⟨(by (exact fun h => h)), tI⟩, (fun _ => tI)⟩, ⟨⟨(by (exact fun h => h)), ⟨tI, tI⟩⟩, (fun _ => tI)⟩, ⟨eFNR2, tI⟩, ⟨⟨tI, tI⟩, (fun _ => tI)⟩, ⟨⟨(by (exact fun h => h)), tI⟩, (fun _ => tI)⟩, ⟨⟨(by (exact fun h => h)), ⟨tI, tI⟩⟩, (fun _ => tI)⟩, ⟨eFNR2, tI⟩, tI⟩ ?_
  refine aw_ret ?_
  rw [e]
  refine rP (V.b (decide ((0 : Int) ≤ Pr.inn x) && decide (Pr.inn x ≤ 1000) && decide ((0 : Int) ≤ Pr.out x) && decide (Pr.out x ≤ 1000) && decide ((0 : Int) ≤ Pr.lev x) && decide (Pr.lev x ≤ 4000)))
set_option maxRecDepth 100000 in
theorem rstarts_ac (l : List Tk) (p : List Pr) (h : PV l p) : AC Tryz.prog 51 [V.prs p] (.tup [V.ints (bgL p), .i (enN p p.length)]) [] := by
 have hp := h.le
 refine acI hTT hMX Tryz.func51 Tryz.ntmps51 fun C hC hF => ?_
 refine sX hTT 2 2 [] tI (sX hTT 3 1 [] tI (sX hTT 4 1 [] tI (sK fun K hK => sX hTT 5 1 [] tI ?_)))
 refine aw_block ?_
 refine w_le (le_open 4 3 1 (fun k => [.i (bgN p k)]) kR rfl) ?_
 refine w_loop (ι := Nat) (fun k => [(0, V.prs p), (4, .own 1), (5, .i (enN p k)), (6, .i k)]) (fun k => [(1, .row 3 1 k fun j => [.i (bgN p j)])]) (fun k => k ≤ p.length) (fun k => p.length - k) 0 (Nat.zero_le _) ?_ ?_
 ·
  refine le_ren (sl := [(1, Ob.row 3 1 0 fun (j : Nat) => [V.i (bgN p j)])]) [(1, 500004)] (.cons kR (.cons kR (.cons kR (.cons kR .nil)))) (.cons ⟨Ob.row 3 1 0 fun (k : Nat) => [V.i (bgN p k)], kR, .row kR (fun _ _ => rfl)⟩ .nil) kR kR
 intro k hk
 refine sK fun K hK => sX hTT 2 4 [] tI ?_
 refine w_cond (t := decide ((↑k : Int) < (↑(List.length p) : Int))) kR (fun c1 => ?_) (fun c1 => ?_)
 ·
  have hk1 : k < p.length := by simpa using c1
  have b := h.bg hk1
  have a := h.at hk1
  have e1 : enN p k + (gpr p k).gap = bgN p k := rfl
  have e2 := enN_succ p k
  refine aw_skip ?_
  refine xt_n (hK _ ?_); clear hK K; refine sK fun K hK => ?_
  refine aw_block ?_
  refine sX hTT 3 11 [(4, .c ((0 : Int) ≤ (↑k : Int) ∧ (↑k : Int) < (↑(List.length p) : Int))), (7, .i (enN p k + Pr.gap (gpr p k))), (9, .r (PR.mk (some (22 : Nat)) (some (k + 1 ≤ (1099511627776 : Nat))) (V.own 200022) [((1 : Nat), none), ((200022 : Nat), some (Ob.row 3 1 (k + 1) (appRow k (fun (j : Nat) => [V.i (bgN p j)]) fun (i : Nat) => List.take (1 : Nat) (List.drop (i * 1) [V.i (enN p k + Pr.gap (gpr p k))]))))] false))] ⟨oM, oM, oM, tI⟩ ?_
  refine w_le (s' := ⟨mkT [(0, V.prs p), (4, .own 1), (5, .i (enN p k)), (6, .i k)], mkS [(1, .row 3 1 (k + 1) fun j => [.i (bgN p j)])], 1⟩) ?_ ?_
  ·
   refine le_ren (tl := [(0, V.sl 7 (List.length p) fun (k : Nat) => Pr.c (gpr p k)), (4, V.own 1), (5, V.i (enN p k)), (6, V.i (↑k : Int))]) (sl := [(1, Ob.row 3 1 (k + 1) fun (j : Nat) => [V.i (bgN p j)])]) [(1, 200022)] (.cons kR (.cons kR (.cons kR (.cons kR .nil)))) (.cons ⟨Ob.row 3 1 (k + 1) (appRow k (fun (j : Nat) => [V.i (bgN p j)]) fun (i : Nat) => List.take (1 : Nat) (List.drop (i * 1) [V.i (enN p k + Pr.gap (gpr p k))])), kR, .row kR ?_⟩ .nil) kR kR
   exact appRow_i rfl e1
  refine wD 2 (aX hTT 8 [(2, .c ((0 : Int) ≤ (↑k : Int) ∧ (↑k : Int) < (↑(k + 1) : Int))), (3, .c (k < k + 1 ∧ (0 : Nat) ≤ (1 : Nat))), (6, .c ((0 : Int) ≤ (↑k : Int) ∧ (↑k : Int) < (↑(List.length p) : Int)))] ⟨oM, oM, oM, tI⟩ ?_)
  refine eC (rLong_ac (gpr p k) oM oM) ?_
  refine aX hTT 2 [(0, .i (bgN p k + Pr.long (gpr p k)))] ⟨oM, tI⟩ (aops_nil ⟨kR, (xb_n (xt_n (hK _ ?_)))⟩); clear hK K; refine wR 3 (aX hTT 3 [(1, .i ((↑k : Int) + 1))] ⟨oM, tI⟩ (aops_nil (xt_n ?_)))
  refine ⟨k + 1, by omega, ?_, by omega⟩
  refine le_ren (sl := [(1, Ob.row 3 1 (k + 1) fun (j : Nat) => [V.i (bgN p j)])]) [(1, 1)] (.cons kR (.cons kR (.cons kR (.cons kR .nil)))) (.cons ⟨Ob.row 3 1 (k + 1) fun (j : Nat) => [V.i (bgN p j)], kR, .row kR (fun _ _ => rfl)⟩ .nil) kR kR
 ·
  obtain rfl : k = p.length := by simp at c1; omega
  refine w_le (le_shut 4 1 (e := (3 : Nat)) (sz := (1 : Nat)) (n := List.length p) (n' := (bgL p).length) (row := fun (j : Nat) => [V.i (bgN p j)]) (row' := (fun k => [.i (gi (bgL p) k)])) kR kR (fun _ _ => rfl) ?_ ?_) ?_
  ·
   exact (bgL_len p).symm
  ·
   intro i hi
   rw [bgL_at hi]
  refine aw_exit ?_
  refine xt_x ?_; refine xt_x ?_
  refine xb_same ?_
  refine xt_n ?_; clear hK K; refine hK _ ?_; clear hK K; refine sX hTT 3 4 [] tI ?_
  refine aw_ret ?_
  refine rP (V.tup [V.sl 1 (List.length (bgL p)) fun (k : Nat) => [V.i (gi (bgL p) k)], V.i (enN p (List.length p))])
theorem plB_false {p : List Pr} {i : Nat} (hi : i < p.length) (h : plB p i = false) : posB p = false := by
 have : (List.range p.length).all (plB p) = false := by
  rw [List.all_eq_false]
  exact ⟨i, List.mem_range.2 hi, by rw [h]; decide⟩
 rw [posB, this, Bool.false_and]
theorem plB_all {p : List Pr} (h : ∀ i, i < p.length → plB p i = true) : posB p = decide (enN p p.length ≤ 4096) := by
 have : (List.range p.length).all (plB p) = true := by
  rw [List.all_eq_true]
  exact fun i hi => h i (List.mem_range.1 hi)
 rw [posB, this, Bool.true_and]
set_option maxHeartbeats 4000000 in
set_option maxRecDepth 100000 in
theorem rpossible_ac (l : List Tk) (p : List Pr) (h : PV l p) : AC Tryz.prog 50 [V.prs p] (.b (posB p)) [] := by
 have hp := h.le
 refine acI hTT hMX Tryz.func50 Tryz.ntmps50 fun C hC hF => ?_
 refine sX hTT 2 1 [] tI (sK fun K hK => wR 3 (aX hTT 1 [] tI ?_))
 refine eC (rstarts_ac l p h) ?_
 refine aX hTT 5 [] tI (nK hK ?_); clear hK K; refine sK fun K hK => sX hTT 4 1 [] tI ?_
 refine aw_block ?_
 refine w_loop (ι := Nat) (fun k => [(0, V.prs p), (3, V.ints (bgL p)), (4, .i (enN p p.length)), (5, .i k)]) (fun _ => []) (fun k => k ≤ p.length ∧ ∀ i, i < k → plB p i = true) (fun k => p.length - k) 0 ⟨Nat.zero_le _, fun j hj => by omega⟩ ?_ ?_
 ·
  refine le_ren [] (.cons kR (.cons kR (.cons kR (.cons kR .nil)))) .nil kR kR
 rintro k ⟨hk, hj⟩
 have hbl := bgL_len p
 refine sK fun K hK => sX hTT 2 4 [] tI ?_
 refine w_cond (t := decide ((↑k : Int) < (↑(List.length p) : Int))) kR (fun c1 => ?_) (fun c1 => ?_)
 ·
  have hk1 : k < p.length := by simpa using c1
  have b := h.bg hk1
  have a := h.at hk1
  have e0 := bgL_at hk1
  have l1 := h.any k
  have l2 := h.any ((k : Int) - 1).toNat
  have l3 := h.any ((k : Int) - 2).toNat
  have t1 : ((k : Int) - 1).toNat = k - 1 := by omega
  have t2 : ((k : Int) - 2).toNat = k - 2 := by omega
  have b2 := h.bg (i := k - 2) oM
  have e2 := bgL_at (p := p) (i := k - 2) oM
  have e3 := enN_succ p (k - 2)
  have e4 : gi (bgL p) ((k : Int) - 2).toNat = bgN p (k - 2) := by rw [t2, e2]
  refine aw_skip ?_
  refine xt_n (hK _ ?_); clear hK K; refine sK fun K hK => ?_
  refine aw_block ?_
  refine sK fun K hK => wD 3 ?_; refine aX hTT 22 [(3, .c (gA (wr2B2 k) True)), (4, .c (gA (wr2B2 k) True)), (5, .c (gC (wr2B2 k) ((0 : Int) ≤ (↑k : Int) ∧ (↑k : Int) < (↑(List.length (bgL p)) : Int)))), (6, .c (gB (wr2B2 k) True)), (7, .c (gD (wr2B2 k) True)), (8, .c ((decide ((↑k : Int) = 0) = true → (wr2B2 k) = true) ∧ True)), (10, .c (gA ((wr2B5 k p) == false) True)), (11, .c (gD ((wr2B5 k p) == false) True)), (12, .c (gB ((wr2B5 k p) == false) True)), (13, .c (gA (wr2B6 k p) True)), (14, .c (gA (wr2B6 k p) True)), (15, .c (gC (wr2B6 k p) ((0 : Int) ≤ (↑k : Int) ∧ (↑k : Int) < (↑(List.length p) : Int)))), (16, .c (gB (wr2B6 k p) True)), (17, .c (gB (wr2B6 k p) True)), (18, .c (gA (wr2B6 k p) True)), (19, .c (gA (wr2B6 k p) True)), (20, .c (gC (wr2B6 k p) ((0 : Int) ≤ (↑k : Int) ∧ (↑k : Int) < (↑(List.length p) : Int)))), (21, .c (gB (wr2B6 k p) True))] ⟨⟨⟨tI, tI⟩, (fun _ => tI)⟩, ⟨⟨tI, tI⟩, (fun _ => tI)⟩, ⟨⟨(by (exact fun h => h)), ⟨(by (exact fun h => h)), tI⟩⟩, (by (intro hg; simp at hg; omega))⟩, ⟨⟨(by (exact fun h => h)), tI⟩, (fun _ => tI)⟩, ⟨⟨(by (exact fun h => h)), ⟨tI, tI⟩⟩, (fun _ => tI)⟩, ⟨eFNR2, tI⟩, ⟨⟨tI, tI⟩, (fun _ => tI)⟩, ⟨⟨(by (exact fun h => h)), ⟨tI, tI⟩⟩, (fun _ => tI)⟩, ⟨⟨(by (exact fun h => h)), tI⟩, (fun _ => tI)⟩, ⟨⟨tI, tI⟩, (fun _ => tI)⟩, ⟨⟨tI, tI⟩, (fun _ => tI)⟩, ⟨⟨(by (exact fun h => h)), ⟨(by (exact fun h => h)), tI⟩⟩, (by (intro hg; simp at hg; omega))⟩, ⟨⟨(by (exact fun h => h)), tI⟩, (fun _ => tI)⟩, ⟨⟨(by (exact fun h => h)), tI⟩, (fun _ => tI)⟩, ⟨⟨tI, tI⟩, (fun _ => tI)⟩, ⟨⟨tI, tI⟩, (fun _ => tI)⟩, ⟨⟨(by (exact fun h => h)), ⟨(by (exact fun h => h)), tI⟩⟩, (by (intro hg; simp at hg; omega))⟩, ⟨⟨(by (exact fun h => h)), tI⟩, (fun _ => tI)⟩, tI⟩ ?_
  refine eG 1 (g := (decide ((↑k : Int) = 0) && decide (gi (bgL p) k < 0)) == false && decide ((0 : Int) < (↑k : Int)) == true) (fun g => rLong_ac (gpr p k) l1.1 l1.2.1) ?_
  refine aX hTT 13 [(0, .c (gB (wr2B6 k p) ((-9223372036854775808 : Int) ≤ -Pr.long (gpr p k) ∧ -Pr.long (gpr p k) ≤ 9223372036854775807))), (1, .c (gC (wr2B6 k p) True)), (2, .c (gB (wr2B6 k p) True)), (3, .c (gA (wr2B10 k p) True)), (4, .c (gA (wr2B10 k p) True)), (5, .c (gC (wr2B10 k p) ((0 : Int) ≤ (↑k : Int) ∧ (↑k : Int) < (↑(List.length p) : Int)))), (6, .c (gB (wr2B10 k p) True)), (7, .c (gB (wr2B10 k p) True)), (8, .c (gA (wr2B10 k p) True)), (9, .c (gA (wr2B10 k p) True)), (10, .c (gD (wr2B10 k p) ((-9223372036854775808 : Int) ≤ (↑k : Int) - 1 ∧ (↑k : Int) - 1 ≤ (9223372036854775807 : Int)))), (11, .c (gC (wr2B10 k p) ((0 : Int) ≤ (↑k : Int) - 1 ∧ (↑k : Int) - 1 < (↑(List.length p) : Int)))), (12, .c (gB (wr2B10 k p) True))] ⟨⟨⟨(by (exact fun h => h)), tI⟩, (by (intro hg; simp at hg; omega))⟩, ⟨⟨(by (exact fun h => h)), ⟨(by (exact fun h => h)), tI⟩⟩, (fun _ => tI)⟩, ⟨⟨(by (exact fun h => h)), tI⟩, (fun _ => tI)⟩, ⟨⟨tI, tI⟩, (fun _ => tI)⟩, ⟨⟨tI, tI⟩, (fun _ => tI)⟩, ⟨⟨(by (exact fun h => h)), ⟨(by (exact fun h => h)), tI⟩⟩, (by (intro hg; simp at hg; omega))⟩, ⟨⟨(by (exact fun h => h)), tI⟩, (fun _ => tI)⟩, ⟨⟨(by (exact fun h => h)), tI⟩, (fun _ => tI)⟩, ⟨⟨tI, tI⟩, (fun _ => tI)⟩, ⟨⟨tI, tI⟩, (fun _ => tI)⟩, ⟨⟨(by (exact fun h => h)), ⟨tI, tI⟩⟩, (by (intro hg; simp at hg; omega))⟩, ⟨⟨(by (exact fun h => h)), ⟨(by (exact fun h => h)), tI⟩⟩, (by (intro hg; simp at hg; omega))⟩, ⟨⟨(by (exact fun h => h)), tI⟩, (fun _ => tI)⟩, tI⟩ ?_
  refine eG 1 (g := (decide ((↑k : Int) = 0) && decide (gi (bgL p) k < 0)) == false && decide ((0 : Int) < (↑k : Int)) == true && decide (Pr.gap (gpr p k) < -Pr.long (gpr p k)) == false) (fun g => rLong_ac (gpr p ((k : Int) - 1).toNat) l2.1 l2.2.1) ?_
  refine aX hTT 23 [(0, .c (gB (wr2B10 k p) ((-9223372036854775808 : Int) ≤ -Pr.long (gpr p (Int.toNat ((↑k : Int) - 1))) ∧ -Pr.long (gpr p (Int.toNat ((↑k : Int) - 1))) ≤ 9223372036854775807))), (1, .c (gC (wr2B10 k p) True)), (2, .c (((wr2B6 k p) = true → (wr2B6 k p) = true) ∧ ((wr2B6 k p) = true → True) ∧ ((wr2B6 k p) = true → decide (Pr.gap (gpr p k) < -Pr.long (gpr p k)) = false → (wr2B10 k p) = true))), (3, .c ((((wr2B5 k p) == false) = true → ((wr2B5 k p) == false) = true) ∧ (((wr2B5 k p) == false) = true → decide ((0 : Int) < (↑k : Int)) = true → (wr2B6 k p) = true) ∧ (((wr2B5 k p) == false) = true → True))), (4, .c (True ∧ ((wr2B5 k p) = false → ((wr2B5 k p) == false) = true))), (6, .c (gA ((wr2B12 k p) == false) True)), (7, .c (gD ((wr2B12 k p) == false) True)), (8, .c (gB ((wr2B12 k p) == false) True)), (9, .c (gA (wr2B13 k p) True)), (10, .c (gA (wr2B13 k p) True)), (11, .c (gC (wr2B13 k p) ((0 : Int) ≤ (↑k : Int) ∧ (↑k : Int) < (↑(List.length (bgL p)) : Int)))), (12, .c (gB (wr2B13 k p) True)), (13, .c (gA (wr2B13 k p) True)), (14, .c (gA (wr2B13 k p) True)), (15, .c (gD (wr2B13 k p) ((-9223372036854775808 : Int) ≤ (↑k : Int) - 2 ∧ (↑k : Int) - 2 ≤ (9223372036854775807 : Int)))), (16, .c (gC (wr2B13 k p) ((0 : Int) ≤ (↑k : Int) - 2 ∧ (↑k : Int) - 2 < (↑(List.length (bgL p)) : Int)))), (17, .c (gB (wr2B13 k p) True)), (18, .c (gA (wr2B13 k p) True)), (19, .c (gA (wr2B13 k p) True)), (20, .c (gD (wr2B13 k p) ((-9223372036854775808 : Int) ≤ (↑k : Int) - 2 ∧ (↑k : Int) - 2 ≤ (9223372036854775807 : Int)))), (21, .c (gC (wr2B13 k p) ((0 : Int) ≤ (↑k : Int) - 2 ∧ (↑k : Int) - 2 < (↑(List.length p) : Int)))), (22, .c (gB (wr2B13 k p) True))] ⟨⟨⟨(by (exact fun h => h)), tI⟩, (by (intro hg; simp at hg; omega))⟩, ⟨⟨(by (exact fun h => h)), ⟨(by (exact fun h => h)), tI⟩⟩, (fun _ => tI)⟩, ⟨(by (exact fun h => h)), ⟨(fun _ => tI), (by (simp; omega))⟩⟩, ⟨(by (exact fun h => h)), ⟨(by (simp; omega)), (fun _ => tI)⟩⟩, ⟨tI, eFNR2⟩, ⟨⟨tI, tI⟩, (fun _ => tI)⟩, ⟨⟨(by (exact fun h => h)), ⟨tI, tI⟩⟩, (fun _ => tI)⟩, ⟨⟨(by (exact fun h => h)), tI⟩, (fun _ => tI)⟩, ⟨⟨tI, tI⟩, (fun _ => tI)⟩, ⟨⟨tI, tI⟩, (fun _ => tI)⟩, ⟨⟨(by (exact fun h => h)), ⟨(by (exact fun h => h)), tI⟩⟩, (by (intro hg; simp at hg; omega))⟩, ⟨⟨(by (exact fun h => h)), tI⟩, (fun _ => tI)⟩, ⟨⟨tI, tI⟩, (fun _ => tI)⟩, ⟨⟨tI, tI⟩, (fun _ => tI)⟩, ⟨⟨(by (exact fun h => h)), ⟨tI, tI⟩⟩, (by (intro hg; simp at hg; omega))⟩, ⟨⟨(by (exact fun h => h)), ⟨(by (exact fun h => h)), tI⟩⟩, (by (intro hg; simp at hg; omega))⟩, ⟨⟨(by (exact fun h => h)), tI⟩, (fun _ => tI)⟩, ⟨⟨tI, tI⟩, (fun _ => tI)⟩, ⟨⟨tI, tI⟩, (fun _ => tI)⟩, ⟨⟨(by (exact fun h => h)), ⟨tI, tI⟩⟩, (by (intro hg; simp at hg; omega))⟩, ⟨⟨(by (exact fun h => h)), ⟨(by (exact fun h => h)), tI⟩⟩, (by (intro hg; simp at hg; omega))⟩, ⟨⟨(by (exact fun h => h)), tI⟩, (fun _ => tI)⟩, tI⟩ ?_
  refine eG 1 (g := (decide ((↑k : Int) = 0) && decide (gi (bgL p) k < 0) || decide ((0 : Int) < (↑k : Int)) && (decide (Pr.gap (gpr p k) < -Pr.long (gpr p k)) || decide (Pr.gap (gpr p k) < -Pr.long (gpr p (Int.toNat ((↑k : Int) - 1)))))) == false && decide ((1 : Int) < (↑k : Int)) == true) (fun g => rLong_ac (gpr p ((k : Int) - 2).toNat) l3.1 l3.2.1) ?_
  have e5 : 1 < k → enN p (k - 1) = bgN p (k - 2) + (gpr p (k - 2)).long := fun h => by rw [← e3, show k - 2 + 1 = k - 1 by omega]
  refine aX hTT 4 [(0, .c (gC (wr2B13 k p) ((-9223372036854775808 : Int) ≤ gi (bgL p) (Int.toNat ((↑k : Int) - 2)) + Pr.long (gpr p (Int.toNat ((↑k : Int) - 2))) ∧ gi (bgL p) (Int.toNat ((↑k : Int) - 2)) + Pr.long (gpr p (Int.toNat ((↑k : Int) - 2))) ≤ 9223372036854775807))), (1, .c (gC (wr2B13 k p) True)), (2, .c ((((wr2B12 k p) == false) = true → ((wr2B12 k p) == false) = true) ∧ (((wr2B12 k p) == false) = true → decide ((1 : Int) < (↑k : Int)) = true → (wr2B13 k p) = true) ∧ (((wr2B12 k p) == false) = true → True))), (3, .c (True ∧ ((wr2B12 k p) = false → ((wr2B12 k p) == false) = true)))] ⟨⟨⟨(by (exact fun h => h)), ⟨(by (exact fun h => h)), tI⟩⟩, (by (intro hg; simp at hg; omega))⟩, ⟨⟨(by (exact fun h => h)), ⟨(by (exact fun h => h)), tI⟩⟩, (fun _ => tI)⟩, ⟨(by (exact fun h => h)), ⟨(by (simp; omega)), (fun _ => tI)⟩⟩, ⟨tI, eFNR2⟩, tI⟩ ?_; refine aops_nil ⟨kR, (xt_n (hK _ ?_))⟩; clear hK K
  refine w_cond (t := decide ((↑k : Int) = 0) && decide (gi (bgL p) k < 0) || decide ((0 : Int) < (↑k : Int)) && (decide (Pr.gap (gpr p k) < -Pr.long (gpr p k)) || decide (Pr.gap (gpr p k) < -Pr.long (gpr p (Int.toNat ((↑k : Int) - 1))))) || decide ((1 : Int) < (↑k : Int)) && decide (gi (bgL p) k < gi (bgL p) (Int.toNat ((↑k : Int) - 2)) + Pr.long (gpr p (Int.toNat ((↑k : Int) - 2))))) kR (fun c2 => ?_) (fun c2 => ?_)
  ·
   rw [e0, e4, t1, t2] at c2
   have hb : plB p k = false := by
    cases hp : plB p k with
    | false => rfl
    | true =>
     obtain ⟨q1, q2, q3⟩ := plB_ok hp
     simp at c2
     exfalso
     omega
   have hb2 := plB_false hk1 hb
   refine sX hTT 4 1 [] tI ?_
   refine aw_ret ?_
   refine xb_r ?_
   refine xt_r (xt_r ?_)
   refine xb_r ?_
   refine xt_r ?_
   rw [hb2]
   refine rP (V.b false)
  ·
   rw [e0, e4, t1, t2] at c2
   have hb : plB p k = true := by
    simp at c2
    exact plB_of (fun e => by omega) (fun e => by omega) fun e => by rw [e5 e]; omega
   refine aw_skip ?_
   refine xb_n (xt_n (hK _ ?_)); clear hK K; refine wR 4 (aX hTT 3 [(1, .i ((↑k : Int) + 1))] ⟨oM, tI⟩ (aops_nil (xt_n ?_)))
   refine ⟨k + 1, ⟨by omega, fun j hj2 => ?_⟩, by refine le_ren [] (.cons kR (.cons kR (.cons kR (.cons kR .nil)))) .nil kR kR, by omega⟩
   by_cases e : j = k
   ·
    rw [e]; exact hb
   ·
    exact hj j oM
 ·
  have e := plB_all fun i hi => hj i (by simp at c1; omega)
  refine aw_exit ?_
  refine xt_x ?_; refine xt_x ?_
  refine xb_same ?_
  refine xt_n ?_; clear hK K; refine hK _ ?_; clear hK K; refine sX hTT 3 3 [] tI ?_
  refine aw_ret ?_
  rw [e]
  refine rP (V.b (decide (enN p (List.length p) ≤ 4096)))
set_option maxRecDepth 100000 in
theorem rCheckProgramme_ac (l : List Tk) (p : List Pr) (h : WTk l) (hp : p.length ≤ 4611686018427387904) : AC Tryz.prog 20 [V.tks l, V.prs p] (.i (cpE l p)) [] := by
 have A := rCheckTakes_ac l h
 refine acI hTT hMX Tryz.func20 Tryz.ntmps20 fun C hC hF => ?_
 refine sX hTT 2 1 [] tI (sK fun K hK => sK fun K hK => wR 3 (aX hTT 1 [] tI ?_))
 refine eC (A) ?_
 refine aX hTT 1 [] tI (nK hK ?_); clear hK K
 refine w_cond (t := !decide (ctE l = 0)) kR (fun c1 => ?_) (fun c1 => ?_)
 ·
  have h0 : ctE l ≠ 0 := by simpa using c1
  have e : cpE l p = ctE l := if_neg h0
  refine sK fun K hK => wR 4 (aX hTT 1 [] tI ?_)
  refine eC (A) ?_
  refine aX hTT 1 [] tI (nK hK ?_); clear hK K
  refine aw_ret ?_
  refine xt_r ?_
  rw [e]
  refine rP (V.i (ctE l))
 have h0 : ctE l = 0 := by simpa using c1
 refine aw_skip ?_
 refine xt_n (hK _ ?_); clear hK K; refine sK fun K hK => sX hTT 4 3 [] tI ?_
 refine w_cond (t := decide ((32 : Int) < (↑(List.length p) : Int))) kR (fun c2 => ?_) (fun c2 => ?_)
 ·
  have e : cpE l p = 6 := by rw [cpE, if_pos h0, if_pos (by simp at c2; omega)]
  refine sX hTT 5 1 [] tI ?_
  refine aw_ret ?_
  refine xt_r ?_
  rw [e]
  refine rP (V.i 6)
 have h1 : p.length ≤ 32 := by simp at c2; omega
 refine aw_skip ?_
 refine xt_n (hK _ ?_); clear hK K; refine sK fun K hK => sX hTT 5 1 [] tI ?_
 refine aw_block ?_
 refine w_loop (ι := Nat) (fun k => [(0, V.tks l), (1, V.prs p), (5, .i k)]) (fun _ => []) (fun k => k ≤ p.length ∧ ∀ j, j < k → prB l (gpr p j) = true) (fun k => p.length - k) 0 ⟨Nat.zero_le _, fun j hj => by omega⟩ ?_ ?_
 ·
  refine le_ren [] (.cons kR (.cons kR (.cons kR .nil))) .nil kR kR
 rintro k ⟨hk, hj⟩
 refine sK fun K hK => sX hTT 2 4 [] tI ?_
 refine w_cond (t := decide ((↑k : Int) < (↑(List.length p) : Int))) kR (fun c3 => ?_) (fun c3 => ?_)
 ·
  have hk1 : k < p.length := by simpa using c3
  refine aw_skip ?_
  refine xt_n (hK _ ?_); clear hK K; refine sK fun K hK => ?_
  refine aw_block ?_
  refine sK fun K hK => wR 3 (aX hTT 5 [(3, .c ((0 : Int) ≤ (↑k : Int) ∧ (↑k : Int) < (↑(List.length p) : Int)))] ⟨oM, tI⟩ ?_)
  refine eC (rPart_ac l (gpr p k) h) ?_
  refine aX hTT 1 [] tI (nK hK ?_); clear hK K
  refine w_cond (t := !prB l (gpr p k)) kR (fun c4 => ?_) (fun c4 => ?_)
  ·
   have e : cpE l p = 2 := by
    rw [cpE, if_pos h0, if_neg oM, if_neg]
    intro h2
    rw [List.all_eq_true.1 h2 _ (gpr_mem hk1)] at c4
    cases c4
   refine sX hTT 4 1 [] tI ?_
   refine aw_ret ?_
   refine xb_r ?_
   refine xt_r (xt_r ?_)
   refine xb_r ?_
   refine xt_r ?_
   rw [e]
   refine rP (V.i 2)
  ·
   have h4 : prB l (gpr p k) = true := by simpa using c4
   refine aw_skip ?_
   refine xb_n (xt_n (hK _ ?_)); clear hK K; refine wR 4 (aX hTT 3 [(1, .i ((↑k : Int) + 1))] ⟨oM, tI⟩ (aops_nil (xt_n ?_)))
   refine ⟨k + 1, ⟨by omega, fun j hj2 => ?_⟩, by refine le_ren [] (.cons kR (.cons kR (.cons kR .nil))) .nil kR kR, by omega⟩
   by_cases e : j = k
   ·
    rw [e]; exact h4
   ·
    exact hj j oM
 have hpr : ∀ i, i < p.length → prB l (gpr p i) = true := fun i hi => hj i (by simp at c3; omega)
 have hall : p.all (prB l) = true := by
  rw [List.all_eq_true]
  intro x hx
  obtain ⟨i, hi, rfl⟩ := mem_gpr hx
  exact hpr i hi
 refine aw_exit ?_
 refine xt_x ?_; refine xt_x ?_
 refine xb_same ?_
 refine xt_n ?_; clear hK K; refine hK _ ?_; clear hK K; refine sK fun K hK => sK fun K hK => wR 3 (aX hTT 1 [] tI ?_)
 refine eC (rpossible_ac l p ⟨h0, h1, hpr⟩) ?_
 refine aX hTT 1 [] tI (nK hK ?_); clear hK K
 refine w_cond (t := !posB p) kR (fun c4 => ?_) (fun c4 => ?_)
 ·
  have e : cpE l p = 15 := by
   rw [cpE, if_pos h0, if_neg oM, if_pos hall, if_neg]
   intro h2
   rw [h2] at c4
   cases c4
  refine sX hTT 4 1 [] tI ?_
  refine aw_ret ?_
  refine xt_r ?_
  rw [e]
  refine rP (V.i 15)
 ·
  have e : cpE l p = 0 := by
   rw [cpE, if_pos h0, if_neg oM, if_pos hall, if_pos (by simpa using c4)]
  refine aw_skip ?_
  refine xt_n (hK _ ?_); clear hK K; refine sX hTT 4 1 [] tI ?_
  refine aw_ret ?_
  rw [e]
  refine rP (V.i 0)
set_option maxRecDepth 100000 in
theorem rStarts_ac (l : List Tk) (p : List Pr) (h : WTk l) (hp : p.length ≤ 4611686018427387904) (h0 : cpE l p = 0) : AC Tryz.prog 21 [V.tks l, V.prs p] (.tup [V.ints (bgL p), .i (enN p p.length), .i 0]) [] := by
 have A := rCheckProgramme_ac l p h hp
 rw [h0] at A
 refine acI hTT hMX Tryz.func21 Tryz.ntmps21 fun C hC hF => ?_
 refine sX hTT 2 3 [] tI (sK fun K hK => sK fun K hK => wR 3 (aX hTT 2 [] tI ?_))
 refine eC (A) ?_
 refine aX hTT 1 [] tI (nK hK ?_); clear hK K; refine w_false (t := false) kR rfl ?_
 refine aw_skip ?_
 refine xt_n (hK _ ?_); clear hK K; refine sK fun K hK => wR 4 (aX hTT 1 [] tI ?_)
 refine eC (rstarts_ac l p (cpE_ok h0).pv) ?_
 refine aX hTT 5 [] tI (nK hK ?_); clear hK K; refine sX hTT 5 5 [] tI ?_
 refine aw_ret ?_
 refine rP (V.tup [V.sl 1 (List.length (bgL p)) fun (k : Nat) => [V.i (gi (bgL p) k)], V.i (enN p (List.length p)), V.i 0])
end Go.Proofs.YtpmchnojeloohaaGreatDoor

namespace Go.Proofs.YtpmchnojeloohaaGreatDoor
open Go.Ab Go.RowKit Go.Dw Go.Shelf
def nmR (l : List Tk) (k : Nat) : MK → Option Value
 | .s b => if (List.range k).any (fun j => decide (b = ⟨(gtk l j).1.toArray⟩)) then some (.int .i64 1) else none
 | .i _ => none
def nmF (l : List Tk) (k : Nat) : MF := ⟨[], nmR l k⟩
abbrev nmK (l : List Tk) (k : Nat) : MK := .s ⟨(gtk l k).1.toArray⟩
theorem nmR_s (l : List Tk) (k : Nat) (b : ByteArray) : nmR l k (.s b) = if (List.range k).any (fun j => decide (b = ⟨(gtk l j).1.toArray⟩)) then some (.int .i64 1) else none := rfl
theorem nmR_out {l : List Tk} (h : ctE l = 0) {k : Nat} (hk : k < l.length) : nmR l k (nmK l k) = none := by
 rw [nmR_s, if_neg]
 intro h1
 rw [List.any_eq_true] at h1
 obtain ⟨j, hj, h2⟩ := h1
 rw [List.mem_range] at hj
 exact ctE_dup h hk hj (bytes_eq (of_decide_eq_true h2))
theorem nm_look {l : List Tk} (h : ctE l = 0) {k : Nat} (hk : k < l.length) : (nmF l k).look (nmK l k) = none := by
 show (nmR l k (nmK l k)).map V.c = none
 rw [nmR_out h hk]
 rfl
theorem nm_get {l : List Tk} (h : ctE l = 0) {k : Nat} (hk : k < l.length) : mgetI (nmF l k) (nmK l k) = 0 ∧ mget (nmF l k) (nmK l k) (.i 0) = .c (.int .i64 (mgetI (nmF l k) (nmK l k))) ∧ mcnt (nmF l k) (nmK l k) k = k + 1 := by
 have e := nm_look h hk
 refine ⟨by rw [mgetI, e], by rw [mget, mgetI, e]; rfl, by rw [mcnt, e]; rfl⟩
theorem nm_set {l : List Tk} (k : Nat) (key : MK) : (mset (nmF l k) (nmK l k) (.c (.int .i64 1))).look key = (nmF l (k + 1)).look key := by
 rw [mset_look]
 show _ = (nmR l (k + 1) key).map V.c
 show (if key = nmK l k then _ else (nmR l k key).map V.c) = _
 cases key with
 | i n => rw [if_neg (by intro h; cases h)]; rfl
 | s b =>
  rw [nmR_s, nmR_s]
  by_cases e : b = ⟨(gtk l k).1.toArray⟩
  ·
   rw [if_pos (by rw [e]), if_pos (by rw [List.any_eq_true]; exact ⟨k, List.mem_range.2 oM, decide_eq_true e⟩)]
   rfl
  ·
   rw [if_neg (by intro h; injection h with h; exact e h)]
   have e2 : (List.range (k + 1)).any (fun j => decide (b = ⟨(gtk l j).1.toArray⟩)) = (List.range k).any (fun j => decide (b = ⟨(gtk l j).1.toArray⟩)) := by
    rw [List.range_succ, List.any_append]
    simp [e]
   rw [e2]
set_option maxHeartbeats 4000000 in
set_option maxRecDepth 100000 in
theorem CheckTakes_ac (l : List Tk) (h : ctE l = 0) : AC Tryz.prog 60 [V.tks l] (.i 0) [] := by
 obtain ⟨l1, l2⟩ := ctE_len h
 refine acI hTT hMX Tryz.func60 Tryz.ntmps60 fun C hC hF => ?_
 refine sX hTT 2 1 [] tI (sK fun K hK => ?_); refine sX hTT 3 8 [(4, .c (gA (decide ((↑(List.length l) : Int) < 1) == false) True)), (5, .c (gB (decide ((↑(List.length l) : Int) < 1) == false) True)), (6, .c (gD (decide ((↑(List.length l) : Int) < 1) == false) True)), (7, .c (True ∧ (decide ((↑(List.length l) : Int) < 1) = false → (decide ((↑(List.length l) : Int) < 1) == false) = true)))] ⟨⟨⟨tI, tI⟩, (fun _ => tI)⟩, ⟨⟨(by (exact fun h => h)), tI⟩, (fun _ => tI)⟩, ⟨⟨(by (exact fun h => h)), ⟨tI, tI⟩⟩, (fun _ => tI)⟩, ⟨tI, (by (intro h; rw [h]; rfl))⟩, tI⟩ ?_
 refine w_cond (t := decide ((↑(List.length l) : Int) < 1) || decide ((16 : Int) < (↑(List.length l) : Int))) kR (fun c1 => ?_) (fun c1 => ?_)
 ·
  simp at c1
  omega
 refine aw_skip ?_
 refine xt_n (hK _ ?_); clear hK K; refine sX hTT 4 1 [] tI (sX hTT 5 2 [(0, .r (pn 16 (V.own 400016) (400016 : Nat) (Ob.mp (true, (0 : Nat)) (MF.mk [] fun (x : MK) => none))))] tI (sK fun K hK => sX hTT 6 3 [] tI ?_))
 refine aw_block ?_
 refine w_loop (ι := Nat) (fun k => [(0, V.tks l), (3, .i 0), (4, .own 1), (17, V.tks l), (18, .i l.length), (19, .i k)]) (fun k => [(1, .mp (true, k) (nmF l k))]) (fun k => k ≤ l.length) (fun k => l.length - k) 0 (Nat.zero_le _) ?_ ?_
 ·
  refine le_ren (sl := [(1, Ob.mp (true, (0 : Nat)) (MF.mk [] (nmR l (0 : Nat))))]) [(1, 400016)] (.cons kR (.cons kR (.cons kR (.cons kR (.cons kR (.cons kR .nil)))))) (.cons ⟨Ob.mp (true, (0 : Nat)) (MF.mk [] fun (x : MK) => none), kR, .mp ?_⟩ .nil) kR kR
  intro key
  show none = (nmR l 0 key).map V.c
  cases key <;> rfl
 intro k hk
 refine sX hTT 2 1 [] tI (sK fun K hK => ?_)
 refine w_cond (t := decide ((↑k : Int) < (↑(List.length l) : Int))) kR (fun c2 => ?_) (fun c2 => ?_)
 ·
  have hk1 : k < l.length := by simpa using c2
  obtain ⟨t1, t2, t3, t4⟩ := ctE_tk h hk1
  have hb : tkBad (gtk l k) = false := by
   rw [tkBad, t1, t4]
   simp
   intro e
   rw [e] at t2
   simp at t2
  obtain ⟨m1, m2, m3⟩ := nm_get h hk1
  have m1 : mgetI (nmF l k) (.s ⟨(gtk l k).1.toArray⟩) = 0 := m1
  have m2 : mget (nmF l k) (.s ⟨(gtk l k).1.toArray⟩) (.i 0) = .c (.int .i64 (mgetI (nmF l k) (.s ⟨(gtk l k).1.toArray⟩))) := m2
  refine aw_skip ?_
  refine xt_n (hK _ ?_); clear hK K; refine sK fun K hK => ?_
  refine aw_block ?_
  refine sX hTT 3 4 [(0, .c ((0 : Int) ≤ (↑k : Int) ∧ (↑k : Int) < (↑(List.length l) : Int))), (2, .r (pn 6 (V.ref 200006 0) (200006 : Nat) (Ob.box 124 [V.c (Value.string (ByteArray.mk #[])), V.nil]))), (3, .r (pw ((0 : Nat) + (2 : Nat) ≤ (2 : Nat)) (200006 : Nat) (Ob.box 124 [V.c (Value.string (ByteArray.mk (List.toArray (Prod.fst (gtk l k))))), V.sl 2 (List.length (Prod.snd (gtk l k))) fun (k_1 : Nat) => [V.i (Prod.fst (gp (Prod.snd (gtk l k)) k_1)), V.i (Prod.snd (gp (Prod.snd (gtk l k)) k_1))]])))] ⟨oM, oM, tI⟩ (sK fun K hK => sK fun K hK => wR 4 (aX hTT 1 [(0, .c ((0 : Nat) ≤ (2 : Nat)))] ⟨oM, tI⟩ ?_))
  refine eC (checkTake_ac (gtk l k) t3 hb) ?_
  refine aX hTT 1 [] tI (nK hK ?_); clear hK K
  refine aw_block ?_
  refine sX hTT 5 3 [] tI (w_false (t := false) kR rfl (sX hTT 6 3 [] tI (w_false (t := false) kR rfl ?_)))
  refine aw_skip ?_
  refine xb_n (xt_n (hK _ ?_)); clear hK K; refine wR 7 (aX hTT 6 [(2, .c ((0 : Nat) ≤ (2 : Nat))), (3, .c (mget (nmF l k) (MK.s (ByteArray.mk (List.toArray (Prod.fst (gtk l k))))) (V.c (Value.int IntKind.i64 0)) = V.c (Value.int IntKind.i64 (mgetI (nmF l k) (MK.s (ByteArray.mk (List.toArray (Prod.fst (gtk l k))))))))), (4, .i (mgetI (nmF l k) (MK.s (ByteArray.mk (List.toArray (Prod.fst (gtk l k))))) + 1)), (5, .r (PR.mk none none V.any [((1 : Nat), some (Ob.mp (true, mcnt (nmF l k) (MK.s (ByteArray.mk (List.toArray (Prod.fst (gtk l k))))) k) (MF.mk [(MK.s (ByteArray.mk (List.toArray (Prod.fst (gtk l k)))), V.i (mgetI (nmF l k) (MK.s (ByteArray.mk (List.toArray (Prod.fst (gtk l k))))) + 1))] (MF.rest (nmF l k)))))] false))] ⟨oM, oM, oM, tI⟩ (aops_nil (xb_n (xt_n (hK _ ?_))))); clear hK K; refine wR 8 (aX hTT 2 [(0, .i ((↑k : Int) + 1))] ⟨oM, tI⟩ (aops_nil (xt_n ?_)))
  have m3 : mcnt (nmF l k) (.s ⟨(gtk l k).1.toArray⟩) k = k + 1 := m3
  refine ⟨k + 1, by omega, ?_, by omega⟩
  rw [m1, m3]
  refine le_ren (sl := [(1, Ob.mp (true, k + 1) (MF.mk [] (nmR l (k + 1))))]) [(1, 1)] (.cons kR (.cons kR (.cons kR (.cons kR (.cons kR (.cons kR .nil)))))) (.cons ⟨Ob.mp (true, k + 1) (MF.mk [(MK.s (ByteArray.mk (List.toArray (Prod.fst (gtk l k)))), V.i 1)] (MF.rest (nmF l k))), kR, .mp ?_⟩ .nil) kR kR
  intro key
  exact nm_set k key
 ·
  obtain rfl : k = l.length := by simp at c2; omega
  refine aw_exit ?_
  refine xt_x ?_; refine xt_x ?_
  refine xb_same ?_
  refine xt_n ?_; clear hK K; refine hK _ ?_; clear hK K; refine sK fun K hK => ?_; refine sX hTT 3 9 [(3, .c (gA (true == true) True)), (4, .c (gB (true == true) True)), (5, .c (gA (true == true) True)), (6, .c (gB (true == true) True)), (7, .c (gC (true == true) True)), (8, .c ((true = true → (true == true) = true) ∧ True))] ⟨⟨⟨tI, tI⟩, (fun _ => tI)⟩, ⟨⟨(by (exact fun h => h)), tI⟩, (fun _ => tI)⟩, ⟨⟨tI, tI⟩, (fun _ => tI)⟩, ⟨⟨(by (exact fun h => h)), tI⟩, (fun _ => tI)⟩, ⟨⟨(by (exact fun h => h)), ⟨(by (exact fun h => h)), tI⟩⟩, (fun _ => tI)⟩, ⟨(by (exact fun h => h)), tI⟩, tI⟩ ?_
  refine w_cond (t := decide ((↑(List.length l) : Int) < (↑(List.length l) : Int))) kR (fun c3 => ?_) (fun c3 => ?_)
  ·
   simp at c3
  ·
   refine aw_skip ?_
   refine xt_n (hK _ ?_); clear hK K; refine sX hTT 4 2 [] tI ?_
   refine aw_ret ?_
   refine rP (V.i 0)
end Go.Proofs.YtpmchnojeloohaaGreatDoor

namespace Go.Proofs.YtpmchnojeloohaaGreatDoor
open Go.Ab Go.RowKit Go.Dw Go.Shelf
abbrev Src := Nat × Int × Int
def gsr (L : List Src) (k : Nat) : Src := L.getD k (0, 0, 0)
def srcC (x : Src) : List V := [.i x.1, .i x.2.1, .i x.2.2]
def V.srcs (L : List Src) : V := .sl 3 L.length fun k => srcC (gsr L k)
def srcN (p : List Pr) (t : Int) : Nat → List Src
 | 0 => []
 | i + 1 => if onB p i t then srcN p t i ++ [(i, (gpr p i).tk, (gpr p i).fr + t - bgN p i)] else srcN p t i
theorem srcN_len (p : List Pr) (t : Int) : ∀ i, (srcN p t i).length ≤ i
 | 0 => Nat.le_refl _
 | i + 1 => by
  have := srcN_len p t i
  rw [srcN]
  split
  ·
   rw [List.length_append, List.length_singleton]; omega
  ·
   omega
theorem gsr_app {L : List Src} {x : Src} {j : Nat} (h : j < L.length + 1) : gsr (L ++ [x]) j = if j < L.length then gsr L j else x := by
 by_cases h1 : j < L.length
 ·
  rw [if_pos h1]; simp [gsr, List.getElem?_append, h1]
 ·
  rw [if_neg h1]
  have : j = L.length := by omega
  subst this
  simp [gsr]
theorem src_mem (p : List Pr) (t : Int) : ∀ n q, q < (srcN p t n).length → ∃ i, i < n ∧ onB p i t = true ∧ gsr (srcN p t n) q = (i, (gpr p i).tk, (gpr p i).fr + t - bgN p i)
 | 0, q, h => by simp [srcN] at h
 | n + 1, q, h => by
  rw [srcN] at h ⊢
  split at h
  ·
   rename_i ho
   rw [if_pos ho]
   rw [List.length_append, List.length_singleton] at h
   rw [gsr_app h]
   by_cases h1 : q < (srcN p t n).length
   ·
    rw [if_pos h1]
    obtain ⟨i, hi, h2⟩ := src_mem p t n q h1
    exact ⟨i, by omega, h2⟩
   ·
    rw [if_neg h1]
    exact ⟨n, by omega, ho, rfl⟩
  ·
   rename_i ho
   rw [if_neg ho]
   obtain ⟨i, hi, h2⟩ := src_mem p t n q h
   exact ⟨i, by omega, h2⟩
def srcS (l : List Tk) (p : List Pr) (x : Src) : Pt := snd l (gpr p x.1) (x.2.2 - (gpr p x.1).fr)
def accS (l : List Tk) (p : List Pr) (L : List Src) : Pt := L.foldl (fun a x => (a.1 + (srcS l p x).1, a.2 + (srcS l p x).2)) (0, 0)
theorem accS_app (l : List Tk) (p : List Pr) (L : List Src) (x : Src) : accS l p (L ++ [x]) = ((accS l p L).1 + (srcS l p x).1, (accS l p L).2 + (srcS l p x).2) := by rw [accS, List.foldl_append]; rfl
theorem accS_rn (l : List Tk) (p : List Pr) (t : Int) : ∀ i, accS l p (srcN p t i) = rnN l p t i
 | 0 => rfl
 | i + 1 => by
  rw [srcN, rnN]
  split
  ·
   rw [accS_app, accS_rn l p t i]
   have : srcS l p (i, (gpr p i).tk, (gpr p i).fr + t - bgN p i) = snd l (gpr p i) (t - bgN p i) := by
    show snd l (gpr p i) ((gpr p i).fr + t - bgN p i - (gpr p i).fr) = _
    rw [show (gpr p i).fr + t - bgN p i - (gpr p i).fr = t - bgN p i by omega]
   rw [this]
  ·
   exact accS_rn l p t i
theorem take_gsr {L : List Src} {q : Nat} (h : q < L.length) : L.take (q + 1) = L.take q ++ [gsr L q] := by
 rw [List.take_succ_eq_append_getElem h, gsr, List.getD_eq_getElem?_getD, List.getElem?_eq_getElem h]
 rfl
theorem src_at {l : List Tk} {p : List Pr} (h : POk l p) {t : Int} {q : Nat} (hq : q < (srcN p t p.length).length) : (gsr (srcN p t p.length) q).1 < p.length ∧ SBd l (gpr p (gsr (srcN p t p.length) q).1) ((gsr (srcN p t p.length) q).2.2 - (gpr p (gsr (srcN p t p.length) q).1).fr) ∧ -1000000 ≤ (gsr (srcN p t p.length) q).2.2 ∧ (gsr (srcN p t p.length) q).2.2 ≤ 1000000 := by
 obtain ⟨i, hi, ho, e⟩ := src_mem p t p.length q hq
 rw [e]
 have h1 := onB_k h hi ho
 have h2 := h1.ix
 have h3 := h1.le
 refine ⟨hi, ?_, ?_, ?_⟩
 ·
  show SBd l (gpr p i) ((gpr p i).fr + t - bgN p i - (gpr p i).fr)
  rw [show (gpr p i).fr + t - bgN p i - (gpr p i).fr = t - bgN p i by omega]
  exact h1
 ·
  show -1000000 ≤ (gpr p i).fr + t - bgN p i
  omega
 ·
  show (gpr p i).fr + t - bgN p i ≤ 1000000
  omega
theorem accS_bd {l : List Tk} {p : List Pr} (h : POk l p) (t : Int) : ∀ q, q ≤ (srcN p t p.length).length → (-131330267068000 * (q : Int) ≤ (accS l p ((srcN p t p.length).take q)).1 ∧ (accS l p ((srcN p t p.length).take q)).1 ≤ 131330267068000 * q) ∧ -131330267068000 * (q : Int) ≤ (accS l p ((srcN p t p.length).take q)).2 ∧ (accS l p ((srcN p t p.length).take q)).2 ≤ 131330267068000 * q
 | 0, _ => by simp [accS]
 | q + 1, hq => by
  have h1 := accS_bd h t q oM
  have h2 := snd_le (src_at h (t := t) (q := q) oM).2.1
  rw [take_gsr oM, accS_app]
  unfold srcS
  simp only
  omega
end Go.Proofs.YtpmchnojeloohaaGreatDoor

namespace Go.Proofs.YtpmchnojeloohaaGreatDoor
open Go.Ab Go.RowKit Go.Dw Go.Shelf
theorem eFNR3 {x c : Bool} (h : x = c) : (x == c) = true := by rw [h]; cases c <;> rfl
theorem src_row {L : List Src} {x : Src} {G : Nat → List V} {r : Nat → Nat} (g0 : G 0 = srcC x) : ∀ j, j < L.length + 1 → appRow L.length (fun j => srcC (gsr L j)) G j = V.renL r (srcC (gsr (L ++ [x]) j)) := fun j hj => by
 rw [gsr_app hj]
 unfold appRow
 by_cases h : j < L.length
 ·
  rw [if_pos h, if_pos h]; rfl
 ·
  rw [if_neg h, if_neg h, show j - L.length = 0 by omega, g0]; rfl
abbrev wr3B0 (k : Nat) (p : List Pr) (t : Int) : Bool := decide (gi (bgL p) k ≤ t) == true
abbrev wr3B1 (p : List Pr) : Bool := decide ((6 : Int) < (↑(List.length p) : Int)) == false
set_option maxRecDepth 100000 in
theorem rsources_ac (l : List Tk) (p : List Pr) (t : Int) (h : POk l p) (ht : -1000000 ≤ t ∧ t ≤ 1000000) : AC Tryz.prog 85 [V.prs p, .i t] (V.srcs (srcN p t p.length)) [] := by
 have hp := h.le
 have hv := h.pv
 have hbl := bgL_len p
 refine acI hTT hMX Tryz.func85 Tryz.ntmps85 fun C hC hF => ?_
 refine sX hTT 2 1 [] tI (sX hTT 3 1 [] tI (sK fun K hK => wR 4 (aX hTT 1 [] tI ?_)))
 refine eC (rstarts_ac l p hv) ?_
 refine aX hTT 5 [] tI (nK hK ?_); clear hK K; refine sK fun K hK => sX hTT 5 1 [] tI ?_
 refine aw_block ?_
 refine w_le (le_open 5 165 3 (fun k => srcC (gsr (srcN p t 0) k)) kR rfl) ?_
 refine w_loop (ι := Nat) (fun k => [(0, V.prs p), (1, .i t), (5, .own 1), (6, V.ints (bgL p)), (8, .i k)]) (fun k => [(1, .row 165 3 (srcN p t k).length fun j => srcC (gsr (srcN p t k) j))]) (fun k => k ≤ p.length) (fun k => p.length - k) 0 (Nat.zero_le _) ?_ ?_
 ·
  refine le_ren (sl := [(1, Ob.row 165 3 0 fun (j : Nat) => srcC (gsr (srcN p t (0 : Nat)) j))]) [(1, 500005)] (.cons kR (.cons kR (.cons kR (.cons kR (.cons kR .nil))))) (.cons ⟨Ob.row 165 3 0 fun (k : Nat) => srcC (gsr (srcN p t (0 : Nat)) k), kR, .row kR (fun _ _ => rfl)⟩ .nil) kR kR
 intro k hk
 have hs := srcN_len p t k
 refine sK fun K hK => sX hTT 2 4 [] tI ?_
 refine w_cond (t := decide ((↑k : Int) < (↑(List.length p) : Int))) kR (fun c1 => ?_) (fun c1 => ?_)
 ·
  have hk1 : k < p.length := by simpa using c1
  have b := hv.bg hk1
  have a := hv.at hk1
  have e0 := bgL_at hk1
  have e1 : srcN p t (k + 1) = if onB p k t then srcN p t k ++ [(k, (gpr p k).tk, (gpr p k).fr + t - bgN p k)] else srcN p t k := rfl
  refine aw_skip ?_
  refine xt_n (hK _ ?_); clear hK K; refine sK fun K hK => ?_
  refine aw_block ?_
  refine sK fun K hK => wD 3 ?_; refine aX hTT 16 [(2, .c ((0 : Int) ≤ (↑k : Int) ∧ (↑k : Int) < (↑(List.length (bgL p)) : Int))), (7, .c (gA (wr3B0 k p t) True)), (8, .c (gA (wr3B0 k p t) True)), (9, .c (gA (wr3B0 k p t) True)), (10, .c (gC (wr3B0 k p t) ((0 : Int) ≤ (↑k : Int) ∧ (↑k : Int) < (↑(List.length (bgL p)) : Int)))), (11, .c (gB (wr3B0 k p t) True)), (12, .c (gA (wr3B0 k p t) True)), (13, .c (gA (wr3B0 k p t) True)), (14, .c (gC (wr3B0 k p t) ((0 : Int) ≤ (↑k : Int) ∧ (↑k : Int) < (↑(List.length p) : Int)))), (15, .c (gB (wr3B0 k p t) True))] ⟨oM, ⟨⟨tI, tI⟩, (fun _ => tI)⟩, ⟨⟨tI, tI⟩, (fun _ => tI)⟩, ⟨⟨tI, tI⟩, (fun _ => tI)⟩, ⟨⟨(by (exact fun h => h)), ⟨(by (exact fun h => h)), tI⟩⟩, (by (intro hg; simp at hg; omega))⟩, ⟨⟨(by (exact fun h => h)), tI⟩, (fun _ => tI)⟩, ⟨⟨tI, tI⟩, (fun _ => tI)⟩, ⟨⟨tI, tI⟩, (fun _ => tI)⟩, ⟨⟨(by (exact fun h => h)), ⟨(by (exact fun h => h)), tI⟩⟩, (by (intro hg; simp at hg; omega))⟩, ⟨⟨(by (exact fun h => h)), tI⟩, (fun _ => tI)⟩, tI⟩ ?_
  refine eG 1 (g := decide (gi (bgL p) k ≤ t) == true) (fun g => rLong_ac (gpr p k) oM oM) ?_
  refine aX hTT 3 [(0, .c (gC (wr3B0 k p t) ((-9223372036854775808 : Int) ≤ gi (bgL p) k + Pr.long (gpr p k) ∧ gi (bgL p) k + Pr.long (gpr p k) ≤ 9223372036854775807))), (1, .c (gC (wr3B0 k p t) True)), (2, .c ((decide (gi (bgL p) k ≤ t) = true → (wr3B0 k p t) = true) ∧ True))] ⟨⟨⟨(by (exact fun h => h)), ⟨(by (exact fun h => h)), tI⟩⟩, (by (intro hg; simp at hg; omega))⟩, ⟨⟨(by (exact fun h => h)), ⟨(by (exact fun h => h)), tI⟩⟩, (fun _ => tI)⟩, ⟨eFNR3, tI⟩, tI⟩ ?_; refine aops_nil ⟨kR, (xt_n (hK _ ?_))⟩; clear hK K
  refine w_cond (t := decide (gi (bgL p) k ≤ t) && decide (t < gi (bgL p) k + Pr.long (gpr p k))) kR (fun c2 => ?_) (fun c2 => ?_)
  ·
   rw [e0] at c2
   have c3 : onB p k t = true := c2
   rw [if_pos c3] at e1
   refine wD 4 (aX hTT 23 [(4, .c ((0 : Int) ≤ (↑k : Int) ∧ (↑k : Int) < (↑(List.length p) : Int))), (9, .c ((0 : Int) ≤ (↑k : Int) ∧ (↑k : Int) < (↑(List.length p) : Int))), (13, .i (Pr.fr (gpr p k) + t)), (16, .c ((0 : Int) ≤ (↑k : Int) ∧ (↑k : Int) < (↑(List.length (bgL p)) : Int))), (18, .i (Pr.fr (gpr p k) + t - gi (bgL p) k)), (21, .r (PR.mk (some (61 : Nat)) (some (List.length (srcN p t k) + 1 ≤ (1099511627776 : Nat))) (V.own 300061) [((1 : Nat), none), ((300061 : Nat), some (Ob.row 165 3 (List.length (srcN p t k) + 1) (appRow (List.length (srcN p t k)) (fun (j : Nat) => srcC (gsr (srcN p t k) j)) fun (i : Nat) => List.take (3 : Nat) (List.drop (i * 3) [V.i (↑k : Int), V.i (Pr.tk (gpr p k)), V.i (Pr.fr (gpr p k) + t - gi (bgL p) k)]))))] false))] ⟨oM, oM, oM, oM, oM, oM, tI⟩ (aops_nil ⟨kR, (xb_n (xt_n (hK _ ?_)))⟩)); clear hK K; refine wR 5 (aX hTT 3 [(1, .i ((↑k : Int) + 1))] ⟨oM, tI⟩ (aops_nil (xt_n ?_)))
   refine ⟨k + 1, by omega, ?_, by omega⟩
   rw [e1]
   refine le_ren (tl := [(0, V.sl 7 (List.length p) fun (k : Nat) => Pr.c (gpr p k)), (1, V.i t), (5, V.own 1), (6, V.sl 1 (List.length (bgL p)) fun (k : Nat) => [V.i (gi (bgL p) k)]), (8, V.i (↑(k + 1) : Int))]) (sl := [(1, Ob.row 165 3 (List.length (srcN p t k ++ [(k, Pr.tk (gpr p k), Pr.fr (gpr p k) + t - bgN p k)])) fun (j : Nat) => srcC (gsr (srcN p t k ++ [(k, Pr.tk (gpr p k), Pr.fr (gpr p k) + t - bgN p k)]) j))]) [(1, 300061)] (.cons kR (.cons kR (.cons kR (.cons kR (.cons kR .nil))))) (.cons ⟨Ob.row 165 3 (List.length (srcN p t k) + 1) (appRow (List.length (srcN p t k)) (fun (j : Nat) => srcC (gsr (srcN p t k) j)) fun (i : Nat) => List.take (3 : Nat) (List.drop (i * 3) [V.i (↑k : Int), V.i (Pr.tk (gpr p k)), V.i (Pr.fr (gpr p k) + t - gi (bgL p) k)])), kR, .row ?_ ?_⟩ .nil) kR kR
   ·
    rw [List.length_append, List.length_singleton]
   ·
    rw [e0]
    exact src_row rfl
  ·
   rw [e0] at c2
   have c3 : onB p k t = false := c2
   rw [c3, if_neg (by decide)] at e1
   refine aw_skip ?_
   refine xb_n (xt_n (hK _ ?_)); clear hK K; refine wR 4 (aX hTT 3 [(1, .i ((↑k : Int) + 1))] ⟨oM, tI⟩ (aops_nil (xt_n ?_)))
   refine ⟨k + 1, by omega, ?_, by omega⟩
   rw [e1]
   refine le_ren (sl := [(1, Ob.row 165 3 (List.length (srcN p t k)) fun (j : Nat) => srcC (gsr (srcN p t k) j))]) [(1, 1)] (.cons kR (.cons kR (.cons kR (.cons kR (.cons kR .nil))))) (.cons ⟨Ob.row 165 3 (List.length (srcN p t k)) fun (j : Nat) => srcC (gsr (srcN p t k) j), kR, .row kR (fun _ _ => rfl)⟩ .nil) kR kR
 ·
  obtain rfl : k = p.length := by simp at c1; omega
  refine w_le (le_shut 5 1 (e := (165 : Nat)) (sz := (3 : Nat)) (n := List.length (srcN p t (List.length p))) (n' := (srcN p t p.length).length) (row := fun (j : Nat) => srcC (gsr (srcN p t (List.length p)) j)) (row' := (fun j => srcC (gsr (srcN p t p.length) j))) kR kR (fun _ _ => rfl) ?_ ?_) ?_
  ·
   rfl
  ·
   exact fun _ _ => rfl
  refine aw_exit ?_
  refine xt_x ?_; refine xt_x ?_
  refine xb_same ?_
  refine xt_n ?_; clear hK K; refine hK _ ?_; clear hK K; refine sX hTT 3 2 [] tI ?_
  refine aw_ret ?_
  refine rP (V.sl 3 (List.length (srcN p t (List.length p))) fun (j : Nat) => srcC (gsr (srcN p t (List.length p)) j))
set_option maxRecDepth 100000 in
theorem rLoud_ac (s k : Int) (x : Pr) (h : LBd s x.lev (min (k + 1) (x.inn + 1)) (min (x.long - k) (x.out + 1)) x.inn x.out) (hk : -1000000 ≤ k ∧ k ≤ 1000000) (h1 : -1000000 ≤ x.to ∧ x.to ≤ 1000000) (h2 : -1000000 ≤ x.fr ∧ x.fr ≤ 1000000) (h3 : 0 ≤ x.inn ∧ x.inn ≤ 1000) (h4 : 0 ≤ x.out ∧ x.out ≤ 1000) : AC Tryz.prog 111 [.i s, .agg x.c, .i k, .i x.lev] (.i (loud s x k)) [] := by
 obtain ⟨q1, q2, q3, q4, q5, q6, q7, q8⟩ := h
 have q9 : x.long = x.to - x.fr := rfl
 refine acI hTT hMX Tryz.func111 Tryz.ntmps111 fun C hC hF => ?_
 refine sX hTT 2 2 [] tI (sK fun K hK => wR 3 (aX hTT 1 [] tI ?_))
 refine eC (rLong_ac x h1 h2) ?_
 refine aX hTT 1 [] tI (nK hK ?_); clear hK K; refine sK fun K hK => wD 4 (aX hTT 15 [(1, .i (k + 1)), (4, .i (Pr.inn x + 1)), (8, .i (Pr.long x - k)), (11, .i (Pr.out x + 1))] ⟨oM, oM, oM, oM, tI⟩ (aops_nil ⟨kR, (xt_n (hK _ ?_))⟩)); clear hK K; refine sX hTT 5 17 [(2, .i (s * Pr.lev x)), (4, .i (s * Pr.lev x * min (k + 1) (Pr.inn x + 1))), (6, .i (s * Pr.lev x * min (k + 1) (Pr.inn x + 1) * min (Pr.long x - k) (Pr.out x + 1))), (9, .i (Pr.inn x + 1)), (10, .i ((1000 : Int) * (Pr.inn x + 1))), (13, .i (Pr.out x + 1)), (14, .i ((1000 : Int) * (Pr.inn x + 1) * (Pr.out x + 1))), (15, .c ((0 : Int) < (1000 : Int) * (Pr.inn x + 1) * (Pr.out x + 1) ∧ (-9223372036854775808 : Int) ≤ s * Pr.lev x * min (k + 1) (Pr.inn x + 1) * min (Pr.long x - k) (Pr.out x + 1) ∧ s * Pr.lev x * min (k + 1) (Pr.inn x + 1) * min (Pr.long x - k) (Pr.out x + 1) ≤ 9223372036854775807))] ⟨oM, oM, oM, oM, oM, oM, oM, ⟨oM, oM⟩, tI⟩ ?_
 refine aw_ret ?_
 refine rP (V.i (Int.tdiv (s * Pr.lev x * min (k + 1) (Pr.inn x + 1) * min (Pr.long x - k) (Pr.out x + 1)) ((1000 : Int) * (Pr.inn x + 1) * (Pr.out x + 1))))
theorem SBd.any {l : List Tk} {x : Pr} {k : Int} (h : SBd l x k) (hx : prB l x = true) : (-1000000 ≤ k ∧ k ≤ 1000000) ∧ (-1000000 ≤ x.to ∧ x.to ≤ 1000000) ∧ (-1000000 ≤ x.fr ∧ x.fr ≤ 1000000) ∧ (0 ≤ x.inn ∧ x.inn ≤ 1000) ∧ 0 ≤ x.out ∧ x.out ≤ 1000 := by
 have h1 := prB_ok hx
 have h2 := h.ix
 have h3 := h.le
 omega
set_option maxRecDepth 100000 in
theorem rsound_ac (l : List Tk) (x : Pr) (k : Int) (h : SBd l x k) (hx : prB l x = true) : AC Tryz.prog 86 [V.tks l, .agg x.c, .i k, .i x.lev] (.agg [.i (snd l x k).1, .i (snd l x k).2]) [] := by
 obtain ⟨a1, a2, a3, a4, a5⟩ := h.any hx
 have b1 := h.tk
 have b2 := h.ix
 have b3 := h.le
 refine acI hTT hMX Tryz.func86 Tryz.ntmps86 fun C hC hF => ?_
 refine sX hTT 2 2 [(1, .r (pn 8 (V.ref 100008 0) (100008 : Nat) (Ob.box 57 [V.i 0, V.i 0])))] tI (sK fun K hK => wD 3 (aX hTT 14 [(3, .c ((0 : Int) ≤ Pr.tk x ∧ Pr.tk x < (↑(List.length l) : Int))), (9, .i (Pr.fr x + k)), (10, .c ((0 : Int) ≤ Pr.fr x + k ∧ Pr.fr x + k < (↑(List.length (Prod.snd (gtk l (Int.toNat (Pr.tk x))))) : Int))), (12, .r (pn 9 (V.ref 200009 0) (200009 : Nat) (Ob.box 57 [V.i 0, V.i 0]))), (13, .r (pw ((0 : Nat) + (2 : Nat) ≤ (2 : Nat)) (200009 : Nat) (Ob.box 57 [V.i (Prod.fst (gp (Prod.snd (gtk l (Int.toNat (Pr.tk x)))) (Int.toNat (Pr.fr x + k)))), V.i (Prod.snd (gp (Prod.snd (gtk l (Int.toNat (Pr.tk x)))) (Int.toNat (Pr.fr x + k))))])))] ⟨oM, oM, oM, oM, tI⟩ (aops_nil ⟨kR, (xt_n (hK _ ?_))⟩))); clear hK K; refine sK fun K hK => wD 4 (aX hTT 5 [(1, .c ((0 : Nat) ≤ (2 : Nat)))] ⟨oM, tI⟩ ?_)
 refine eC (rLoud_ac _ k x h.L a1 a2 a3 a4 a5) ?_
 refine aX hTT 5 [(1, .c ((1 : Nat) ≤ (2 : Nat)))] ⟨oM, tI⟩ ?_
 refine eC (rLoud_ac _ k x h.R a1 a2 a3 a4 a5) ?_
 refine aX hTT 2 [(1, .r (pw ((0 : Nat) + (2 : Nat) ≤ (2 : Nat)) (100008 : Nat) (Ob.box 57 [V.i (loud (Prod.fst (gp (Prod.snd (gtk l (Int.toNat (Pr.tk x)))) (Int.toNat (Pr.fr x + k)))) x k), V.i (loud (Prod.snd (gp (Prod.snd (gtk l (Int.toNat (Pr.tk x)))) (Int.toNat (Pr.fr x + k)))) x k)])))] ⟨oM, tI⟩ (aops_nil ⟨kR, (xt_n (hK _ ?_))⟩); clear hK K
 refine aw_ret ?_
 refine rP (V.agg [V.i (loud (Prod.fst (gp (Prod.snd (gtk l (Int.toNat (Pr.tk x)))) (Int.toNat (Pr.fr x + k)))) x k), V.i (loud (Prod.snd (gp (Prod.snd (gtk l (Int.toNat (Pr.tk x)))) (Int.toNat (Pr.fr x + k)))) x k)])
def ptC (a : Pt) : List V := [.i a.1, .i a.2]
def rF (l : List Tk) (p : List Pr) (t : Nat) (a : Pt) (j : Nat) : Pt := if j < t then rnN l p (j : Nat) p.length else if j = t then a else (0, 0)
def mF (F : Nat → Pt) (t : Nat) (a : Int) (j : Nat) : Pt := (if j = t then a else (F j).1, (F j).2)
set_option maxHeartbeats 4000000 in
set_option maxRecDepth 100000 in
theorem rrender_ac (l : List Tk) (p : List Pr) (h : POk l p) : AC Tryz.prog 52 [V.tks l, V.prs p, .i 1000, .b false] (V.pts (rndL l p)) [] := by
 have hp := h.le
 have hv := h.pv
 have hn := h.nn (Nat.le_refl p.length)
 have he := h.en
 obtain ⟨T, hT⟩ : ∃ T : Nat, enN p p.length = T := ⟨(enN p p.length).toNat, by omega⟩
 have A := rstarts_ac l p hv
 rw [hT] at A he
 have hlen := rndL_len (l := l) (p := p)
 rw [hT, Int.toNat_natCast] at hlen
 refine acI hTT hMX Tryz.func52 Tryz.ntmps52 fun C hC hF => ?_
 refine sX hTT 2 1 [] tI (sK fun K hK => wR 3 (aX hTT 1 [] tI ?_))
 refine eC (A) ?_
 refine aX hTT 5 [] tI (nK hK ?_); clear hK K; refine sX hTT 4 3 [(1, .r (PR.mk (some (23 : Nat)) (some ((0 : Int) ≤ (↑T : Int) ∧ (↑T : Int) ≤ (↑T : Int) ∧ (↑T : Int) ≤ 1099511627776)) (V.own (300023 : Nat)) [((300023 : Nat), some (Ob.row (57 : Nat) (2 : Nat) T fun (x : Nat) => [V.c (Value.int IntKind.i64 (0 : Int)), V.c (Value.int IntKind.i64 (0 : Int))]))] false))] ⟨⟨oM, oM⟩, tI⟩ (sK fun K hK => sX hTT 5 1 [] tI ?_)
 refine aw_block ?_
 refine w_loop (ι := Nat) (fun t => [(0, V.tks l), (1, V.prs p), (2, .i 1000), (3, .b false), (10, .i T), (11, .own 1), (12, .i t)]) (fun t => [(1, .row 57 2 T fun j => ptC (rF l p t (0, 0) j))]) (fun t => t ≤ T) (fun t => T - t) 0 (Nat.zero_le _) ?_ ?_
 ·
  refine le_ren (tl := [(0, V.tks l), (1, V.sl (7 : Nat) (List.length p) fun (k : Nat) => Pr.c (gpr p k)), (2, V.i (1000 : Int)), (3, V.b false), (10, V.i (↑T : Int)), (11, V.own (1 : Nat)), (12, V.i (0 : Int))]) (sl := [(1, Ob.row (57 : Nat) (2 : Nat) T fun (j : Nat) => ptC (rF l p (0 : Nat) ((0 : Int), (0 : Int)) j))]) [(1, 300023)] (.cons kR (.cons kR (.cons kR (.cons kR (.cons kR (.cons kR (.cons kR .nil))))))) (.cons ⟨Ob.row (57 : Nat) (2 : Nat) T fun (x : Nat) => [V.c (Value.int IntKind.i64 (0 : Int)), V.c (Value.int IntKind.i64 (0 : Int))], kR, .row kR ?_⟩ .nil) kR kR
  intro j hj
  have e : rF l p 0 (0, 0) j = (0, 0) := by
   unfold rF
   rw [if_neg oM]
   split <;> rfl
  show _ = V.renL _ (ptC (rF l p 0 (0, 0) j))
  rw [e]
  rfl
 intro t ht
 refine sK fun K hK => sX hTT 2 3 [] tI ?_
 refine w_cond (t := decide ((↑t : Int) < (↑T : Int))) kR (fun c1 => ?_) (fun c1 => ?_)
 ·
  have ht1 : t < T := by simpa using c1
  refine aw_skip ?_
  refine xt_n (hK _ ?_); clear hK K; refine sK fun K hK => ?_
  refine aw_block ?_
  refine sK fun K hK => wR 3 (aX hTT 2 [] tI ?_)
  refine eC (rsources_ac l p t h oM) ?_
  refine aX hTT 1 [] tI (nK hK ?_); clear hK K; refine sX hTT 4 1 [] tI ?_
  refine aw_block ?_
  obtain ⟨S, hS⟩ : ∃ S, S = srcN p (t : Nat) p.length := ⟨_, rfl⟩
  have hSl := srcN_len p (t : Nat) p.length
  rw [← hS] at hSl ⊢
  refine w_loop (ι := Nat) (fun q => [(0, V.tks l), (1, V.prs p), (2, .i 1000), (3, .b false), (10, .i T), (11, .own 1), (12, .i t), (13, V.srcs S), (14, .i q)]) (fun q => [(1, .row 57 2 T fun j => ptC (rF l p t (accS l p (S.take q)) j))]) (fun q => q ≤ S.length) (fun q => S.length - q) 0 (Nat.zero_le _) ?_ ?_
  ·
   refine le_ren (sl := [(1, Ob.row (57 : Nat) (2 : Nat) T fun (j : Nat) => ptC (rF l p t (accS l p (List.take (0 : Nat) S)) j))]) [(1, 1)] (.cons kR (.cons kR (.cons kR (.cons kR (.cons kR (.cons kR (.cons kR (.cons kR (.cons kR .nil))))))))) (.cons ⟨Ob.row (57 : Nat) (2 : Nat) T fun (j : Nat) => ptC (rF l p t ((0 : Int), (0 : Int)) j), kR, .row kR (fun _ _ => rfl)⟩ .nil) kR kR
  intro q hq
  refine sK fun K hK => sX hTT 2 4 [] tI ?_
  refine w_cond (t := decide ((↑q : Int) < (↑(List.length S) : Int))) kR (fun c2 => ?_) (fun c2 => ?_)
  ·
   have hq1 : q < S.length := by simpa using c2
   have q1 := src_at h (t := (t : Nat)) (q := q) (by rw [← hS]; exact hq1)
   have q2 := accS_bd h (t : Nat) q (by rw [← hS]; omega)
   have q3 := accS_bd h (t : Nat) (q + 1) (by rw [← hS]; omega)
   rw [← hS] at q1 q2 q3
   rw [take_gsr hq1, accS_app] at q3
   obtain ⟨r1, r2, r3⟩ := q1
   have r4 := h.pr _ r1
   have r5 := prB_ok r4
   have r6 := (r2.any r4).1
   obtain ⟨s1, s2⟩ := snd_le r2
   have eF : rF l p t (accS l p (S.take q)) t = accS l p (S.take q) := by
    unfold rF
    rw [if_neg oM, if_pos rfl]
   have eF1 := congrArg Prod.fst eF
   have eF2 := congrArg Prod.snd eF
   have eL : ((gpr p (gsr S q).1).lev * 1000).tdiv 1000 = (gpr p (gsr S q).1).lev := Int.mul_tdiv_cancel _ (by decide)
   refine aw_skip ?_
   refine xt_n (hK _ ?_); clear hK K; refine sK fun K hK => ?_
   refine aw_block ?_
   refine sX hTT 3 10 [(3, .c ((0 : Int) ≤ (↑q : Int) ∧ (↑q : Int) < (↑(List.length S) : Int))), (6, .c ((0 : Int) ≤ (↑(Prod.fst (gsr S q)) : Int) ∧ (↑(Prod.fst (gsr S q)) : Int) < (↑(List.length p) : Int))), (8, .r (pn (15 : Nat) (V.ref (200015 : Nat) (0 : Nat)) (200015 : Nat) (Ob.box (80 : Nat) [V.i (0 : Int), V.i (0 : Int), V.i (0 : Int), V.i (0 : Int), V.i (0 : Int), V.i (0 : Int), V.i (0 : Int)]))), (9, .r (pw ((0 : Nat) + (7 : Nat) ≤ (7 : Nat)) (200015 : Nat) (Ob.box (80 : Nat) [V.i (Pr.tk (gpr p (Prod.fst (gsr S q)))), V.i (Pr.fr (gpr p (Prod.fst (gsr S q)))), V.i (Pr.to (gpr p (Prod.fst (gsr S q)))), V.i (Pr.gap (gpr p (Prod.fst (gsr S q)))), V.i (Pr.inn (gpr p (Prod.fst (gsr S q)))), V.i (Pr.out (gpr p (Prod.fst (gsr S q)))), V.i (Pr.lev (gpr p (Prod.fst (gsr S q))))])))] ⟨oM, oM, oM, tI⟩ (sK fun K hK => wD 4 ?_)
   refine aops_n hTT (M := []) (n := 15) [pv (46 : Nat) (V.tks l), pc (47 : Nat) ((0 : Nat) ≤ (7 : Nat)) (V.agg [V.i (Pr.tk (gpr p (Prod.fst (gsr S q)))), V.i (Pr.fr (gpr p (Prod.fst (gsr S q)))), V.i (Pr.to (gpr p (Prod.fst (gsr S q)))), V.i (Pr.gap (gpr p (Prod.fst (gsr S q)))), V.i (Pr.inn (gpr p (Prod.fst (gsr S q)))), V.i (Pr.out (gpr p (Prod.fst (gsr S q)))), V.i (Pr.lev (gpr p (Prod.fst (gsr S q))))]), pv (48 : Nat) (V.sl (3 : Nat) (List.length S) fun (k : Nat) => srcC (gsr S k)), pv (49 : Nat) (V.i (↑q : Int)), pc (50 : Nat) ((0 : Int) ≤ (↑q : Int) ∧ (↑q : Int) < (↑(List.length S) : Int)) (V.ptr [V.i (↑(Prod.fst (gsr S q)) : Int), V.i (Prod.fst (Prod.snd (gsr S q))), V.i (Prod.snd (Prod.snd (gsr S q)))]), pv (51 : Nat) (V.ptr [V.i (Prod.snd (Prod.snd (gsr S q)))]), pv (52 : Nat) (V.i (Prod.snd (Prod.snd (gsr S q)))), pv (53 : Nat) (V.ref (200015 : Nat) (1 : Nat)), pc (54 : Nat) ((1 : Nat) ≤ (7 : Nat)) (V.i (Pr.fr (gpr p (Prod.fst (gsr S q))))), pc (55 : Nat) ((-9223372036854775808 : Int) ≤ Prod.snd (Prod.snd (gsr S q)) - Pr.fr (gpr p (Prod.fst (gsr S q))) ∧ Prod.snd (Prod.snd (gsr S q)) - Pr.fr (gpr p (Prod.fst (gsr S q))) ≤ 9223372036854775807) (V.i (Prod.snd (Prod.snd (gsr S q)) - Pr.fr (gpr p (Prod.fst (gsr S q))))), pv (56 : Nat) (V.ref (200015 : Nat) (6 : Nat)), pc (57 : Nat) ((6 : Nat) ≤ (7 : Nat)) (V.i (Pr.lev (gpr p (Prod.fst (gsr S q))))), pv (58 : Nat) (V.i (1000 : Int)), pc (59 : Nat) ((-9223372036854775808 : Int) ≤ Pr.lev (gpr p (Prod.fst (gsr S q))) * 1000 ∧ Pr.lev (gpr p (Prod.fst (gsr S q))) * 1000 ≤ (9223372036854775807 : Int)) (V.i (Pr.lev (gpr p (Prod.fst (gsr S q))) * 1000)), pc (60 : Nat) ((0 : Int) < (1000 : Int) ∧ (-9223372036854775808 : Int) ≤ Pr.lev (gpr p (Prod.fst (gsr S q))) * 1000 ∧ Pr.lev (gpr p (Prod.fst (gsr S q))) * 1000 ≤ (9223372036854775807 : Int)) (V.i (Int.tdiv (Pr.lev (gpr p (Prod.fst (gsr S q))) * 1000) (1000 : Int)))] kR kR ⟨oM, oM, oM, oM, oM, oM, ⟨oM, oM⟩, tI⟩ ?_
   rw [eL]
   refine eC (rsound_ac l (gpr p (gsr S q).1) ((gsr S q).2.2 - (gpr p (gsr S q).1).fr) r2 r4) ?_
   refine aX hTT 2 [(0, .r (pn (16 : Nat) (V.ref (300016 : Nat) (0 : Nat)) (300016 : Nat) (Ob.box (57 : Nat) [V.i (0 : Int), V.i (0 : Int)]))), (1, .r (pw ((0 : Nat) + (2 : Nat) ≤ (2 : Nat)) (300016 : Nat) (Ob.box (57 : Nat) [V.i (Prod.fst (snd l (gpr p (Prod.fst (gsr S q))) (Prod.snd (Prod.snd (gsr S q)) - Pr.fr (gpr p (Prod.fst (gsr S q)))))), V.i (Prod.snd (snd l (gpr p (Prod.fst (gsr S q))) (Prod.snd (Prod.snd (gsr S q)) - Pr.fr (gpr p (Prod.fst (gsr S q))))))])))] ⟨oM, tI⟩ (aops_nil ⟨kR, (xt_n (hK _ ?_))⟩); clear hK K; refine sK fun K hK => sX hTT 5 1 [] tI (w_false (t := false) kR rfl ?_)
   refine aw_skip ?_
   refine xt_n (hK _ ?_); clear hK K; refine sK fun K hK => ?_
   obtain ⟨sd, hsd⟩ : ∃ sd, sd = snd l (gpr p (gsr S q).1) ((gsr S q).2.2 - (gpr p (gsr S q).1).fr) := ⟨_, rfl⟩
   rw [← hsd] at s1 s2
   obtain ⟨F, hF2⟩ : ∃ F, F = rF l p t (accS l p (S.take q)) := ⟨_, rfl⟩
   rw [← hF2] at eF eF1 eF2
   have eA : accS l p (S.take (q + 1)) = ((F t).1 + sd.1, (F t).2 + sd.2) := by
    rw [take_gsr hq1, accS_app, eF1, eF2, hsd]
    rfl
   have q4 : srcS l p (gsr S q) = sd := hsd.symm
   rw [q4] at q3
   simp only at q3
   have eM1 : (mF F t ((F t).1 + sd.1) t).1 = (F t).1 + sd.1 := if_pos rfl
   have eM2 : (mF F t ((F t).1 + sd.1) t).2 = (F t).2 := rfl
   refine w_le (s' := ⟨mkT [(0, V.tks l), (1, V.prs p), (2, .i 1000), (3, .b false), (10, .i T), (11, .own 1), (12, .i t), (13, V.srcs S), (14, .i q), (16, .ref 2 0)], mkS [(1, .row 57 2 T fun j => ptC (F j)), (2, .box 57 [.i sd.1, .i sd.2])], 1⟩) ?_ ?_
   ·
    rw [hF2, hsd]
    refine le_ren (sl := [(1, Ob.row (57 : Nat) (2 : Nat) T fun (j : Nat) => ptC (rF l p t (accS l p (List.take q S)) j)), (2, Ob.box (57 : Nat) [V.i (Prod.fst (snd l (gpr p (Prod.fst (gsr S q))) (Prod.snd (Prod.snd (gsr S q)) - Pr.fr (gpr p (Prod.fst (gsr S q)))))), V.i (Prod.snd (snd l (gpr p (Prod.fst (gsr S q))) (Prod.snd (Prod.snd (gsr S q)) - Pr.fr (gpr p (Prod.fst (gsr S q))))))])]) [(1, 1), (2, 300016)] (.cons kR (.cons kR (.cons kR (.cons kR (.cons kR (.cons kR (.cons kR (.cons kR (.cons kR (.cons kR .nil)))))))))) (.cons ⟨Ob.row (57 : Nat) (2 : Nat) T fun (j : Nat) => ptC (rF l p t (accS l p (List.take q S)) j), kR, .row kR (fun _ _ => rfl)⟩ (.cons ⟨Ob.box (57 : Nat) [V.i (Prod.fst (snd l (gpr p (Prod.fst (gsr S q))) (Prod.snd (Prod.snd (gsr S q)) - Pr.fr (gpr p (Prod.fst (gsr S q)))))), V.i (Prod.snd (snd l (gpr p (Prod.fst (gsr S q))) (Prod.snd (Prod.snd (gsr S q)) - Pr.fr (gpr p (Prod.fst (gsr S q))))))], kR, .box kR⟩ .nil)) kR kR
   refine wD 2 ?_
   refine aops_n hTT (M := []) (n := 11) [pv (70 : Nat) (V.own (1 : Nat)), pv (71 : Nat) (V.i (↑t : Int)), pc (72 : Nat) ((0 : Int) ≤ (↑t : Int) ∧ (↑t : Int) < (↑T : Int)) (V.oel (1 : Nat) (2 : Nat) t (0 : Nat)), pv (73 : Nat) (V.oel (1 : Nat) (2 : Nat) t (0 : Nat)), pc (74 : Nat) (t < T ∧ (0 : Nat) ≤ (2 : Nat)) (V.i (Prod.fst (F t))), pv (75 : Nat) (V.ref (2 : Nat) (0 : Nat)), pc (76 : Nat) ((0 : Nat) ≤ (2 : Nat)) (V.i (Prod.fst sd)), pc (77 : Nat) ((-9223372036854775808 : Int) ≤ Prod.fst (F t) + Prod.fst sd ∧ Prod.fst (F t) + Prod.fst sd ≤ 9223372036854775807) (V.i (Prod.fst (F t) + Prod.fst sd)), pc (78 : Nat) ((0 : Int) ≤ (↑t : Int) ∧ (↑t : Int) < (↑T : Int)) (V.oel (1 : Nat) (2 : Nat) t (0 : Nat)), pv (79 : Nat) (V.oel (1 : Nat) (2 : Nat) t (0 : Nat)), pw (t < T ∧ (0 : Nat) + (1 : Nat) ≤ (2 : Nat)) (1 : Nat) (Ob.row (57 : Nat) (2 : Nat) T fun (j : Nat) => if j = t then [V.i (Prod.fst (F t) + Prod.fst sd), V.i (Prod.snd (F t))] else ptC (F j))] kR kR ⟨oM, oM, oM, oM, oM, oM, tI⟩ ?_
   refine aops_nil ⟨kR, (xt_n (hK _ ?_))⟩; clear hK K
   refine w_le (s' := ⟨mkT [(0, V.tks l), (1, V.prs p), (2, .i 1000), (3, .b false), (10, .i T), (11, .own 1), (12, .i t), (13, V.srcs S), (14, .i q), (16, .ref 2 0)], mkS [(1, .row 57 2 T fun j => ptC (mF F t ((F t).1 + sd.1) j)), (2, .box 57 [.i sd.1, .i sd.2])], 1⟩) ?_ ?_
   ·
    refine le_ren (tl := [(0, V.tks l), (1, V.sl (7 : Nat) (List.length p) fun (k : Nat) => Pr.c (gpr p k)), (2, V.i (1000 : Int)), (3, V.b false), (10, V.i (↑T : Int)), (11, V.own (1 : Nat)), (12, V.i (↑t : Int)), (13, V.sl (3 : Nat) (List.length S) fun (k : Nat) => srcC (gsr S k)), (14, V.i (↑q : Int)), (16, V.ref (2 : Nat) (0 : Nat))]) (sl := [(1, Ob.row (57 : Nat) (2 : Nat) T fun (j : Nat) => ptC (mF F t (Prod.fst (F t) + Prod.fst sd) j)), (2, Ob.box (57 : Nat) [V.i (Prod.fst sd), V.i (Prod.snd sd)])]) [(1, 1), (2, 2)] (.cons kR (.cons kR (.cons kR (.cons kR (.cons kR (.cons kR (.cons kR (.cons kR (.cons kR (.cons kR .nil)))))))))) (.cons ⟨Ob.row (57 : Nat) (2 : Nat) T fun (j : Nat) => if j = t then [V.i (Prod.fst (F t) + Prod.fst sd), V.i (Prod.snd (F t))] else ptC (F j), kR, .row kR ?_⟩ (.cons ⟨Ob.box (57 : Nat) [V.i (Prod.fst sd), V.i (Prod.snd sd)], kR, .box kR⟩ .nil)) kR kR
    intro j hj
    show _ = V.renL _ (ptC (mF F t ((F t).1 + sd.1) j))
    by_cases e : j = t
    ·
     rw [if_pos e, mF, if_pos e, e]; rfl
    ·
     rw [if_neg e, mF, if_neg e]; rfl
   refine wD 2 ?_
   refine aops_n hTT (M := []) (n := 11) [pv (80 : Nat) (V.own (1 : Nat)), pv (81 : Nat) (V.i (↑t : Int)), pc (82 : Nat) ((0 : Int) ≤ (↑t : Int) ∧ (↑t : Int) < (↑T : Int)) (V.oel (1 : Nat) (2 : Nat) t (0 : Nat)), pv (83 : Nat) (V.oel (1 : Nat) (2 : Nat) t (1 : Nat)), pc (84 : Nat) (t < T ∧ (1 : Nat) ≤ (2 : Nat)) (V.i (Prod.snd (mF F t (Prod.fst (F t) + Prod.fst sd) t))), pv (85 : Nat) (V.ref (2 : Nat) (1 : Nat)), pc (86 : Nat) ((1 : Nat) ≤ (2 : Nat)) (V.i (Prod.snd sd)), pc (87 : Nat) ((-9223372036854775808 : Int) ≤ Prod.snd (mF F t (Prod.fst (F t) + Prod.fst sd) t) + Prod.snd sd ∧ Prod.snd (mF F t (Prod.fst (F t) + Prod.fst sd) t) + Prod.snd sd ≤ 9223372036854775807) (V.i (Prod.snd (mF F t (Prod.fst (F t) + Prod.fst sd) t) + Prod.snd sd)), pc (88 : Nat) ((0 : Int) ≤ (↑t : Int) ∧ (↑t : Int) < (↑T : Int)) (V.oel (1 : Nat) (2 : Nat) t (0 : Nat)), pv (89 : Nat) (V.oel (1 : Nat) (2 : Nat) t (1 : Nat)), pw (t < T ∧ (1 : Nat) + (1 : Nat) ≤ (2 : Nat)) (1 : Nat) (Ob.row (57 : Nat) (2 : Nat) T fun (j : Nat) => if j = t then [V.i (Prod.fst (mF F t (Prod.fst (F t) + Prod.fst sd) t)), V.i (Prod.snd (mF F t (Prod.fst (F t) + Prod.fst sd) t) + Prod.snd sd)] else ptC (mF F t (Prod.fst (F t) + Prod.fst sd) j))] kR kR ⟨oM, oM, oM, oM, oM, oM, tI⟩ ?_
   refine aops_nil ⟨kR, (xb_n (xt_n (hK _ ?_)))⟩; clear hK K; refine wR 3 ?_
   refine aops_n hTT (M := []) (n := 3) [pv (36 : Nat) (V.i (↑q : Int)), pc (37 : Nat) ((-9223372036854775808 : Int) ≤ (↑q : Int) + 1 ∧ (↑q : Int) + 1 ≤ (9223372036854775807 : Int)) (V.i ((↑q : Int) + 1)), pv (14 : Nat) (V.i ((↑q : Int) + 1))] kR kR ⟨oM, tI⟩ ?_
   refine aops_nil (xt_n ?_)
   refine ⟨q + 1, by omega, ?_, by omega⟩
   refine le_ren (tl := [(0, V.tks l), (1, V.sl (7 : Nat) (List.length p) fun (k : Nat) => Pr.c (gpr p k)), (2, V.i (1000 : Int)), (3, V.b false), (10, V.i (↑T : Int)), (11, V.own (1 : Nat)), (12, V.i (↑t : Int)), (13, V.sl (3 : Nat) (List.length S) fun (k : Nat) => srcC (gsr S k)), (14, V.i (↑(q + 1) : Int))]) (sl := [(1, Ob.row (57 : Nat) (2 : Nat) T fun (j : Nat) => ptC (rF l p t (accS l p (List.take (q + 1) S)) j))]) [(1, 1)] (.cons kR (.cons kR (.cons kR (.cons kR (.cons kR (.cons kR (.cons kR (.cons kR (.cons kR .nil))))))))) (.cons ⟨Ob.row (57 : Nat) (2 : Nat) T fun (j : Nat) => if j = t then [V.i (Prod.fst (mF F t (Prod.fst (F t) + Prod.fst sd) t)), V.i (Prod.snd (mF F t (Prod.fst (F t) + Prod.fst sd) t) + Prod.snd sd)] else ptC (mF F t (Prod.fst (F t) + Prod.fst sd) j), kR, .row kR ?_⟩ .nil) kR kR
   intro j hj
   show _ = V.renL _ (ptC (rF l p t (accS l p (S.take (q + 1))) j))
   have eR : rF l p t (accS l p (S.take (q + 1))) j = if j = t then ((F t).1 + sd.1, (F t).2 + sd.2) else F j := by
    rw [eA]
    by_cases e : j = t
    ·
     rw [if_pos e, rF, if_neg oM, if_pos e]
    ·
     rw [if_neg e, hF2]
     unfold rF
     rw [if_neg e, if_neg e]
   rw [eR]
   by_cases e : j = t
   ·
    rw [if_pos e, if_pos e, eM1]; rfl
   ·
    rw [if_neg e, if_neg e, mF, if_neg e]; rfl
  ·
   obtain rfl : q = S.length := by simp at c2; omega
   have eA : accS l p (S.take S.length) = rnN l p (t : Nat) p.length := by rw [List.take_length, hS, accS_rn]
   refine aw_exit ?_
   refine xt_x ?_; refine xt_x ?_
   refine xb_same ?_
   refine xb_n (xt_n ?_); clear hK K; refine hK _ ?_; clear hK K; refine wR 3 (aX hTT 3 [(1, .i ((↑t : Int) + 1))] ⟨oM, tI⟩ (aops_nil (xt_n ?_)))
   refine ⟨t + 1, by omega, ?_, by omega⟩
   refine le_ren (tl := [(0, V.tks l), (1, V.sl (7 : Nat) (List.length p) fun (k : Nat) => Pr.c (gpr p k)), (2, V.i (1000 : Int)), (3, V.b false), (10, V.i (↑T : Int)), (11, V.own (1 : Nat)), (12, V.i (↑(t + 1) : Int))]) (sl := [(1, Ob.row (57 : Nat) (2 : Nat) T fun (j : Nat) => ptC (rF l p (t + 1) ((0 : Int), (0 : Int)) j))]) [(1, 1)] (.cons kR (.cons kR (.cons kR (.cons kR (.cons kR (.cons kR (.cons kR .nil))))))) (.cons ⟨Ob.row (57 : Nat) (2 : Nat) T fun (j : Nat) => ptC (rF l p t (accS l p (List.take (List.length S) S)) j), kR, .row kR ?_⟩ .nil) kR kR
   intro j hj
   show ptC (rF l p t (accS l p (S.take S.length)) j) = V.renL _ (ptC (rF l p (t + 1) (0, 0) j))
   have eR : rF l p (t + 1) (0, 0) j = rF l p t (accS l p (S.take S.length)) j := by
    rw [eA]
    unfold rF
    by_cases e : j < t
    ·
     rw [if_pos e, if_pos oM]
    ·
     by_cases e2 : j = t
     ·
      subst e2
      rw [if_pos oM, if_neg e, if_pos rfl]
     ·
      rw [if_neg oM, if_neg e, if_neg e2]
      split <;> rfl
   rw [eR]
   rfl
 ·
  obtain rfl : t = T := by simp at c1; omega
  refine w_le (le_shut 11 1 (e := (57 : Nat)) (sz := (2 : Nat)) (n := t) (n' := (rndL l p).length) (row := fun (j : Nat) => ptC (rF l p t ((0 : Int), (0 : Int)) j)) (row' := (fun j => [.i (gp (rndL l p) j).1, .i (gp (rndL l p) j).2])) kR kR (fun _ _ => rfl) ?_ ?_) ?_
  ·
   exact hlen.symm
  ·
   intro j hj
   rw [rndL_at oM]
   show ptC (rF l p t (0, 0) j) = _
   have eR : rF l p t (0, 0) j = rnN l p (j : Nat) p.length := by
    unfold rF
    rw [if_pos hj]
   rw [eR]
   rfl
  refine aw_exit ?_
  refine xt_x ?_; refine xt_x ?_
  refine xb_same ?_
  refine xt_n ?_; clear hK K; refine hK _ ?_; clear hK K; refine sX hTT 3 2 [] tI ?_
  refine aw_ret ?_
  refine rP (V.sl (2 : Nat) (List.length (rndL l p)) fun (j : Nat) => [V.i (Prod.fst (gp (rndL l p) j)), V.i (Prod.snd (gp (rndL l p) j))])
set_option maxRecDepth 100000 in
theorem rRender_ac (l : List Tk) (p : List Pr) (h : WTk l) (hp : p.length ≤ 4611686018427387904) (h0 : cpE l p = 0) : AC Tryz.prog 22 [V.tks l, V.prs p] (if rnE l p = 0 then .tup [V.pts (rndL l p), .i 0] else .tup [.nil, .i 4]) [] := by
 have A := rCheckProgramme_ac l p h hp
 rw [h0] at A
 have hk := cpE_ok h0
 have hlen := rndL_len (l := l) (p := p)
 have he := hk.en
 refine acI hTT hMX Tryz.func22 Tryz.ntmps22 fun C hC hF => ?_
 refine sX hTT 2 2 [] tI (sK fun K hK => sK fun K hK => wR 3 (aX hTT 2 [] tI ?_))
 refine eC (A) ?_
 refine aX hTT 1 [] tI (nK hK ?_); clear hK K; refine w_false (t := false) kR rfl ?_
 refine aw_skip ?_
 refine xt_n (hK _ ?_); clear hK K; refine sK fun K hK => wR 4 (aX hTT 2 [] tI ?_)
 refine eC (rrender_ac l p hk) ?_
 refine aX hTT 1 [] tI (nK hK ?_); clear hK K; refine sK fun K hK => sK fun K hK => wR 5 (aX hTT 1 [] tI ?_)
 refine e_call (first := []) (caps := []) (rCheckSamples_ac (rndL l p) oM fun k hk2 => by
  rw [hlen] at hk2
  rw [rndL_at oM]
  have := rnN_bd hk (k : Nat) p.length (Nat.le_refl _)
  have := hk.le
  exact ⟨by simp only [inR]; omega, by simp only [inR]; omega⟩) kR kR kR kR kR ?_
 refine aX hTT 1 [] tI (nK hK ?_); clear hK K
 refine w_cond (t := !decide (sChk (rndL l p) = 0)) kR (fun c1 => ?_) (fun c1 => ?_)
 ·
  have h1 : ¬ rnE l p = 0 := by
   have : sChk (rndL l p) ≠ 0 := by simpa using c1
   rw [rnE, if_neg this]
   decide
  refine sX hTT 6 2 [] tI ?_
  refine aw_ret ?_
  refine xt_r ?_
  rw [if_neg h1]
  refine rP (V.tup [V.nil, V.i 4])
 ·
  have h1 : rnE l p = 0 := by
   have : sChk (rndL l p) = 0 := by simpa using c1
   rw [rnE, if_pos this]
  refine aw_skip ?_
  refine xt_n (hK _ ?_); clear hK K; refine sX hTT 6 3 [] tI ?_
  refine aw_ret ?_
  rw [if_pos h1]
  refine rP (V.tup [V.sl 2 (List.length (rndL l p)) fun (k : Nat) => [V.i (Prod.fst (gp (rndL l p) k)), V.i (Prod.snd (gp (rndL l p) k))], V.i 0])
set_option maxRecDepth 100000 in
theorem programme_ok (l : List Tk) (p : List Pr) (h : WTk l) (hp : p.length ≤ 6) (h0 : cpE l p = 0) (h1 : enN p p.length ≤ 200) (h2 : rnE l p = 0) : AC Tryz.prog 5 [V.tks l, V.prs p] (.tup [V.pts (rndL l p), .b true]) [] := by
 have A := rCheckProgramme_ac l p h oM
 rw [h0] at A
 have B := rRender_ac l p h oM h0
 rw [if_pos h2] at B
 refine acI hTT hMX Tryz.func5 Tryz.ntmps5 fun C hC hF => ?_
 refine sX hTT 2 2 [] tI (sK fun K hK => sK fun K hK => wR 3 (aX hTT 6 [(4, .c (gA (wr3B1 p) True)), (5, .c (gA (wr3B1 p) True))] ⟨⟨⟨tI, tI⟩, (fun _ => tI)⟩, ⟨⟨tI, tI⟩, (fun _ => tI)⟩, tI⟩ ?_))
 refine eG 2 (g := decide ((6 : Int) < (↑(List.length p) : Int)) == false) (fun g => A) ?_
 refine aX hTT 2 [(0, .c (gD (wr3B1 p) True)), (1, .c (True ∧ (decide ((6 : Int) < (↑(List.length p) : Int)) = false → (wr3B1 p) = true)))] ⟨⟨⟨(by (exact fun h => h)), ⟨tI, tI⟩⟩, (fun _ => tI)⟩, ⟨tI, eFNR3⟩, tI⟩ ?_; refine nK hK ?_; clear hK K
 refine w_cond (t := decide ((6 : Int) < (↑(List.length p) : Int)) && true) kR (fun c1 => ?_) (fun c1 => ?_)
 ·
  simp at c1
  omega
 refine aw_skip ?_
 refine xt_n (hK _ ?_); clear hK K; refine sK fun K hK => wR 4 (aX hTT 2 [] tI ?_)
 refine eC (rStarts_ac l p h oM h0) ?_
 refine aX hTT 7 [] tI (nK hK ?_); clear hK K; refine sK fun K hK => sX hTT 5 2 [] tI ?_
 refine w_cond (t := decide ((200 : Int) < enN p (List.length p))) kR (fun c2 => ?_) (fun c2 => ?_)
 ·
  simp at c2
  omega
 refine aw_skip ?_
 refine xt_n (hK _ ?_); clear hK K; refine sK fun K hK => wR 6 (aX hTT 2 [] tI ?_)
 refine eC (B) ?_
 refine aX hTT 5 [] tI (nK hK ?_); clear hK K; refine sX hTT 7 5 [] tI ?_
 refine aw_ret ?_
 refine rP (V.tup [V.sl 2 (List.length (rndL l p)) fun (k : Nat) => [V.i (Prod.fst (gp (rndL l p) k)), V.i (Prod.snd (gp (rndL l p) k))], V.b true])
set_option maxRecDepth 100000 in
theorem programme_no (l : List Tk) (p : List Pr) (h : WTk l) (hp : p.length ≤ 4611686018427387904) (h0 : ¬ (p.length ≤ 6 ∧ cpE l p = 0 ∧ enN p p.length ≤ 200 ∧ rnE l p = 0)) : AC Tryz.prog 5 [V.tks l, V.prs p] (.tup [.nil, .b false]) [] := by
 have A := rCheckProgramme_ac l p h hp
 refine acI hTT hMX Tryz.func5 Tryz.ntmps5 fun C hC hF => ?_
 refine sX hTT 2 2 [] tI (sK fun K hK => sK fun K hK => wR 3 (aX hTT 6 [(4, .c (gA (wr3B1 p) True)), (5, .c (gA (wr3B1 p) True))] ⟨⟨⟨tI, tI⟩, (fun _ => tI)⟩, ⟨⟨tI, tI⟩, (fun _ => tI)⟩, tI⟩ ?_))
 refine eG 2 (g := decide ((6 : Int) < (↑(List.length p) : Int)) == false) (fun g => A) ?_
 refine aX hTT 2 [(0, .c (gD (wr3B1 p) True)), (1, .c (True ∧ (decide ((6 : Int) < (↑(List.length p) : Int)) = false → (wr3B1 p) = true)))] ⟨⟨⟨(by (exact fun h => h)), ⟨tI, tI⟩⟩, (fun _ => tI)⟩, ⟨tI, eFNR3⟩, tI⟩ ?_; refine nK hK ?_; clear hK K
 refine w_cond (t := decide ((6 : Int) < (↑(List.length p) : Int)) || !decide (cpE l p = 0)) kR (fun c1 => ?_) (fun c1 => ?_)
 ·
  refine sX hTT 4 2 [] tI ?_
  refine aw_ret ?_
  refine xt_r ?_
  refine rP (V.tup [V.nil, V.b false])
 have h1 : p.length ≤ 6 ∧ cpE l p = 0 := by simp at c1; exact ⟨by omega, c1.2⟩
 have B := rRender_ac l p h hp h1.2
 refine aw_skip ?_
 refine xt_n (hK _ ?_); clear hK K; refine sK fun K hK => wR 4 (aX hTT 2 [] tI ?_)
 refine eC (rStarts_ac l p h hp h1.2) ?_
 refine aX hTT 7 [] tI (nK hK ?_); clear hK K; refine sK fun K hK => sX hTT 5 2 [] tI ?_
 refine w_cond (t := decide ((200 : Int) < enN p (List.length p))) kR (fun c2 => ?_) (fun c2 => ?_)
 ·
  refine sX hTT 6 2 [] tI ?_
  refine aw_ret ?_
  refine xt_r ?_
  refine rP (V.tup [V.nil, V.b false])
 have h2 : enN p p.length ≤ 200 := by simp at c2; omega
 rw [if_neg fun h3 => h0 ⟨h1.1, h1.2, h2, h3⟩] at B
 refine aw_skip ?_
 refine xt_n (hK _ ?_); clear hK K; refine sK fun K hK => wR 6 (aX hTT 2 [] tI ?_)
 refine eC (B) ?_
 refine aX hTT 5 [] tI (nK hK ?_); clear hK K; refine sX hTT 7 5 [] tI ?_
 refine aw_ret ?_
 refine rP (V.tup [V.nil, V.b false])
end Go.Proofs.YtpmchnojeloohaaGreatDoor

namespace Go.Proofs.YtpmchnojeloohaaGreatDoor
open Go.Ab Go.RowKit Go.Dw Go.Shelf
theorem eFNT3 {x c : Bool} (h : x = c) : (x == c) = true := by rw [h]; cases c <;> rfl
def plC (p : List Pr) (i : Nat) : List V := [.i (gpr p i).tk, .i (gpr p i).fr, .i (gpr p i).to, .i (gpr p i).gap, .i (gpr p i).inn, .i (gpr p i).out, .i (gpr p i).lev, .i i, .i (bgN p i), .i (enN p (i + 1))]
def V.pls (p : List Pr) : V := .sl 10 p.length fun k => plC p k
def V.prog (l : List Tk) (p : List Pr) : V := .ptr [V.tks l, V.pls p, .i (enN p p.length)]
abbrev PgB (l : List Tk) (e : Int) (n : Nat) : Ob := .box 78 [V.tks l, .own n, .i e]
abbrev PgR (p : List Pr) (k : Nat) : Ob := .row 82 10 k fun j => plC p j
abbrev wt3B0 (x : Pr) : Bool := decide (Pr.tk x < 0) == false
abbrev wt3B1 (k : Nat) : Bool := decide ((0 : Int) < (↑k : Int)) == true
abbrev wt3B2 (l : List Tk) (x : Pr) : Bool := decide (Pr.tk x < 0) || decide ((↑(List.length l) : Int) ≤ Pr.tk x)
abbrev wt3B3 (x : Pr) : Bool := (betB (Pr.gap x) (-4096 : Int) (4096 : Int) && betB (Pr.inn x) (0 : Int) (1000 : Int)) == true
abbrev wt3B4 (l : List Tk) (x : Pr) : Bool := decide (Pr.tk x < 0) || decide ((↑(List.length l) : Int) ≤ Pr.tk x) || decide (Pr.fr x < 0)
abbrev wt3B5 (x : Pr) : Bool := (betB (Pr.gap x) (-4096 : Int) (4096 : Int) && betB (Pr.inn x) (0 : Int) (1000 : Int) && betB (Pr.out x) (0 : Int) (1000 : Int)) == true
abbrev wt3B6 (l : List Tk) (x : Pr) : Bool := decide (Pr.tk x < 0) || decide ((↑(List.length l) : Int) ≤ Pr.tk x) || decide (Pr.fr x < 0) || decide (Pr.to x ≤ Pr.fr x)
abbrev wt3B7 (k : Nat) (p : List Pr) : Bool := decide ((0 : Int) < (↑k : Int)) == true && decide (enN p (k + 1) < enN p (Int.toNat ((↑k : Int) - 1) + 1)) == false
abbrev wt3B8 (k : Nat) (p : List Pr) : Bool := decide (enN p (k + 1) < enN p (Int.toNat ((↑k : Int) - 1) + 1)) || decide (bgN p k < bgN p (Int.toNat ((↑k : Int) - 1)))
abbrev wt3B9 (k : Nat) (p : List Pr) : Bool := decide ((0 : Int) < (↑k : Int)) && (wt3B8 k p)
set_option maxHeartbeats 4000000 in
set_option maxRecDepth 100000 in
theorem good_am (l : List Tk) (p : List Pr) (x : Pr) (e : Int) (k : Nat) (hl : l.length ≤ 16) (hd : ∀ i, i < l.length → (gtk l i).2.length ≤ 4096) : AM Tryz.prog 61 [.ref 500 0, .agg x.c] [PgB l e 501, PgR p k] (.b (prB l x)) [some (PgB l e 501), some (PgR p k)] [] := by
 refine am_intro hTT hMX (fn := Tryz.f61) (N := _) ⟨Tryz.func61, rfl, Tryz.ntmps61, kR⟩ (by simp) rfl (by simp) (by simp) fun C hF => ?_
 refine sX hTT 2 2 [] tI (sK fun K hK => sK fun K hK => wD 3 ?_); refine aX hTT 40 ((4, .c (gA (wt3B0 x) True)) :: (5, .c (gB (wt3B0 x) True)) :: (6, .c (gA (wt3B0 x) True)) :: (7, .c (gB (wt3B0 x) True)) :: (8, .c (gB (wt3B0 x) True)) :: (9, .c (gB (wt3B0 x) ((0 : Nat) ≤ (3 : Nat)))) :: (10, .c (gB (wt3B0 x) True)) :: (11, .c (gC (wt3B0 x) True)) :: (12, .c (True ∧ (decide (Pr.tk x < 0) = false → (wt3B0 x) = true))) :: (14, .c (gA ((wt3B2 l x) == false) True)) :: (15, .c (gB ((wt3B2 l x) == false) True)) :: (16, .c (gD ((wt3B2 l x) == false) True)) :: (17, .c (True ∧ ((wt3B2 l x) = false → ((wt3B2 l x) == false) = true))) :: (19, .c (gA ((wt3B4 l x) == false) True)) :: (20, .c (gB ((wt3B4 l x) == false) True)) :: (21, .c (gA ((wt3B4 l x) == false) True)) :: (22, .c (gB ((wt3B4 l x) == false) True)) :: (23, .c (gC ((wt3B4 l x) == false) True)) :: (24, .c (True ∧ ((wt3B4 l x) = false → ((wt3B4 l x) == false) = true))) :: (26, .c (gA ((wt3B6 l x) == false) True)) :: (27, .c (gB ((wt3B6 l x) == false) True)) :: (28, .c (gA ((wt3B6 l x) == false) True)) :: (29, .c (gB ((wt3B6 l x) == false) True)) :: (30, .c (gB ((wt3B6 l x) == false) True)) :: (31, .c (gB ((wt3B6 l x) == false) ((0 : Nat) ≤ (3 : Nat)))) :: (32, .c (gA ((wt3B6 l x) == false) True)) :: (33, .c (gB ((wt3B6 l x) == false) True)) :: (34, .c (gC ((wt3B6 l x) == false) ((0 : Int) ≤ Pr.tk x ∧ Pr.tk x < (↑(List.length l) : Int)))) :: (35, .c (gB ((wt3B6 l x) == false) True)) :: (36, .c (gB ((wt3B6 l x) == false) True)) :: (37, .c (gB ((wt3B6 l x) == false) True)) :: (38, .c (gC ((wt3B6 l x) == false) True)) :: (39, .c (True ∧ ((wt3B6 l x) = false → ((wt3B6 l x) == false) = true))) :: []) ⟨⟨⟨tI, tI⟩, (fun _ => tI)⟩, ⟨⟨(by (exact fun h => h)), tI⟩, (fun _ => tI)⟩, ⟨⟨tI, tI⟩, (fun _ => tI)⟩, ⟨⟨(by (exact fun h => h)), tI⟩, (fun _ => tI)⟩, ⟨⟨(by (exact fun h => h)), tI⟩, (fun _ => tI)⟩, ⟨⟨(by (exact fun h => h)), tI⟩, (by (intro _; simp; done))⟩, ⟨⟨(by (exact fun h => h)), tI⟩, (fun _ => tI)⟩, ⟨⟨(by (exact fun h => h)), ⟨(by (exact fun h => h)), tI⟩⟩, (fun _ => tI)⟩, ⟨tI, eFNT3⟩, ⟨⟨tI, tI⟩, (fun _ => tI)⟩, ⟨⟨(by (exact fun h => h)), tI⟩, (fun _ => tI)⟩, ⟨⟨(by (exact fun h => h)), ⟨tI, tI⟩⟩, (fun _ => tI)⟩, ⟨tI, eFNT3⟩, ⟨⟨tI, tI⟩, (fun _ => tI)⟩, ⟨⟨(by (exact fun h => h)), tI⟩, (fun _ => tI)⟩, ⟨⟨tI, tI⟩, (fun _ => tI)⟩, ⟨⟨(by (exact fun h => h)), tI⟩, (fun _ => tI)⟩, ⟨⟨(by (exact fun h => h)), ⟨(by (exact fun h => h)), tI⟩⟩, (fun _ => tI)⟩, ⟨tI, eFNT3⟩, ⟨⟨tI, tI⟩, (fun _ => tI)⟩, ⟨⟨(by (exact fun h => h)), tI⟩, (fun _ => tI)⟩, ⟨⟨tI, tI⟩, (fun _ => tI)⟩, ⟨⟨(by (exact fun h => h)), tI⟩, (fun _ => tI)⟩, ⟨⟨(by (exact fun h => h)), tI⟩, (fun _ => tI)⟩, ⟨⟨(by (exact fun h => h)), tI⟩, (by (intro _; simp; done))⟩, ⟨⟨tI, tI⟩, (fun _ => tI)⟩, ⟨⟨(by (exact fun h => h)), tI⟩, (fun _ => tI)⟩, ⟨⟨(by (exact fun h => h)), ⟨(by (exact fun h => h)), tI⟩⟩, (by (intro hg; simp at hg; omega))⟩, ⟨⟨(by (exact fun h => h)), tI⟩, (fun _ => tI)⟩, ⟨⟨(by (exact fun h => h)), tI⟩, (fun _ => tI)⟩, ⟨⟨(by (exact fun h => h)), tI⟩, (fun _ => tI)⟩, ⟨⟨(by (exact fun h => h)), ⟨(by (exact fun h => h)), tI⟩⟩, (fun _ => tI)⟩, ⟨tI, eFNT3⟩, tI⟩ ?_; refine aops_nil ⟨kR, (xt_n (hK _ ?_))⟩; clear hK K
 refine w_cond (t := decide (Pr.tk x < 0) || decide ((↑(List.length l) : Int) ≤ Pr.tk x) || decide (Pr.fr x < 0) || decide (Pr.to x ≤ Pr.fr x) || decide ((↑(List.length (Prod.snd (gtk l (Int.toNat (Pr.tk x))))) : Int) < Pr.to x)) kR (fun c1 => ?_) (fun c1 => ?_)
 ·
  have hE : prB l x = false := decide_eq_false fun h => by simp at c1; omega
  refine sX hTT 4 1 [] tI ?_
  refine aw_ret ?_
  refine xt_r ?_
  rw [hE]
  refine retM (v' := V.b false) [] [(4, V.b false)] (.inr rfl) (.cons kR .nil) (.cons ⟨Ob.box 78 [V.tks l, V.own 501, V.i e], kR, .box kR⟩ (.cons ⟨Ob.row 82 10 k fun (j : Nat) => plC p j, kR, .row kR (fun _ _ => rfl)⟩ .nil)) kR kR kR kR kR kR kR
 ·
  refine aw_skip ?_
  refine xt_n (hK _ ?_); clear hK K; refine sK fun K hK => wR 4 (aX hTT 2 [] tI ?_)
  refine eC (tBetween_ac x.gap (-4096) 4096) ?_
  refine aX hTT 3 [(1, .c (gA (betB (Pr.gap x) (-4096 : Int) (4096 : Int) == true) True)), (2, .c (gB (betB (Pr.gap x) (-4096 : Int) (4096 : Int) == true) True))] ⟨⟨⟨tI, tI⟩, (fun _ => tI)⟩, ⟨⟨(by (exact fun h => h)), tI⟩, (fun _ => tI)⟩, tI⟩ ?_
  refine eG 1 (g := betB (Pr.gap x) (-4096 : Int) (4096 : Int) == true) (fun g => tBetween_ac x.inn 0 1000) ?_
  refine aX hTT 4 [(0, .c ((betB (Pr.gap x) (-4096 : Int) (4096 : Int) = true → (betB (Pr.gap x) (-4096 : Int) (4096 : Int) == true) = true) ∧ True)), (2, .c (gA (wt3B3 x) True)), (3, .c (gB (wt3B3 x) True))] ⟨⟨eFNT3, tI⟩, ⟨⟨tI, tI⟩, (fun _ => tI)⟩, ⟨⟨(by (exact fun h => h)), tI⟩, (fun _ => tI)⟩, tI⟩ ?_
  refine eG 1 (g := (betB (Pr.gap x) (-4096 : Int) (4096 : Int) && betB (Pr.inn x) (0 : Int) (1000 : Int)) == true) (fun g => tBetween_ac x.out 0 1000) ?_
  refine aX hTT 4 [(0, .c (((betB (Pr.gap x) (-4096 : Int) (4096 : Int) && betB (Pr.inn x) (0 : Int) (1000 : Int)) = true → (wt3B3 x) = true) ∧ True)), (2, .c (gA (wt3B5 x) True)), (3, .c (gB (wt3B5 x) True))] ⟨⟨eFNT3, tI⟩, ⟨⟨tI, tI⟩, (fun _ => tI)⟩, ⟨⟨(by (exact fun h => h)), tI⟩, (fun _ => tI)⟩, tI⟩ ?_
  refine eG 1 (g := (betB (Pr.gap x) (-4096 : Int) (4096 : Int) && betB (Pr.inn x) (0 : Int) (1000 : Int) && betB (Pr.out x) (0 : Int) (1000 : Int)) == true) (fun g => tBetween_ac x.lev 0 4000) ?_
  refine aX hTT 2 [(0, .c (((betB (Pr.gap x) (-4096 : Int) (4096 : Int) && betB (Pr.inn x) (0 : Int) (1000 : Int) && betB (Pr.out x) (0 : Int) (1000 : Int)) = true → (wt3B5 x) = true) ∧ True))] ⟨⟨eFNT3, tI⟩, tI⟩ (nK hK ?_); clear hK K
  refine aw_ret ?_
  have hE : prB l x = (betB x.gap (-4096) 4096 && betB x.inn 0 1000 && betB x.out 0 1000 && betB x.lev 0 4000) := by
   simp at c1
   rw [Bool.eq_iff_iff]
   simp [prB, betB]
   omega
  rw [hE]
  refine retM (v' := V.b (betB (Pr.gap x) (-4096 : Int) (4096 : Int) && betB (Pr.inn x) (0 : Int) (1000 : Int) && betB (Pr.out x) (0 : Int) (1000 : Int) && betB (Pr.lev x) (0 : Int) (4000 : Int))) [] [(4, V.b (betB (Pr.gap x) (-4096 : Int) (4096 : Int) && betB (Pr.inn x) (0 : Int) (1000 : Int) && betB (Pr.out x) (0 : Int) (1000 : Int) && betB (Pr.lev x) (0 : Int) (4000 : Int)))] (.inr rfl) (.cons kR .nil) (.cons ⟨Ob.box 78 [V.tks l, V.own 501, V.i e], kR, .box kR⟩ (.cons ⟨Ob.row 82 10 k fun (j : Nat) => plC p j, kR, .row kR (fun _ _ => rfl)⟩ .nil)) kR kR kR kR kR kR kR
def frN (p : List Pr) (k : Nat) : Int := if k ≤ 1 then 0 else enN p (k - 1)
set_option maxHeartbeats 4000000 in
set_option maxRecDepth 100000 in
theorem newP_ac (l : List Tk) (p : List Pr) (h : POk l p) : AC Tryz.prog 27 [V.tks l, V.prs p] (.tup [V.prog l p, .i 0]) [] := by
 have hp := h.le
 have hv := h.pv
 have hen := h.en
 obtain ⟨l1, l2⟩ := ctE_len h.ct
 refine acI hTT hMX Tryz.func27 Tryz.ntmps27 fun C hC hF => ?_
 refine sX hTT 2 2 [] tI (sK fun K hK => sK fun K hK => wR 3 (aX hTT 1 [] tI ?_))
 refine eC (CheckTakes_ac l h.ct) ?_
 refine aX hTT 1 [] tI (nK hK ?_); clear hK K; refine sX hTT 4 2 [] tI (w_false (t := false) kR rfl ?_)
 refine aw_skip ?_
 refine xt_n (hK _ ?_); clear hK K; refine sK fun K hK => sX hTT 5 3 [] tI ?_
 refine w_cond (t := decide ((32 : Int) < (↑(List.length p) : Int))) kR (fun c1 => ?_) (fun c1 => ?_)
 ·
  simp at c1
  omega
 refine aw_skip ?_
 refine xt_n (hK _ ?_); clear hK K; refine sK fun K hK => wR 6 ?_
 refine aops_x (M := [24]) hTT 4 [(2, .r (pn 24 (V.ref 500024 0) (500024 : Nat) (Ob.box 78 [V.tks l, V.nil, V.i 0])))] tI ?_
 refine nK hK ?_; clear hK K; refine sK fun K hK => sK fun K hK => wR 7 ?_
 refine aops_x (M := [24]) hTT 3 [] tI ?_
 refine nK hK ?_; clear hK K
 refine aw_block ?_
 refine w_le (s' := ⟨mkT [(7, .ref 1 0), (25, V.prs p), (26, .i p.length), (27, .i 0)], mkS [(1, .box 78 [V.tks l, .nil, .i 0])], 1⟩) ?_ ?_
 ·
  refine le_ren (sl := [(1, Ob.box 78 [V.tks l, V.nil, V.i 0])]) [(1, 500024)] (.cons kR (.cons kR (.cons kR (.cons kR .nil)))) (.cons ⟨Ob.box 78 [V.tks l, V.nil, V.i 0], kR, .box kR⟩ .nil) kR kR
 refine w_le (le_openIn 1 1 (t := 78) (cs := [V.tks l, .nil, .i 0]) 82 10 (fun j => plC p j) kR kR rfl rfl) ?_
 refine w_loop (ι := Nat) (fun k => [(7, .ref 1 0), (25, V.prs p), (26, .i p.length), (27, .i k)]) (fun k => [(1, PgB l (enN p k) 2), (2, PgR p k)]) (fun k => k ≤ p.length) (fun k => p.length - k) 0 (Nat.zero_le _) ?_ ?_
 ·
  refine le_ren (sl := [(1, Ob.box 78 [V.tks l, V.own 2, V.i (enN p (0 : Nat))]), (2, Ob.row 82 10 0 fun (j : Nat) => plC p j)]) [(1, 1), (2, 100001)] (.cons kR (.cons kR (.cons kR (.cons kR .nil)))) (.cons ⟨Ob.box 78 [V.tks l, V.own 100001, V.i 0], kR, .box kR⟩ (.cons ⟨Ob.row 82 10 0 fun (j : Nat) => plC p j, kR, .row kR (fun _ _ => rfl)⟩ .nil)) kR kR
 intro k hk
 refine sX hTT 2 1 [] tI (sK fun K hK => ?_)
 refine w_cond (t := decide ((↑k : Int) < (↑(List.length p) : Int))) kR (fun c2 => ?_) (fun c2 => ?_)
 ·
  have hk1 : k < p.length := by simpa using c2
  have b := hv.bg hk1
  have a := hv.at hk1
  have hpr := h.pr k hk1
  refine aw_skip ?_
  refine xt_n (hK _ ?_); clear hK K; refine sK fun K hK => ?_
  refine aw_block ?_
  refine sX hTT 3 6 [(1, .c ((0 : Int) ≤ (↑k : Int) ∧ (↑k : Int) < (↑(List.length p) : Int))), (3, .r (pn 9 (V.ref 200009 0) (200009 : Nat) (Ob.box 80 [V.i 0, V.i 0, V.i 0, V.i 0, V.i 0, V.i 0, V.i 0]))), (5, .r (pw ((0 : Nat) + (7 : Nat) ≤ (7 : Nat)) (200009 : Nat) (Ob.box 80 [V.i (Pr.tk (gpr p k)), V.i (Pr.fr (gpr p k)), V.i (Pr.to (gpr p k)), V.i (Pr.gap (gpr p k)), V.i (Pr.inn (gpr p k)), V.i (Pr.out (gpr p k)), V.i (Pr.lev (gpr p k))])))] ⟨oM, oM, tI⟩ (sK fun K hK => sK fun K hK => wR 4 (aX hTT 2 [(1, .c ((0 : Nat) ≤ (7 : Nat)))] ⟨oM, tI⟩ ?_))
  refine aops_callR [1, 2] (first := []) (caps := []) (ins' := [Ob.box 78 [V.tks l, V.own 2, V.i (enN p k)], Ob.row 82 10 k fun (j : Nat) => plC p j]) (v' := V.b (prB l (gpr p k))) (δ := []) (kp := [1, 2]) (good_am l p (gpr p k) (enN p k) k l2 fun i hi => (ctE_tk h.ct hi).2.2.1) kR kR kR kR kR kR kR rfl kR kR ⟨kR, ⟨(fun _ _ => rfl), tI⟩⟩ kR kR kR ?_
  rw [hpr]
  have q : (gpr p k).long = (gpr p k).to - (gpr p k).fr := rfl
  have q0 : bgN p k = enN p k + (gpr p k).gap := rfl
  have q1 := enN_succ p k
  have q2 : enN p k + (gpr p k).gap + (gpr p k).to - (gpr p k).fr = enN p (k + 1) := by rw [q1, q, q0]; omega
  refine aX hTT 1 [] tI (nK hK ?_); clear hK K; refine w_false (t := false) kR rfl ?_
  refine aw_skip ?_
  refine xt_n (hK _ ?_); clear hK K; refine sK fun K hK => wD 5 (aX hTT 12 [(0, .c ((0 : Nat) ≤ (7 : Nat))), (5, .c ((2 : Nat) ≤ (3 : Nat))), (7, .c ((3 : Nat) ≤ (7 : Nat))), (8, .i (enN p k + Pr.gap (gpr p k))), (10, .r (pn 10 (V.ref 400010 0) (400010 : Nat) (Ob.box 82 [V.i 0, V.i 0, V.i 0, V.i 0, V.i 0, V.i 0, V.i 0, V.i 0, V.i 0, V.i 0]))), (11, .r (pw ((0 : Nat) + (10 : Nat) ≤ (10 : Nat)) (400010 : Nat) (Ob.box 82 [V.i (Pr.tk (gpr p k)), V.i (Pr.fr (gpr p k)), V.i (Pr.to (gpr p k)), V.i (Pr.gap (gpr p k)), V.i (Pr.inn (gpr p k)), V.i (Pr.out (gpr p k)), V.i (Pr.lev (gpr p k)), V.i (↑k : Int), V.i (enN p k + Pr.gap (gpr p k)), V.i 0])))] ⟨oM, oM, oM, oM, oM, tI⟩ (aops_nil ⟨kR, (xt_n (hK _ ?_))⟩)); clear hK K; refine sX hTT 6 10 [(1, .c ((8 : Nat) ≤ (10 : Nat))), (3, .c ((2 : Nat) ≤ (7 : Nat))), (4, .i (enN p k + Pr.gap (gpr p k) + Pr.to (gpr p k))), (6, .c ((1 : Nat) ≤ (7 : Nat))), (7, .i (enN p k + Pr.gap (gpr p k) + Pr.to (gpr p k) - Pr.fr (gpr p k))), (9, .r (pw ((9 : Nat) + (1 : Nat) ≤ (10 : Nat)) (400010 : Nat) (Ob.box 82 [V.i (Pr.tk (gpr p k)), V.i (Pr.fr (gpr p k)), V.i (Pr.to (gpr p k)), V.i (Pr.gap (gpr p k)), V.i (Pr.inn (gpr p k)), V.i (Pr.out (gpr p k)), V.i (Pr.lev (gpr p k)), V.i (↑k : Int), V.i (enN p k + Pr.gap (gpr p k)), V.i (enN p k + Pr.gap (gpr p k) + Pr.to (gpr p k) - Pr.fr (gpr p k))])))] ⟨oM, oM, oM, oM, oM, oM, tI⟩ (sK fun K hK => wD 7 (aX hTT 11 [(4, .c ((1 : Nat) ≤ (3 : Nat))), (5, .c ((0 : Nat) ≤ (10 : Nat))), (7, .r (PR.mk (some (62 : Nat)) (some (k + 1 ≤ (1099511627776 : Nat))) (V.own 600062) [((2 : Nat), none), ((600062 : Nat), some (Ob.row 82 10 (k + 1) (appRow k (fun (j : Nat) => plC p j) fun (i : Nat) => List.take (10 : Nat) (List.drop (i * 10) [V.i (Pr.tk (gpr p k)), V.i (Pr.fr (gpr p k)), V.i (Pr.to (gpr p k)), V.i (Pr.gap (gpr p k)), V.i (Pr.inn (gpr p k)), V.i (Pr.out (gpr p k)), V.i (Pr.lev (gpr p k)), V.i (↑k : Int), V.i (enN p k + Pr.gap (gpr p k)), V.i (enN p k + Pr.gap (gpr p k) + Pr.to (gpr p k) - Pr.fr (gpr p k))]))))] false)), (10, .r (pw ((1 : Nat) + (1 : Nat) ≤ (3 : Nat)) (1 : Nat) (Ob.box 78 [V.tks l, V.own 600062, V.i (enN p k)])))] ⟨oM, oM, oM, oM, tI⟩ (aops_nil ⟨kR, (xt_n (hK _ ?_))⟩))); clear hK K; refine wR 8 (aX hTT 6 [(2, .c ((9 : Nat) ≤ (10 : Nat))), (5, .r (pw ((2 : Nat) + (1 : Nat) ≤ (3 : Nat)) (1 : Nat) (Ob.box 78 [V.tks l, V.own 600062, V.i (enN p k + Pr.gap (gpr p k) + Pr.to (gpr p k) - Pr.fr (gpr p k))])))] ⟨oM, oM, tI⟩ (aops_nil (xb_n (xt_n (hK _ ?_))))); clear hK K; refine wR 9 (aX hTT 2 [(0, .i ((↑k : Int) + 1))] ⟨oM, tI⟩ (aops_nil (xt_n ?_)))
  refine ⟨k + 1, by omega, ?_, by omega⟩
  rw [q2]
  refine le_ren (tl := [(7, V.ref 1 0), (25, V.sl 7 (List.length p) fun (k : Nat) => Pr.c (gpr p k)), (26, V.i (↑(List.length p) : Int)), (27, V.i (↑(k + 1) : Int))]) (sl := [(1, Ob.box 78 [V.tks l, V.own 2, V.i (enN p (k + 1))]), (2, Ob.row 82 10 (k + 1) fun (j : Nat) => plC p j)]) [(1, 1), (2, 600062)] (.cons kR (.cons kR (.cons kR (.cons kR .nil)))) (.cons ⟨Ob.box 78 [V.tks l, V.own 600062, V.i (enN p (k + 1))], kR, .box kR⟩ (.cons ⟨Ob.row 82 10 (k + 1) (appRow k (fun (j : Nat) => plC p j) fun (i : Nat) => List.take (10 : Nat) (List.drop (i * 10) [V.i (Pr.tk (gpr p k)), V.i (Pr.fr (gpr p k)), V.i (Pr.to (gpr p k)), V.i (Pr.gap (gpr p k)), V.i (Pr.inn (gpr p k)), V.i (Pr.out (gpr p k)), V.i (Pr.lev (gpr p k)), V.i (↑k : Int), V.i (enN p k + Pr.gap (gpr p k)), V.i (enN p (k + 1))])), kR, .row kR ?_⟩ .nil)) kR kR
  exact appRow_ok (fun _ _ => rfl) rfl
 obtain rfl : k = p.length := by simp at c2; omega
 refine w_le (le_freezeIn 2 (e := (82 : Nat)) (sz := (10 : Nat)) (n := List.length p) (n' := p.length) (row := fun (j : Nat) => plC p j) (row' := (fun k => plC p k)) kR (fun _ => rfl) ?_ ?_) ?_
 ·
  rfl
 ·
  exact fun _ _ => rfl
 refine w_le (le_freezeBox (t := 78) (cs := [V.tks l, V.pls p, .i (enN p p.length)]) 1 kR kR) ?_
 refine aw_exit ?_
 refine xt_x ?_; refine xt_x ?_
 refine xb_same ?_
 refine xt_n ?_; clear hK K; refine hK _ ?_; clear hK K; refine sX hTT 3 1 [] tI (sK fun K hK => sX hTT 4 6 [] tI ?_)
 refine aw_block ?_
 refine w_loop (ι := Nat) (fun k => [(7, V.prog l p), (11, .i (frN p k)), (74, V.pls p), (75, .i p.length), (76, .i k)]) (fun _ => []) (fun k => k ≤ p.length) (fun k => p.length - k) 0 (Nat.zero_le _) ?_ ?_
 ·
  refine le_ren [] (.cons kR (.cons kR (.cons kR (.cons kR (.cons kR .nil))))) .nil kR kR
 intro k hk
 refine sX hTT 2 1 [] tI (sK fun K hK => ?_)
 refine w_cond (t := decide ((↑k : Int) < (↑(List.length p) : Int))) kR (fun c3 => ?_) (fun c3 => ?_)
 ·
  have hk1 : k < p.length := by simpa using c3
  obtain ⟨q1, q2, q3⟩ := plB_ok (h.pl k hk1)
  have b := hv.bg hk1
  have a := hv.at hk1
  have t1 : ((k : Int) - 1).toNat = k - 1 := by omega
  have e1 := enN_succ p k
  have e2 := enN_succ p (k - 1)
  have e3 : 0 < k → enN p (k - 1 + 1) = enN p k := fun h => by rw [show k - 1 + 1 = k by omega]
  have e4 : bgN p k = enN p k + (gpr p k).gap := rfl
  have e5 := h.bg hk1
  have a2 := hv.at (i := k - 1) oM
  refine aw_skip ?_
  refine xt_n (hK _ ?_); clear hK K; refine sK fun K hK => ?_
  refine aw_block ?_
  refine sX hTT 3 6 [(1, .c ((0 : Int) ≤ (↑k : Int) ∧ (↑k : Int) < (↑(List.length p) : Int))), (3, .r (pn 13 (V.ref 200013 0) (200013 : Nat) (Ob.box 82 [V.i 0, V.i 0, V.i 0, V.i 0, V.i 0, V.i 0, V.i 0, V.i 0, V.i 0, V.i 0]))), (5, .r (pw ((0 : Nat) + (10 : Nat) ≤ (10 : Nat)) (200013 : Nat) (Ob.box 82 [V.i (Pr.tk (gpr p k)), V.i (Pr.fr (gpr p k)), V.i (Pr.to (gpr p k)), V.i (Pr.gap (gpr p k)), V.i (Pr.inn (gpr p k)), V.i (Pr.out (gpr p k)), V.i (Pr.lev (gpr p k)), V.i (↑k : Int), V.i (bgN p k), V.i (enN p (k + 1))])))] ⟨oM, oM, tI⟩ (sK fun K hK => sK fun K hK => wD 4 ?_); refine aX hTT 36 ((3, .c (gA (wt3B1 k) True)) :: (4, .c (gB (wt3B1 k) ((9 : Nat) ≤ (10 : Nat)))) :: (5, .c (gA (wt3B1 k) True)) :: (6, .c (gB (wt3B1 k) True)) :: (7, .c (gB (wt3B1 k) True)) :: (8, .c (gB (wt3B1 k) True)) :: (9, .c (gA (wt3B1 k) True)) :: (10, .c (gD (wt3B1 k) ((-9223372036854775808 : Int) ≤ (↑k : Int) - 1 ∧ (↑k : Int) - 1 ≤ (9223372036854775807 : Int)))) :: (11, .c (gC (wt3B1 k) ((0 : Int) ≤ (↑k : Int) - 1 ∧ (↑k : Int) - 1 < (↑(List.length p) : Int)))) :: (12, .c (gB (wt3B1 k) True)) :: (13, .c (gB (wt3B1 k) True)) :: (14, .c (gC (wt3B1 k) True)) :: (15, .c (gB (wt3B1 k) True)) :: (16, .c (gA (wt3B7 k p) True)) :: (17, .c (gB (wt3B7 k p) ((8 : Nat) ≤ (10 : Nat)))) :: (18, .c (gA (wt3B7 k p) True)) :: (19, .c (gB (wt3B7 k p) True)) :: (20, .c (gB (wt3B7 k p) True)) :: (21, .c (gB (wt3B7 k p) True)) :: (22, .c (gA (wt3B7 k p) True)) :: (23, .c (gD (wt3B7 k p) ((-9223372036854775808 : Int) ≤ (↑k : Int) - 1 ∧ (↑k : Int) - 1 ≤ (9223372036854775807 : Int)))) :: (24, .c (gC (wt3B7 k p) ((0 : Int) ≤ (↑k : Int) - 1 ∧ (↑k : Int) - 1 < (↑(List.length p) : Int)))) :: (25, .c (gB (wt3B7 k p) True)) :: (26, .c (gB (wt3B7 k p) True)) :: (27, .c (gC (wt3B7 k p) True)) :: (28, .c (((wt3B1 k) = true → (wt3B1 k) = true) ∧ ((wt3B1 k) = true → True) ∧ ((wt3B1 k) = true → decide (enN p (k + 1) < enN p (Int.toNat ((↑k : Int) - 1) + 1)) = false → (wt3B7 k p) = true))) :: (29, .c ((decide ((0 : Int) < (↑k : Int)) = true → (wt3B1 k) = true) ∧ True)) :: (31, .c (gA ((wt3B9 k p) == false) True)) :: (32, .c (gB ((wt3B9 k p) == false) ((8 : Nat) ≤ (10 : Nat)))) :: (33, .c (gA ((wt3B9 k p) == false) True)) :: (34, .c (gC ((wt3B9 k p) == false) True)) :: (35, .c (True ∧ ((wt3B9 k p) = false → ((wt3B9 k p) == false) = true))) :: []) ⟨⟨⟨tI, tI⟩, (fun _ => tI)⟩, ⟨⟨(by (exact fun h => h)), tI⟩, (by (intro _; simp; done))⟩, ⟨⟨tI, tI⟩, (fun _ => tI)⟩, ⟨⟨(by (exact fun h => h)), tI⟩, (fun _ => tI)⟩, ⟨⟨(by (exact fun h => h)), tI⟩, (fun _ => tI)⟩, ⟨⟨(by (exact fun h => h)), tI⟩, (fun _ => tI)⟩, ⟨⟨tI, tI⟩, (fun _ => tI)⟩, ⟨⟨(by (exact fun h => h)), ⟨tI, tI⟩⟩, (by (intro hg; simp at hg; omega))⟩, ⟨⟨(by (exact fun h => h)), ⟨(by (exact fun h => h)), tI⟩⟩, (by (intro hg; simp at hg; omega))⟩, ⟨⟨(by (exact fun h => h)), tI⟩, (fun _ => tI)⟩, ⟨⟨(by (exact fun h => h)), tI⟩, (fun _ => tI)⟩, ⟨⟨(by (exact fun h => h)), ⟨(by (exact fun h => h)), tI⟩⟩, (fun _ => tI)⟩, ⟨⟨(by (exact fun h => h)), tI⟩, (fun _ => tI)⟩, ⟨⟨tI, tI⟩, (fun _ => tI)⟩, ⟨⟨(by (exact fun h => h)), tI⟩, (by (intro _; simp; done))⟩, ⟨⟨tI, tI⟩, (fun _ => tI)⟩, ⟨⟨(by (exact fun h => h)), tI⟩, (fun _ => tI)⟩, ⟨⟨(by (exact fun h => h)), tI⟩, (fun _ => tI)⟩, ⟨⟨(by (exact fun h => h)), tI⟩, (fun _ => tI)⟩, ⟨⟨tI, tI⟩, (fun _ => tI)⟩, ⟨⟨(by (exact fun h => h)), ⟨tI, tI⟩⟩, (by (intro hg; simp at hg; omega))⟩, ⟨⟨(by (exact fun h => h)), ⟨(by (exact fun h => h)), tI⟩⟩, (by (intro hg; simp at hg; omega))⟩, ⟨⟨(by (exact fun h => h)), tI⟩, (fun _ => tI)⟩, ⟨⟨(by (exact fun h => h)), tI⟩, (fun _ => tI)⟩, ⟨⟨(by (exact fun h => h)), ⟨(by (exact fun h => h)), tI⟩⟩, (fun _ => tI)⟩, ⟨(by (exact fun h => h)), ⟨(fun _ => tI), (by (simp; omega))⟩⟩, ⟨eFNT3, tI⟩, ⟨⟨tI, tI⟩, (fun _ => tI)⟩, ⟨⟨(by (exact fun h => h)), tI⟩, (by (intro _; simp; done))⟩, ⟨⟨tI, tI⟩, (fun _ => tI)⟩, ⟨⟨(by (exact fun h => h)), ⟨(by (exact fun h => h)), tI⟩⟩, (fun _ => tI)⟩, ⟨tI, eFNT3⟩, tI⟩ ?_; refine aops_nil ⟨kR, (xt_n (hK _ ?_))⟩; clear hK K
  refine w_cond (t := decide ((0 : Int) < (↑k : Int)) && (decide (enN p (k + 1) < enN p (Int.toNat ((↑k : Int) - 1) + 1)) || decide (bgN p k < bgN p (Int.toNat ((↑k : Int) - 1)))) || decide (bgN p k < frN p k)) kR (fun c4 => ?_) (fun c4 => ?_)
  ·
   exfalso
   rw [t1] at c4
   unfold frN at c4
   simp at c4
   split at c4 <;> omega
  refine aw_skip ?_
  refine xt_n (hK _ ?_); clear hK K; refine sX hTT 5 2 [] tI ?_
  refine w_cond (t := decide ((0 : Int) < (↑k : Int))) kR (fun c5 => ?_) (fun c5 => ?_)
  ·
   have k0 : 0 < k := by simp at c5; omega
   refine wR 6 ?_
   refine aops_n hTT (M := []) (n := 10) [pv 119 (V.ptr [V.tks l, V.sl 10 (List.length p) fun (k : Nat) => plC p k, V.i (enN p (List.length p))]), pv 120 (V.ptr [V.tks l, V.sl 10 (List.length p) fun (k : Nat) => plC p k, V.i (enN p (List.length p))]), pv 121 (V.ptr [V.sl 10 (List.length p) fun (k : Nat) => plC p k, V.i (enN p (List.length p))]), pv 122 (V.sl 10 (List.length p) fun (k : Nat) => plC p k), pv 123 (V.i (↑k : Int)), pc 124 ((-9223372036854775808 : Int) ≤ (↑k : Int) - 1 ∧ (↑k : Int) - 1 ≤ (9223372036854775807 : Int)) (V.i ((↑k : Int) - 1)), pc 125 ((0 : Int) ≤ (↑k : Int) - 1 ∧ (↑k : Int) - 1 < (↑(List.length p) : Int)) (V.ptr [V.i (Pr.tk (gpr p (Int.toNat ((↑k : Int) - 1)))), V.i (Pr.fr (gpr p (Int.toNat ((↑k : Int) - 1)))), V.i (Pr.to (gpr p (Int.toNat ((↑k : Int) - 1)))), V.i (Pr.gap (gpr p (Int.toNat ((↑k : Int) - 1)))), V.i (Pr.inn (gpr p (Int.toNat ((↑k : Int) - 1)))), V.i (Pr.out (gpr p (Int.toNat ((↑k : Int) - 1)))), V.i (Pr.lev (gpr p (Int.toNat ((↑k : Int) - 1)))), V.i (↑(Int.toNat ((↑k : Int) - 1)) : Int), V.i (bgN p (Int.toNat ((↑k : Int) - 1))), V.i (enN p (Int.toNat ((↑k : Int) - 1) + 1))]), pv 126 (V.ptr [V.i (enN p (Int.toNat ((↑k : Int) - 1) + 1))]), pv 127 (V.i (enN p (Int.toNat ((↑k : Int) - 1) + 1))), pv 11 (V.i (enN p (Int.toNat ((↑k : Int) - 1) + 1)))] kR kR ⟨oM, oM, tI⟩ ?_
   refine aops_nil (xb_n (xt_n (hK _ ?_))); clear hK K; refine wR 7 ?_
   refine aops_n hTT (M := []) (n := 2) [pc 128 ((-9223372036854775808 : Int) ≤ (↑k : Int) + 1 ∧ (↑k : Int) + 1 ≤ (9223372036854775807 : Int)) (V.i ((↑k : Int) + 1)), pv 76 (V.i ((↑k : Int) + 1))] kR kR ⟨oM, tI⟩ ?_
   refine aops_nil (xt_n ?_)
   refine ⟨k + 1, by omega, ?_, by omega⟩
   refine le_ren (tl := [(7, V.ptr [V.tks l, V.sl 10 (List.length p) fun (k : Nat) => plC p k, V.i (enN p (List.length p))]), (11, V.i (frN p (k + 1))), (74, V.sl 10 (List.length p) fun (k : Nat) => plC p k), (75, V.i (↑(List.length p) : Int)), (76, V.i (↑(k + 1) : Int))]) [] (.cons kR (.cons ?_ (.cons kR (.cons kR (.cons kR .nil))))) .nil kR kR
   show V.i (enN p (((k : Int) - 1).toNat + 1)) = V.i (frN p (k + 1))
   rw [t1, frN, if_neg oM, show k + 1 - 1 = k by omega, show k - 1 + 1 = k by omega]
  ·
   have k0 : k = 0 := by simp at c5; omega
   subst k0
   refine aw_skip ?_
   refine xb_n (xt_n (hK _ ?_)); clear hK K; refine wR 6 (aX hTT 2 [(0, .i ((↑(0 : Nat) : Int) + 1))] ⟨oM, tI⟩ (aops_nil (xt_n ?_)))
   refine ⟨0 + 1, by omega, ?_, by omega⟩
   refine le_ren [] (.cons kR (.cons kR (.cons kR (.cons kR (.cons kR .nil))))) .nil kR kR
 ·
  refine aw_exit ?_
  refine xt_x ?_; refine xt_x ?_
  refine xb_same ?_
  refine xt_n ?_; clear hK K; refine hK _ ?_; clear hK K; refine sK fun K hK => sX hTT 3 5 [] tI ?_
  refine w_cond (t := decide ((4096 : Int) < enN p (List.length p))) kR (fun c4 => ?_) (fun c4 => ?_)
  ·
   simp at c4
   omega
  ·
   refine aw_skip ?_
   refine xt_n (hK _ ?_); clear hK K; refine sX hTT 4 3 [] tI ?_
   refine aw_ret ?_
   refine rP (V.tup [V.ptr [V.tks l, V.sl 10 (List.length p) fun (k : Nat) => plC p k, V.i (enN p (List.length p))], V.i 0])
def glN (x : Pr) (k : Int) : Int := x.lev * (min k x.inn + 1) * (min (x.long - k - 1) x.out + 1)
def glD (x : Pr) : Int := 1000 * (x.inn + 1) * (x.out + 1)
theorem min_1 (a b : Int) : min a b + 1 = min (a + 1) (b + 1) := by omega
theorem min_2 (n k b : Int) : min (n - k - 1) b + 1 = min (n - k) (b + 1) := by omega
set_option maxRecDepth 100000 in
theorem gain_ac (l : List Tk) (p : List Pr) (i : Nat) (k : Int) (h : POk l p) (hi : i < p.length) (hs : SBd l (gpr p i) k) : AC Tryz.prog 67 [.agg (plC p i), .i k, .i (gpr p i).lev] (.agg [.i (glN (gpr p i) k), .i (glD (gpr p i))]) [] := by
 have b := h.pv.bg hi
 have a := h.pv.at hi
 obtain ⟨r1, r2, r3, r4, r5⟩ := hs.any (h.pr i hi)
 obtain ⟨_, _, _, q4, q5, q6, q7, _⟩ := hs.L
 have e1 := enN_succ p i
 have e2 : enN p (i + 1) - bgN p i - k - 1 = (gpr p i).long - k - 1 := by omega
 have m1 := min_1 k (gpr p i).inn
 have m2 := min_2 (gpr p i).long k (gpr p i).out
 refine acI hTT hMX Tryz.func67 Tryz.ntmps67 fun C hC hF => ?_
 rw [← min_1] at q4
 rw [← min_1, ← min_2, ← e2] at q5
 have e3 : glN (gpr p i) k = (gpr p i).lev * (min k (gpr p i).inn + 1) * (min (enN p (i + 1) - bgN p i - k - 1) (gpr p i).out + 1) := by rw [glN, ← e2]
 refine sX hTT 2 2 [(1, .r (pn 6 (V.ref 100006 0) (100006 : Nat) (Ob.box 141 [V.i 0, V.i 0])))] tI (sK fun K hK => wD 3 (aX hTT 21 [(5, .i (min k (Pr.inn (gpr p i)) + 1)), (10, .i (enN p (i + 1) - bgN p i)), (12, .i (enN p (i + 1) - bgN p i - k)), (13, .i (enN p (i + 1) - bgN p i - k - 1)), (18, .i (min (enN p (i + 1) - bgN p i - k - 1) (Pr.out (gpr p i)) + 1))] ⟨oM, oM, oM, oM, oM, tI⟩ (aops_nil ⟨kR, (xt_n (hK _ ?_))⟩))); clear hK K; refine sX hTT 4 17 [(2, .i (Pr.lev (gpr p i) * (min k (Pr.inn (gpr p i)) + 1))), (4, .i (Pr.lev (gpr p i) * (min k (Pr.inn (gpr p i)) + 1) * (min (enN p (i + 1) - bgN p i - k - 1) (Pr.out (gpr p i)) + 1))), (8, .i (Pr.inn (gpr p i) + 1)), (9, .i ((1000 : Int) * (Pr.inn (gpr p i) + 1))), (13, .i (Pr.out (gpr p i) + 1)), (14, .i ((1000 : Int) * (Pr.inn (gpr p i) + 1) * (Pr.out (gpr p i) + 1))), (16, .r (pw ((0 : Nat) + (2 : Nat) ≤ (2 : Nat)) (100006 : Nat) (Ob.box 141 [V.i (Pr.lev (gpr p i) * (min k (Pr.inn (gpr p i)) + 1) * (min (enN p (i + 1) - bgN p i - k - 1) (Pr.out (gpr p i)) + 1)), V.i ((1000 : Int) * (Pr.inn (gpr p i) + 1) * (Pr.out (gpr p i) + 1))])))] ⟨oM, oM, oM, oM, oM, oM, oM, tI⟩ ?_
 refine aw_ret ?_
 rw [e3]
 refine rP (V.agg [V.i (Pr.lev (gpr p i) * (min k (Pr.inn (gpr p i)) + 1) * (min (enN p (i + 1) - bgN p i - k - 1) (Pr.out (gpr p i)) + 1)), V.i ((1000 : Int) * (Pr.inn (gpr p i) + 1) * (Pr.out (gpr p i) + 1))])
theorem loud_gl (s k : Int) (x : Pr) : loud s x k = (s * glN x k).tdiv (glD x) := by
 unfold loud glN glD
 rw [min_1, min_2, ← Int.mul_assoc, ← Int.mul_assoc]
set_option maxRecDepth 100000 in
theorem of_ac (s k : Int) (x : Pr) (h : LBd s x.lev (min (k + 1) (x.inn + 1)) (min (x.long - k) (x.out + 1)) x.inn x.out) : AC Tryz.prog 68 [.agg [.i (glN x k), .i (glD x)], .i s] (.i (loud s x k)) [] := by
 obtain ⟨_, _, q3, _, _, _, q7, _⟩ := h
 have e : s * glN x k = s * x.lev * min (k + 1) (x.inn + 1) * min (x.long - k) (x.out + 1) := by
  unfold glN
  rw [min_1, min_2, ← Int.mul_assoc, ← Int.mul_assoc]
 have e2 : glD x = 1000 * (x.inn + 1) * (x.out + 1) := rfl
 rw [← e] at q3
 rw [← e2] at q7
 rw [loud_gl]
 refine acI hTT hMX Tryz.func68 Tryz.ntmps68 fun C hC hF => ?_
 refine sX hTT 2 2 [] tI (sX hTT 3 8 [(3, .i (s * glN x k)), (6, .c ((0 : Int) < glD x ∧ (-9223372036854775808 : Int) ≤ s * glN x k ∧ s * glN x k ≤ 9223372036854775807))] ⟨oM, ⟨oM, oM⟩, tI⟩ ?_)
 refine aw_ret ?_
 refine rP (V.i (Int.tdiv (s * glN x k) (glD x)))
abbrev yyNT30 (a : Pt) (b : Pt) : List V := [V.i (Prod.fst a + Prod.fst b), V.i (Prod.snd a + Prod.snd b)]
set_option maxRecDepth 100000 in
theorem sum2_ac (a b : Pt) (h1 : inR .i64 (a.1 + b.1)) (h2 : inR .i64 (a.2 + b.2)) : AC Tryz.prog 30 [.agg [.i a.1, .i a.2], .agg [.i b.1, .i b.2]] (.agg [.i (a.1 + b.1), .i (a.2 + b.2)]) [] := by
 simp only [inR] at h1 h2
 refine acI hTT hMX Tryz.func30 Tryz.ntmps30 fun C hC hF => ?_
 refine sX hTT 2 3 [(2, .r (pn 4 (V.ref 100004 0) (100004 : Nat) (Ob.box 57 [V.i 0, V.i 0])))] tI (sX hTT 3 12 [(4, .i (Prod.fst a + Prod.fst b)), (9, .i (Prod.snd a + Prod.snd b)), (11, .r (pw ((0 : Nat) + (2 : Nat) ≤ (2 : Nat)) (100004 : Nat) (Ob.box 57 (yyNT30 a b))))] ⟨oM, oM, oM, tI⟩ ?_)
 refine aw_ret ?_
 refine rP (V.agg (yyNT30 a b))
set_option maxRecDepth 100000 in
theorem sound_ac (l : List Tk) (p : List Pr) (i : Nat) (k : Int) (h : POk l p) (hi : i < p.length) (hs : SBd l (gpr p i) k) : AC Tryz.prog 31 [V.prog l p, .agg (plC p i), .i k, .i (gpr p i).lev] (.agg [.i (snd l (gpr p i) k).1, .i (snd l (gpr p i) k).2]) [] := by
 obtain ⟨r1, r2, r3, r4, r5⟩ := hs.any (h.pr i hi)
 have b1 := hs.tk
 have b2 := hs.ix
 have b3 := hs.le
 refine acI hTT hMX Tryz.func31 Tryz.ntmps31 fun C hC hF => ?_
 refine sX hTT 2 2 [(1, .r (pn 8 (V.ref 100008 0) (100008 : Nat) (Ob.box 57 [V.i 0, V.i 0])))] tI (sK fun K hK => wR 3 (aX hTT 3 [] tI ?_))
 refine eC (gain_ac l p i k h hi hs) ?_
 refine aX hTT 2 [] tI (nK hK ?_); clear hK K; refine sK fun K hK => wD 4 (aX hTT 19 [(7, .c ((0 : Int) ≤ Pr.tk (gpr p i) ∧ Pr.tk (gpr p i) < (↑(List.length l) : Int))), (14, .i (Pr.fr (gpr p i) + k)), (15, .c ((0 : Int) ≤ Pr.fr (gpr p i) + k ∧ Pr.fr (gpr p i) + k < (↑(List.length (Prod.snd (gtk l (Int.toNat (Pr.tk (gpr p i)))))) : Int))), (17, .r (pn 10 (V.ref 300010 0) (300010 : Nat) (Ob.box 57 [V.i 0, V.i 0]))), (18, .r (pw ((0 : Nat) + (2 : Nat) ≤ (2 : Nat)) (300010 : Nat) (Ob.box 57 [V.i (Prod.fst (gp (Prod.snd (gtk l (Int.toNat (Pr.tk (gpr p i))))) (Int.toNat (Pr.fr (gpr p i) + k)))), V.i (Prod.snd (gp (Prod.snd (gtk l (Int.toNat (Pr.tk (gpr p i))))) (Int.toNat (Pr.fr (gpr p i) + k))))])))] ⟨oM, oM, oM, oM, tI⟩ (aops_nil ⟨kR, (xt_n (hK _ ?_))⟩)); clear hK K; refine sK fun K hK => wD 5 (aX hTT 3 [(2, .c ((0 : Nat) ≤ (2 : Nat)))] ⟨oM, tI⟩ ?_)
 refine e_call (first := [V.agg [V.i (glN (gpr p i) k), V.i (glD (gpr p i))]]) (caps := []) (of_ac _ k (gpr p i) hs.L) kR kR kR kR kR ?_
 refine aX hTT 3 [(2, .c ((1 : Nat) ≤ (2 : Nat)))] ⟨oM, tI⟩ ?_
 refine e_call (first := [V.agg [V.i (glN (gpr p i) k), V.i (glD (gpr p i))]]) (caps := []) (of_ac _ k (gpr p i) hs.R) kR kR kR kR kR ?_
 refine aX hTT 2 [(1, .r (pw ((0 : Nat) + (2 : Nat) ≤ (2 : Nat)) (100008 : Nat) (Ob.box 57 [V.i (loud (Prod.fst (gp (Prod.snd (gtk l (Int.toNat (Pr.tk (gpr p i))))) (Int.toNat (Pr.fr (gpr p i) + k)))) (gpr p i) k), V.i (loud (Prod.snd (gp (Prod.snd (gtk l (Int.toNat (Pr.tk (gpr p i))))) (Int.toNat (Pr.fr (gpr p i) + k)))) (gpr p i) k)])))] ⟨oM, tI⟩ (aops_nil ⟨kR, (xt_n (hK _ ?_))⟩); clear hK K
 refine aw_ret ?_
 refine rP (V.agg [V.i (loud (Prod.fst (gp (Prod.snd (gtk l (Int.toNat (Pr.tk (gpr p i))))) (Int.toNat (Pr.fr (gpr p i) + k)))) (gpr p i) k), V.i (loud (Prod.snd (gp (Prod.snd (gtk l (Int.toNat (Pr.tk (gpr p i))))) (Int.toNat (Pr.fr (gpr p i) + k)))) (gpr p i) k)])
end Go.Proofs.YtpmchnojeloohaaGreatDoor

namespace Go.Proofs.YtpmchnojeloohaaGreatDoor
open Go.Ab Go.RowKit Go.Dw Go.Shelf
def pF (l : List Tk) (p : List Pr) (k t j : Nat) : Pt := if onB p k (j : Nat) = true ∧ j < t then rnN l p (j : Nat) (k + 1) else rnN l p (j : Nat) k
theorem rnN_off1 {l : List Tk} {p : List Pr} {k : Nat} {j : Int} (h : ¬ onB p k j = true) : rnN l p j (k + 1) = rnN l p j k := by rw [rnN, if_neg h]
set_option maxHeartbeats 4000000 in
set_option maxRecDepth 100000 in
theorem Render_ac (l : List Tk) (p : List Pr) (h : POk l p) : AC Tryz.prog 10 [V.tks l, V.prs p] (if rnE l p = 0 then .tup [V.pts (rndL l p), .i 0] else .tup [.nil, .i 4]) [] := by
 have hp := h.le
 have hv := h.pv
 have hn := h.nn (Nat.le_refl p.length)
 have he := h.en
 obtain ⟨T, hT⟩ : ∃ T : Nat, enN p p.length = T := ⟨(enN p p.length).toNat, by omega⟩
 have hlen := rndL_len (l := l) (p := p)
 rw [hT, Int.toNat_natCast] at hlen
 have hT4 : T ≤ 4096 := by omega
 refine acI hTT hMX Tryz.func10 Tryz.ntmps10 fun C hC hF => ?_
 refine sX hTT 2 2 [] tI (sK fun K hK => wR 3 (aX hTT 2 [] tI ?_))
 refine eC (newP_ac l p h) ?_
 refine aX hTT 5 [] tI (nK hK ?_); clear hK K; refine sK fun K hK => sX hTT 4 2 [] tI (w_false (t := false) kR rfl ?_)
 refine aw_skip ?_
 refine xt_n (hK _ ?_); clear hK K; refine sX hTT 5 6 [(4, .r (PR.mk (some (25 : Nat)) (some ((0 : Int) ≤ enN p (List.length p) ∧ enN p (List.length p) ≤ enN p (List.length p) ∧ enN p (List.length p) ≤ 1099511627776)) (V.own 400025) [((400025 : Nat), some (Ob.row 57 2 (Int.toNat (enN p (List.length p))) fun (x : Nat) => [V.c (Value.int IntKind.i64 0), V.c (Value.int IntKind.i64 0)]))] false))] ⟨⟨oM, oM⟩, tI⟩ (sK fun K hK => sX hTT 6 6 [] tI ?_)
 refine aw_block ?_
 refine w_loop (ι := Nat) (fun k => [(6, V.prog l p), (8, .own 1), (29, V.pls p), (30, .i p.length), (31, .i k)]) (fun k => [(1, .row 57 2 T fun j => ptC (rnN l p (j : Nat) k))]) (fun k => k ≤ p.length) (fun k => p.length - k) 0 (Nat.zero_le _) ?_ ?_
 ·
  refine le_ren (sl := [(1, Ob.row 57 2 T fun (j : Nat) => ptC (rnN l p (↑j : Int) (0 : Nat)))]) [(1, 400025)] (.cons kR (.cons kR (.cons kR (.cons kR (.cons kR .nil))))) (.cons ⟨Ob.row 57 2 (Int.toNat (enN p (List.length p))) fun (x : Nat) => [V.c (Value.int IntKind.i64 0), V.c (Value.int IntKind.i64 0)], kR, .row oM (fun _ _ => rfl)⟩ .nil) kR kR
 intro k hk
 refine sX hTT 2 1 [] tI (sK fun K hK => ?_)
 refine w_cond (t := decide ((↑k : Int) < (↑(List.length p) : Int))) kR (fun c1 => ?_) (fun c1 => ?_)
 ·
  have hk1 : k < p.length := by simpa using c1
  have b := h.bg hk1
  have m := h.mono (i := k + 1) (k := p.length) oM (Nat.le_refl _)
  have e1 := enN_succ p k
  have lg := h.long hk1
  obtain ⟨B, hB⟩ : ∃ B : Nat, bgN p k = B := ⟨(bgN p k).toNat, by omega⟩
  obtain ⟨E, hE⟩ : ∃ E : Nat, enN p (k + 1) = E := ⟨(enN p (k + 1)).toNat, by omega⟩
  refine aw_skip ?_
  refine xt_n (hK _ ?_); clear hK K; refine sK fun K hK => ?_
  refine aw_block ?_
  refine sX hTT 3 4 [(0, .c ((0 : Int) ≤ (↑k : Int) ∧ (↑k : Int) < (↑(List.length p) : Int))), (2, .r (pn 10 (V.ref 200010 0) (200010 : Nat) (Ob.box 82 [V.i 0, V.i 0, V.i 0, V.i 0, V.i 0, V.i 0, V.i 0, V.i 0, V.i 0, V.i 0]))), (3, .r (pw ((0 : Nat) + (10 : Nat) ≤ (10 : Nat)) (200010 : Nat) (Ob.box 82 [V.i (Pr.tk (gpr p k)), V.i (Pr.fr (gpr p k)), V.i (Pr.to (gpr p k)), V.i (Pr.gap (gpr p k)), V.i (Pr.inn (gpr p k)), V.i (Pr.out (gpr p k)), V.i (Pr.lev (gpr p k)), V.i (↑k : Int), V.i (bgN p k), V.i (enN p (k + 1))])))] ⟨oM, oM, tI⟩ (sX hTT 4 3 [(1, .c ((8 : Nat) ≤ (10 : Nat)))] ⟨oM, tI⟩ ?_)
  refine aw_block ?_
  refine w_loop (ι := Nat) (fun t => [(6, V.prog l p), (8, .own 1), (10, .ref 2 0), (11, .i t), (29, V.pls p), (30, .i p.length), (31, .i k)]) (fun t => [(1, .row 57 2 T fun j => ptC (pF l p k t j)), (2, .box 82 (plC p k))]) (fun t => B ≤ t ∧ t ≤ E) (fun t => E - t) B ⟨Nat.le_refl _, by omega⟩ ?_ ?_
  ·
   refine le_ren (tl := [(6, V.ptr [V.tks l, V.sl 10 (List.length p) fun (k : Nat) => plC p k, V.i (enN p (List.length p))]), (8, V.own 1), (10, V.ref 2 0), (11, V.i (↑B : Int)), (29, V.sl 10 (List.length p) fun (k : Nat) => plC p k), (30, V.i (↑(List.length p) : Int)), (31, V.i (↑k : Int))]) (sl := [(1, Ob.row 57 2 T fun (j : Nat) => ptC (pF l p k B j)), (2, Ob.box 82 [V.i (Pr.tk (gpr p k)), V.i (Pr.fr (gpr p k)), V.i (Pr.to (gpr p k)), V.i (Pr.gap (gpr p k)), V.i (Pr.inn (gpr p k)), V.i (Pr.out (gpr p k)), V.i (Pr.lev (gpr p k)), V.i (↑k : Int), V.i (bgN p k), V.i (enN p (k + 1))])]) [(1, 1), (2, 200010)] (.cons kR (.cons kR (.cons kR (.cons ?_ (.cons kR (.cons kR (.cons kR .nil))))))) (.cons ⟨Ob.row 57 2 T fun (j : Nat) => ptC (rnN l p (↑j : Int) k), kR, .row kR ?_⟩ (.cons ⟨Ob.box 82 [V.i (Pr.tk (gpr p k)), V.i (Pr.fr (gpr p k)), V.i (Pr.to (gpr p k)), V.i (Pr.gap (gpr p k)), V.i (Pr.inn (gpr p k)), V.i (Pr.out (gpr p k)), V.i (Pr.lev (gpr p k)), V.i (↑k : Int), V.i (bgN p k), V.i (enN p (k + 1))], kR, .box kR⟩ .nil)) kR kR
   ·
    exact congrArg V.i hB
   ·
    intro j hj
    show ptC _ = V.renL _ (ptC (pF l p k B j))
    have e : pF l p k B j = rnN l p (j : Nat) k := by
     rw [pF, if_neg]
     rintro ⟨h1, h2⟩
     simp only [onB, Bool.and_eq_true, decide_eq_true_eq] at h1
     omega
    rw [e]
    rfl
  rintro t ⟨ht1, ht2⟩
  refine sK fun K hK => sX hTT 2 4 [(2, .c ((9 : Nat) ≤ (10 : Nat)))] ⟨oM, tI⟩ ?_
  refine w_cond (t := decide ((↑t : Int) < enN p (k + 1))) kR (fun c2 => ?_) (fun c2 => ?_)
  ·
   have t3 : t < E := by simp at c2; omega
   have ho : onB p k (t : Nat) = true := by
    simp only [onB, Bool.and_eq_true, decide_eq_true_eq]
    omega
   have hs := onB_k h hk1 ho
   obtain ⟨s1, s2⟩ := snd_le hs
   have r1 := rnN_bd h (t : Nat) k oM
   have eP : pF l p k t t = rnN l p (t : Nat) k := by
    rw [pF, if_neg]
    rintro ⟨_, h2⟩
    omega
   have eN : rnN l p (t : Nat) (k + 1) = ((rnN l p (t : Nat) k).1 + (snd l (gpr p k) ((t : Nat) - bgN p k)).1, (rnN l p (t : Nat) k).2 + (snd l (gpr p k) ((t : Nat) - bgN p k)).2) := by rw [rnN, if_pos ho]
   refine aw_skip ?_
   refine xt_n (hK _ ?_); clear hK K; refine sK fun K hK => ?_
   refine aw_block ?_
   refine wD 3 (aX hTT 15 [(4, .c ((0 : Int) ≤ (↑t : Int) ∧ (↑t : Int) < (↑T : Int))), (5, .c (t < T ∧ (0 : Nat) ≤ (2 : Nat))), (7, .c ((0 : Nat) ≤ (10 : Nat))), (10, .c ((8 : Nat) ≤ (10 : Nat))), (11, .i ((↑t : Int) - bgN p k)), (14, .c ((6 : Nat) ≤ (10 : Nat)))] ⟨oM, oM, oM, oM, oM, oM, tI⟩ ?_)
   refine eC (sound_ac l p k ((t : Nat) - bgN p k) h hk1 hs) ?_
   skip
   refine eC (sum2_ac (pF l p k t t) (snd l (gpr p k) ((t : Nat) - bgN p k)) (by rw [eP]; simp only [inR]; omega) (by rw [eP]; simp only [inR]; omega)) ?_
   refine aX hTT 2 [(0, .c ((0 : Int) ≤ (↑t : Int) ∧ (↑t : Int) < (↑T : Int))), (1, .r (pw (t < T ∧ (0 : Nat) + (2 : Nat) ≤ (2 : Nat)) (1 : Nat) (Ob.row 57 2 T fun (j : Nat) => if j = t then [V.i (Prod.fst (pF l p k t t) + Prod.fst (snd l (gpr p k) ((↑t : Int) - bgN p k))), V.i (Prod.snd (pF l p k t t) + Prod.snd (snd l (gpr p k) ((↑t : Int) - bgN p k)))] else ptC (pF l p k t j))))] ⟨oM, oM, tI⟩ (aops_nil ⟨kR, (xb_n (xt_n (hK _ ?_)))⟩); clear hK K; refine wR 4 (aX hTT 3 [(1, .i ((↑t : Int) + 1))] ⟨oM, tI⟩ (aops_nil (xt_n ?_)))
   refine ⟨t + 1, ⟨by omega, by omega⟩, ?_, by omega⟩
   refine le_ren (tl := [(6, V.ptr [V.tks l, V.sl 10 (List.length p) fun (k : Nat) => plC p k, V.i (enN p (List.length p))]), (8, V.own 1), (10, V.ref 2 0), (11, V.i (↑(t + 1) : Int)), (29, V.sl 10 (List.length p) fun (k : Nat) => plC p k), (30, V.i (↑(List.length p) : Int)), (31, V.i (↑k : Int))]) (sl := [(1, Ob.row 57 2 T fun (j : Nat) => ptC (pF l p k (t + 1) j)), (2, Ob.box 82 [V.i (Pr.tk (gpr p k)), V.i (Pr.fr (gpr p k)), V.i (Pr.to (gpr p k)), V.i (Pr.gap (gpr p k)), V.i (Pr.inn (gpr p k)), V.i (Pr.out (gpr p k)), V.i (Pr.lev (gpr p k)), V.i (↑k : Int), V.i (bgN p k), V.i (enN p (k + 1))])]) [(1, 1), (2, 2)] (.cons kR (.cons kR (.cons kR (.cons kR (.cons kR (.cons kR (.cons kR .nil))))))) (.cons ⟨Ob.row 57 2 T fun (j : Nat) => if j = t then [V.i (Prod.fst (pF l p k t t) + Prod.fst (snd l (gpr p k) ((↑t : Int) - bgN p k))), V.i (Prod.snd (pF l p k t t) + Prod.snd (snd l (gpr p k) ((↑t : Int) - bgN p k)))] else ptC (pF l p k t j), kR, .row kR ?_⟩ (.cons ⟨Ob.box 82 [V.i (Pr.tk (gpr p k)), V.i (Pr.fr (gpr p k)), V.i (Pr.to (gpr p k)), V.i (Pr.gap (gpr p k)), V.i (Pr.inn (gpr p k)), V.i (Pr.out (gpr p k)), V.i (Pr.lev (gpr p k)), V.i (↑k : Int), V.i (bgN p k), V.i (enN p (k + 1))], kR, .box kR⟩ .nil)) kR kR
   intro j hj
   show _ = V.renL _ (ptC (pF l p k (t + 1) j))
   by_cases e : j = t
   ·
    have e2 : pF l p k (t + 1) j = rnN l p (t : Nat) (k + 1) := by rw [e, pF, if_pos ⟨ho, by omega⟩]
    rw [if_pos e, e2, eN, eP]
    rfl
   ·
    have e2 : pF l p k (t + 1) j = pF l p k t j := by
     unfold pF
     by_cases h1 : onB p k (j : Nat) = true
     ·
      by_cases h2 : j < t
      ·
       rw [if_pos ⟨h1, by omega⟩, if_pos ⟨h1, h2⟩]
      ·
       rw [if_neg (fun h => by omega), if_neg (fun h => by omega)]
     ·
      rw [if_neg (fun h => h1 h.1), if_neg (fun h => h1 h.1)]
    rw [if_neg e, e2]
    rfl
  ·
   obtain rfl : t = E := by simp at c2; omega
   refine aw_exit ?_
   refine xt_x ?_; refine xt_x ?_
   refine xb_same ?_
   refine xb_n (xt_n ?_); clear hK K; refine hK _ ?_; clear hK K; refine wR 3 (aX hTT 2 [(0, .i ((↑k : Int) + 1))] ⟨oM, tI⟩ (aops_nil (xt_n ?_)))
   refine ⟨k + 1, by omega, ?_, by omega⟩
   refine le_ren (tl := [(6, V.ptr [V.tks l, V.sl 10 (List.length p) fun (k : Nat) => plC p k, V.i (enN p (List.length p))]), (8, V.own 1), (29, V.sl 10 (List.length p) fun (k : Nat) => plC p k), (30, V.i (↑(List.length p) : Int)), (31, V.i (↑(k + 1) : Int))]) (sl := [(1, Ob.row 57 2 T fun (j : Nat) => ptC (rnN l p (↑j : Int) (k + 1)))]) [(1, 1)] (.cons kR (.cons kR (.cons kR (.cons kR (.cons kR .nil))))) (.cons ⟨Ob.row 57 2 T fun (j : Nat) => ptC (pF l p k t j), kR, .row kR ?_⟩ .nil) kR kR
   intro j hj
   show ptC (pF l p k t j) = V.renL _ (ptC (rnN l p (j : Nat) (k + 1)))
   have e2 : pF l p k t j = rnN l p (j : Nat) (k + 1) := by
    unfold pF
    by_cases h1 : onB p k (j : Nat) = true
    ·
     have h2 := h1
     simp only [onB, Bool.and_eq_true, decide_eq_true_eq] at h2
     rw [if_pos ⟨h1, by omega⟩]
    ·
     rw [if_neg (fun h => h1 h.1), rnN_off1 h1]
   rw [e2]
   rfl
 ·
  obtain rfl : k = p.length := by simp at c1; omega
  refine w_le (le_shut 8 1 (e := (57 : Nat)) (sz := (2 : Nat)) (n := T) (n' := (rndL l p).length) (row := fun (j : Nat) => ptC (rnN l p (↑j : Int) (List.length p))) (row' := (fun j => [.i (gp (rndL l p) j).1, .i (gp (rndL l p) j).2])) kR kR (fun _ _ => rfl) ?_ ?_) ?_
  ·
   exact hlen.symm
  ·
   intro j hj
   rw [rndL_at oM]
   rfl
  refine aw_exit ?_
  refine xt_x ?_; refine xt_x ?_
  refine xb_same ?_
  refine xt_n ?_; clear hK K; refine hK _ ?_; clear hK K; refine sK fun K hK => sK fun K hK => wR 3 (aX hTT 1 [] tI ?_)
  refine eC (tCheckSamples_ac (rndL l p) oM) ?_
  refine aX hTT 1 [] tI (nK hK ?_); clear hK K
  refine w_cond (t := !decide (sChk (rndL l p) = 0)) kR (fun c2 => ?_) (fun c2 => ?_)
  ·
   have h1 : ¬ rnE l p = 0 := by
    have : sChk (rndL l p) ≠ 0 := by simpa using c2
    rw [rnE, if_neg this]
    decide
   refine sX hTT 4 2 [] tI ?_
   refine aw_ret ?_
   refine xt_r ?_
   rw [if_neg h1]
   refine rP (V.tup [V.nil, V.i 4])
  ·
   have h1 : rnE l p = 0 := by
    have : sChk (rndL l p) = 0 := by simpa using c2
    rw [rnE, if_pos this]
   refine aw_skip ?_
   refine xt_n (hK _ ?_); clear hK K; refine sX hTT 4 3 [] tI ?_
   refine aw_ret ?_
   rw [if_pos h1]
   refine rP (V.tup [V.sl 2 (List.length (rndL l p)) fun (j : Nat) => [V.i (Prod.fst (gp (rndL l p) j)), V.i (Prod.snd (gp (rndL l p) j))], V.i 0])
end Go.Proofs.YtpmchnojeloohaaGreatDoor
