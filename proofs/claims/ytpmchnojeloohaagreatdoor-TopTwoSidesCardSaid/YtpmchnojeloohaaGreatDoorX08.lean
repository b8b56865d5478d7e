/-
  Several texts in one: What an index of a groove needs: the walks of both copies. Conditions: told in each theorem. .. The small examples of the layers up to 5. No condition.
-/
import Derived.Test.YtpmchnojeloohaaGreatDoorX07
import Derived.Test.YtpmchnojeloohaaGreatDoorAbs42
import Derived.Test.YtpmchnojeloohaaGreatDoorX06
import Derived.Test.YtpmchnojeloohaaGreatDoorX04
import Derived.Test.YtpmchnojeloohaaGreatDoorX05
import Derived.Test.YtpmchnojeloohaaGreatDoorMD
namespace Go.Proofs.YtpmchnojeloohaaGreatDoor
open Go.Ab Go.RowKit Go.Dw Go.Shelf
end Go.Proofs.YtpmchnojeloohaaGreatDoor

namespace Go.Proofs.YtpmchnojeloohaaGreatDoor
open Go.Ab Go.RowKit Go.Dw Go.Shelf
end Go.Proofs.YtpmchnojeloohaaGreatDoor

namespace Go.Proofs.YtpmchnojeloohaaGreatDoor
open Go.Ab Go.RowKit Go.Dw Go.Shelf
end Go.Proofs.YtpmchnojeloohaaGreatDoor

namespace Go.Proofs.YtpmchnojeloohaaGreatDoor
open Go.Ab Go.RowKit Go.Dw Go.Shelf
end Go.Proofs.YtpmchnojeloohaaGreatDoor

namespace Go.Proofs.YtpmchnojeloohaaGreatDoor
open Go.Ab Go.RowKit Go.Dw Go.Shelf
theorem gp_takeB {l : List Pt} {k v : Nat} (h : v < k) : gp (l.take k) v = gp l v := by simp [gp, List.getD_eq_getElem?_getD, List.getElem?_take, h]
theorem LCut.take {b : Bl} {l : List Pt} {g : Nat → Int} {k k' : Nat} (hk : k ≤ k') (h : LCut b (l.take k') g) : LCut b (l.take k) g := by
 refine ⟨fun v hv => ?_, fun v hv => ?_⟩
 ·
  rw [List.length_take] at hv
  have := h.1 v (by rw [List.length_take]; omega)
  rw [gp_takeB (show v < k' by omega)] at this
  rw [gp_takeB (show v < k by omega)]
  refine ⟨this.1, this.2.1, fun hp => ?_⟩
  have := this.2.2 hp
  rw [gp_takeB (show v - b.per.toNat < k' by omega)] at this
  rw [gp_takeB (show v - b.per.toNat < k by omega)]
  exact this
 ·
  rw [List.length_take] at hv
  have := h.2 v (by rw [List.length_take]; omega)
  rw [gp_takeB (show v < k' by omega)] at this
  rw [gp_takeB (show v < k by omega)]
  exact this
def Narrower (l m : List Pt) : Prop := m.length = l.length ∧ ∀ v, v < l.length → (gp l v).1 ≤ (gp m v).1 ∧ (gp m v).2 ≤ (gp l v).2
theorem Narrower.cut {b : Bl} {l m : List Pt} {g : Nat → Int} (hn : Narrower l m) (h : LCut b l g) : LCut b m g :=
 ⟨h.1.anti hn.1 (fun v hv => (hn.2 v hv).1) fun v hv => (hn.2 v hv).2, fun v hv => by
  have := h.2 v (by rw [← hn.1]; exact hv)
  have := (hn.2 v (by rw [← hn.1]; exact hv)).1
  omega⟩
theorem Narrower.take {l m : List Pt} (hn : Narrower l m) (k : Nat) : Narrower (l.take k) (m.take k) := by
 refine ⟨by rw [List.length_take, List.length_take, hn.1], fun v hv => ?_⟩
 rw [List.length_take] at hv
 rw [gp_takeB oM, gp_takeB oM]
 exact hn.2 v oM
theorem Narrower.fit {b : Bl} {l m : List Pt} (hb : 1 ≤ b.per) (hn : Narrower l m) {k : Nat} (h : FitP b l k) : FitP b m k := by
 obtain ⟨o, ho⟩ := h
 exact lout_of hb ((hn.take k).cut ho.2.1)
theorem wall_gChk {c : Cut} {q : List Pt} (hc : cutE c = 0) (hs : sChk q = 0) : gChk (q.map (wallP c)) = 0 := by
 obtain ⟨h1, h2⟩ := sChk_ok.1 hs
 refine gChk_ok.2 ⟨by simpa using h1, fun k hk => ?_⟩
 rw [List.length_map] at hk
 rw [gp_map hk]
 exact wallP_gE hc (h2 k hk)
end Go.Proofs.YtpmchnojeloohaaGreatDoor

namespace Go.Proofs.YtpmchnojeloohaaGreatDoor
open Go.Ab Go.RowKit Go.Dw Go.Shelf
theorem pts_ext {a b : List Pt} (hl : a.length = b.length) (h : ∀ k, k < a.length → gp a k = gp b k) : a = b := by
 refine List.ext_getElem hl fun k h1 h2 => ?_
 have := h k h1
 rw [gp, gp, List.getD_eq_getElem?_getD, List.getD_eq_getElem?_getD, List.getElem?_eq_getElem h1, List.getElem?_eq_getElem h2] at this
 exact this
theorem gp_dropN {l : List Pt} {t v : Nat} : gp (l.drop t) v = gp l (t + v) := by simp [gp]
theorem gp_takeN {l : List Pt} {k v : Nat} (h : v < k) : gp (l.take k) v = gp l v := by simp [gp, List.getElem?_take, h]
theorem LCut.drop {b : Bl} {l : List Pt} {g : Nat → Int} (t : Nat) (h : LCut b l g) : LCut b (l.drop t) fun v => g (t + v) := by
 refine ⟨fun v hv => ?_, fun v hv => ?_⟩
 ·
  rw [List.length_drop] at hv
  obtain ⟨h1, h2, h3⟩ := h.1 (t + v) oM
  rw [gp_dropN]
  refine ⟨h1, fun h0 => ?_, fun h0 => ?_⟩
  ·
   have := h2 oM
   rw [show t + v - 1 = t + (v - 1) by omega] at this
   exact this
  ·
   have := h3 oM
   rw [show t + v - b.per.toNat = t + (v - b.per.toNat) by omega] at this
   rw [gp_dropN]
   exact this
 ·
  rw [List.length_drop] at hv
  rw [gp_dropN]
  exact h.2 (t + v) oM
theorem lout_take {b : Bl} {l : List Pt} {o : List Int} (hb : 1 ≤ b.per) (h : LOut b l o) (k : Nat) : ∃ o', LOut b (l.take k) o' ∧ ∀ v, v < (l.take k).length → gi o v ≤ gi o' v := by
 have h1 : LCut b (l.take k) (gi o) := by
  rcases Nat.le_total k l.length with h2 | h2
  ·
   exact LCut.take (k' := l.length) h2 (by rw [List.take_length]; exact h.2.1)
  ·
   rw [List.take_of_length_le h2]; exact h.2.1
 obtain ⟨o', ho⟩ := lout_of hb h1
 exact ⟨o', ho, fun v hv => ho.2.2 _ h1.1 v hv⟩
theorem lout_drop {b : Bl} {l : List Pt} {o : List Int} (hb : 1 ≤ b.per) (h : LOut b l o) (t : Nat) : ∃ o', LOut b (l.drop t) o' ∧ ∀ v, v < (l.drop t).length → gi o (t + v) ≤ gi o' v := by
 have h1 := h.2.1.drop t
 obtain ⟨o', ho⟩ := lout_of hb h1
 exact ⟨o', ho, fun v hv => ho.2.2 _ h1.1 v hv⟩
theorem sChk_all {l : List Pt} (h : sChk l = 0) : l.length ≤ 4096 ∧ ∀ x ∈ l, sE x = true := by
 unfold sChk at h
 split at h
 ·
  omega
 ·
  split at h
  ·
   rename_i h2
   exact ⟨by omega, fun x hx => List.all_eq_true.1 h2 x hx⟩
  ·
   omega
theorem sChk_of {l : List Pt} (h1 : l.length ≤ 4096) (h2 : ∀ x ∈ l, sE x = true) : sChk l = 0 := by
 rw [sChk, if_neg oM, if_pos (List.all_eq_true.2 h2)]
theorem first_eq {l : List Tk} {p : List Pr} {t : Int} {n : Nat} (h : SOkT l p t n) : rndL l (p.take n) = (rndL l p).take (enN p n).toNat := by
 obtain ⟨h1, h2, h3⟩ := first_rnd h
 have h4 := h.t1
 have h5 := h.ok.nn (i := n) h.n1
 refine pts_ext (by rw [h1, List.length_take, rndL_len]; omega) fun k hk => ?_
 rw [h1] at hk
 rw [h3 k oM, gp_takeN hk]
theorem second_eq {l : List Tk} {p : List Pr} {t : Int} {n : Nat} (h : SOkT l p t n) : rndL l (secL p n t) = (rndL l p).drop t.toNat := by
 obtain ⟨h1, h3⟩ := second_rnd h
 have h0 := h.t0
 have h4 := h.t1
 have h5 := rndL_len (l := l) (p := p)
 refine pts_ext (by rw [List.length_drop]; omega) fun k hk => ?_
 rw [h3 k oM, gp_dropN]
theorem sChk_take {l : List Pt} (h : sChk l = 0) (k : Nat) : sChk (l.take k) = 0 := by
 obtain ⟨h1, h2⟩ := sChk_all h
 exact sChk_of (by rw [List.length_take]; omega) fun x hx => h2 x (List.mem_of_mem_take hx)
theorem sChk_drop {l : List Pt} (h : sChk l = 0) (k : Nat) : sChk (l.drop k) = 0 := by
 obtain ⟨h1, h2⟩ := sChk_all h
 exact sChk_of (by rw [List.length_drop]; omega) fun x hx => h2 x (List.mem_of_mem_drop hx)
end Go.Proofs.YtpmchnojeloohaaGreatDoor

namespace Go.Proofs.YtpmchnojeloohaaGreatDoor
open Go.Ab Go.RowKit Go.Dw Go.Shelf
def w3K : List (FuncId × List V × V) := [(11, [evCut, evR2 [(0, 0), (100, 100), (0, 0)]], .tup [evQ2 evPt, .i 0]), (56, [evCut, evQ2 evPt, .i 1000], .tup [.i 31831, .i 0]), (57, [.agg [evR1 [64], evR1 [128], .i 256], evR1 [100, 0, 0, -3]], .tup [evQ1 [100, 75, 37, 15], .i 0]), (10, [evTks, evPrt], .tup [evQ2 [(5, -5), (2, 0)], .i 0])]
theorem w3_ok : OrcOk2 Tryz.prog w3K := orc2_cons ev_Cut rfl rfl (orc2_cons ev_L rfl rfl (orc2_cons ev_Ap rfl rfl (orc2_cons ev_Ren rfl rfl orc2_nil)))
set_option maxRecDepth 100000 in
theorem works03_ac : AC Tryz.prog 24 [] (.b true) [] := AM.ac (cAMO (O := orc2 w3K) hTT hMX [] [] (fun _ => orc2_ok w3_ok) kR kR) (by decide)
end Go.Proofs.YtpmchnojeloohaaGreatDoor

namespace Go.Proofs.YtpmchnojeloohaaGreatDoor
open Go.Ab Go.RowKit Go.Dw Go.Shelf
def b5 : Bl := ⟨2, 1000, 100, 10, 1, 100⟩
def l5 : List Pt := [(-20, 20), (-20, 20), (-20, 20), (-20, 50), (-20, 20)]
theorem b5_ok : SOk b5 l5 := ⟨by decide, by decide⟩
theorem lt5 {v : Nat} (h : v < 5) : v = 0 ∨ v = 1 ∨ v = 2 ∨ v = 3 ∨ v = 4 := by omega
theorem o5 : LOut b5 l5 [980, 979, 930, 899, 880] := by
 refine ⟨rfl, ⟨fun v hv => ?_, fun v hv => ?_⟩, fun g hg v hv => ?_⟩
 ·
  rcases lt5 hv with rfl | rfl | rfl | rfl | rfl <;> decide
 ·
  rcases lt5 hv with rfl | rfl | rfl | rfl | rfl <;> decide
 ·
  have g0 := hg 0 (by decide)
  have g1 := hg 1 (by decide)
  have g2 := hg 2 (by decide)
  have g3 := hg 3 (by decide)
  have g4 := hg 4 (by decide)
  simp [gp, l5, b5] at g0 g1 g2 g3 g4
  rcases lt5 hv with rfl | rfl | rfl | rfl | rfl <;> simp [gi] <;> omega
theorem Outer5_ac : AC Tryz.prog 9 [b5.v, V.pts l5] (.tup [V.ints [980, 979, 930, 899, 880], .i 0]) [] := Outer_ok b5 l5 b5_ok o5
def w5T : List V := [b5.v, evR2 l5]
theorem w5_out : AC Tryz.prog 9 w5T (.tup [V.ints [980, 979, 930, 899, 880], .i 0]) [] := Outer5_ac.conv ⟨RImp.refl _, RImp.rows rfl fun i hi => by
 have hi : i < 5 := hi
 rcases lt5 hi with rfl | rfl | rfl | rfl | rfl <;> rfl, trivial⟩
def w5K : List (FuncId × List V × V) := [(9, w5T, .tup [V.ints [980, 979, 930, 899, 880], .i 0]), (23, [evFmt [1000, 400, 10, 0, 0, 0, 0], .agg [.i 95, .i 20, .i 0]], .tup [.i 200, .i 0]), (24, [], .b true)]
theorem w5_ok : OrcOk2 Tryz.prog w5K := orc2_cons w5_out rfl rfl (orc2_cons ev_Wid5 rfl rfl (orc2_cons works03_ac rfl rfl orc2_nil))
set_option maxRecDepth 100000 in
theorem works05_ac : AC Tryz.prog 6 [] (.b true) [] := AM.ac (cAMO (O := orc2 w5K) hTT hMX [] [] (fun _ => orc2_ok w5_ok) kR kR) (by decide)
end Go.Proofs.YtpmchnojeloohaaGreatDoor
