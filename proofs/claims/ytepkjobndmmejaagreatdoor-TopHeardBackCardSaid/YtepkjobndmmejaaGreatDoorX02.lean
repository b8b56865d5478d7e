/-
  Several texts in one: A contract that reads a slice, for a row of the caller's that is not written any more. No condition. .. Contracts that read a slice, called with a row of the caller's that stays: results of numbers and of new rows of numbers. No condition.
-/
import Derived.LoopNIn
import Derived.Test.YtepkjobndmmejaaGreatDoorX01
import Derived.Test.YtepkjobndmmejaaGreatDoorMD
import Derived.Test.YtepkjobndmmejaaGreatDoorMB
namespace Go.Ab
open Go.RowKit Go.Dw
theorem Real.weak {W W' : Nat → Prop} {w : World} {L : Nat → Prop} {ρ ρ' : Nat → Option Value} {id : Nat} {o : Ob} (h : Real W w L ρ id o) (hW : ∀ b, W b → W' b) (hρ : ∀ j y, ρ j = some y → ρ' j = some y) : Real W' w L ρ' id o := by
 have e : Ext w L ρ w L ρ' := ⟨fun _ hb => ⟨hb, rfl⟩, hρ⟩
 cases o with
 | box t cs =>
  obtain ⟨b, xs, h1, h2, h3, h4, h5⟩ := h
  exact ⟨b, xs, hρ _ _ h1, hW _ h2, h3, h4, h5.ext e⟩
 | row t sz n row =>
  obtain ⟨v, xs, h1, h2, h3, h4, h5⟩ := h
  exact ⟨v, xs, hρ _ _ h1, h2, h3, h4.ext e, fun k hk => ⟨hW _ (h5 k hk).1, (h5 k hk).2⟩⟩
 | mp str f =>
  obtain ⟨b, es, cl, h1, h2, h3, h4, h5⟩ := h
  exact ⟨b, es, cl, hρ _ _ h1, hW _ h2, h3, h4, h5.imp fun _ _ _ _ h => h.ext e⟩
theorem AC.row {P : Program} {f : FuncId} {args args' : List V} {v : V} {obs : List Ob} (h : AC P f args' v obs) (e : TypeId) {sz n n' : Nat} {row row' : Nat → List V} (ha : V.fzL 500 (.sl sz n row) args = args') (hi : V.idfL args' = true) (ho : obs.length ≤ 90) (hn : n' = n) (hr : ∀ i, i < n' → row' i = row i) (hi2 : ∀ i, V.idfL (row i) = true) :
  AM P f args [.row e sz n' row'] v [none] obs := by
 subst hn
 refine ⟨h.1, fun W LB L w ρ vs hwl hWL hG hρ hvs => ?_⟩
 have hσ : insF [.row e sz n' row'] 500 = some (.row e sz n' row') := rfl
 have hre : Real W w L ρ 500 (.row e sz n' row) := (hG.ob 500 _ hσ).eq ⟨rfl, rfl, rfl, hr⟩
 obtain ⟨v0, hv0, hlt, hs⟩ := hre.slice fun i _ => hi2 i
 have ex : Ext w L ρ w (fun b => L b ∨ blk v0 = some b) ρ := ⟨fun b hb => ⟨.inl hb, rfl⟩, fun _ _ h => h⟩
 have hrv : RV w (fun b => L b ∨ blk v0 = some b) ρ0 args' vs.toList := by
  refine RV.free (ρ := ρ) ?_ hi
  rw [← ha]
  refine ⟨by rw [V.fzL_len]; exact hvs.1, fun i u x hu hx => ?_⟩
  rw [V.fzL_get] at hu
  cases hc : args[i]? with
  | none => rw [hc] at hu; cases hu
  | some a =>
   rw [hc] at hu
   simp only [Option.map_some, Option.some.injEq] at hu
   subst hu
   refine R_fz (fun y hy => ?_) _ _ ((hvs.2 i a x hc hx).ext ex)
   rw [hv0] at hy; injection hy with hy; subst hy; exact hs
 refine (h.2 (fun b => L b ∨ blk v0 = some b) w vs (fun b hb => ?_) (hG.glE ex) hrv).mono ?_
 ·
  rcases hb with hb | hb
  ·
   exact (hG.ll b hb).1
  ·
   exact (hlt b hb).1
 rintro ee w' ⟨x, rfl, hbel, L', ρ', hG', hL', hv, hnn⟩
 obtain ⟨ρ2, hρ2⟩ : ∃ ρ2 : Nat → Option Value, ∀ id, ρ2 id = if id < obs.length then ρ' id else ρ id := ⟨_, fun _ => rfl⟩
 have hon : ∀ j y, ρ' j = some y → ρ2 j = some y := fun j y hy => by
  rw [hρ2]
  by_cases hj : j < obs.length
  ·
   rw [if_pos hj]; exact hy
  ·
   rw [hnn j oM] at hy; cases hy
 have ex2 : Ext w' L' ρ' w' L' ρ2 := ⟨fun _ hb => ⟨hb, rfl⟩, hon⟩
 refine ⟨x, rfl, Tch.of_below hbel fun k _ hk => (hG.new k hk).1, L', ρ2, ⟨fun b hb => ?_, fun b hb => hG.new b (Nat.le_trans hbel.size hb), fun id o hio => ?_, fun i j y z k hij hi hj hy hz => ?_, hG.glL fun b hb => ⟨hL' b (.inl hb), hbel.block b (hG.ll b hb).1⟩⟩, ⟨fun b hb => ⟨hL' b (.inl hb), hbel.block b (hG.ll b hb).1⟩, fun id y hy => ?_⟩, hv.ext ex2, fun j hj hj5 => ?_⟩
 ·
  have := hG'.ll b hb
  refine ⟨this.1, ?_⟩
  rcases this.2 with (h1 | h1) | h1
  ·
   exact (hG.ll b h1).2
  ·
   exact hwl b (hlt b h1).2.1
  ·
   exact (hG.new b h1).2
 ·
  have hob : obsF obs id = some o := by
   unfold outF at hio
   split at hio
   ·
    cases hq : ([none] : List (Option Ob))[id - 500]? with
    | none => rw [hq] at hio; cases hio
    | some q =>
     rw [hq] at hio
     have : q = none := by
      have := List.mem_of_getElem? hq
      simpa using this
     rw [this] at hio; cases hio
   ·
    exact hio
  exact (hG'.ob id o hob).weak (fun b hb => (hG.new b hb).1) hon
 ·
  have key : ∀ i, outF [none] obs i ≠ none → obsF obs i ≠ none ∧ i < obs.length := fun i hi => by
   unfold outF at hi
   split at hi
   ·
    exfalso
    apply hi
    cases hq : ([none] : List (Option Ob))[i - 500]? with
    | none => rfl
    | some q =>
     have : q = none := by
      have := List.mem_of_getElem? hq
      simpa using this
     rw [this]; rfl
   ·
    refine ⟨hi, ?_⟩
    cases hq : obs[i]? with
    | none => exact absurd hq hi
    | some q => exact (List.getElem?_eq_some_iff.1 hq).1
  rw [hρ2, if_pos (key i hi).2] at hy
  rw [hρ2, if_pos (key j hj).2] at hz
  exact hG'.sep i j y z k hij (key i hi).1 (key j hj).1 hy hz
 ·
  rw [hρ2]
  by_cases hid : id < obs.length
  ·
   rw [hρ id (.inl oM)] at hy; cases hy
  ·
   rw [if_neg hid]; exact hy
 ·
  rw [hρ2, if_neg oM]
  exact hρ j hj5
end Go.Ab

namespace Go.Ab
open Go.RowKit Go.Dw
end Go.Ab

namespace Go.Ab
open Go.RowKit Go.Dw
theorem Real.ptr {W : Nat → Prop} {w : World} {L : Nat → Prop} {ρ : Nat → Option Value} {id t : Nat} {cs : List V} (h : Real W w L ρ id (.box t cs)) (hi : V.idfL cs = true) :
  ∃ v, ρ id = some v ∧ (∀ k, blk v = some k → k < w.heap.size ∧ W k ∧ ¬ L k) ∧ R w (fun b => L b ∨ blk v = some b) ρ (.ptr cs) v := by
 obtain ⟨v', hv', hlt⟩ := h.lt
 obtain ⟨b, xs, h1, h2, h3, h4, h5⟩ := h
 rw [h1] at hv'; injection hv' with hv'; subst hv'
 refine ⟨_, h1, hlt, ?_⟩
 refine .ptr _ _ _ _ (fun j => xs.toList.getD j undef) (.inr rfl) (fun j u hu => ?_) fun j u hu => ?_
 ·
  obtain ⟨y, hy, hr, hone⟩ := h5.get hu
  have hg : xs.toList.getD j undef = y := by simp [List.getD_eq_getElem?_getD, hy]
  rw [hg]
  refine ⟨?_, hone⟩
  rw [Nat.zero_add]
  rw [cell_of_row w b j xs t (0, 0) h4]
  simpa using hy
 ·
  obtain ⟨y, hy, hr, hone⟩ := h5.get hu
  have hg : xs.toList.getD j undef = y := by simp [List.getD_eq_getElem?_getD, hy]
  rw [hg]
  exact (hr.free (V.idfL_get hi hu) ρ0).ext ⟨fun b hb => ⟨.inl hb, rfl⟩, fun _ _ h => h⟩
def V.flatT : V → Bool
 | .tup cs => V.flatL cs
 | v => v.flat
theorem R.flatT {w w' : World} {L L' : Nat → Prop} {ρ ρ' : Nat → Option Value} {u : V} {x : Value} (h : R w L ρ u x) (hf : u.flatT = true) : R w' L' ρ' u x := by
 cases u with
 | tup cs =>
  obtain ⟨xs, rfl, hx⟩ := h.tup_inv
  exact .tup' ⟨hx.1, fun i v y hv hy => (hx.2 i v y hv hy).flat (V.flatL_get hf hv)⟩
 | _ => exact h.flat hf
theorem AC.box {P : Program} {f : FuncId} {args args' : List V} {v : V} (h : AC P f args' v []) (t : TypeId) {cs : List V} (ha : V.fzL 500 (.ptr cs) args = args') (hi : V.idfL args' = true) (hi2 : V.idfL cs = true) (hv : v.flatT = true) :
  AM P f args [.box t cs] v [some (.box t cs)] [] := by
 refine ⟨h.1, fun W LB L w ρ vs hwl hWL hG hρ hvs => ?_⟩
 have hσ : insF [.box t cs] 500 = some (.box t cs) := rfl
 obtain ⟨v0, hv0, hlt, hs⟩ := (hG.ob 500 _ hσ).ptr hi2
 have ex : Ext w L ρ w (fun b => L b ∨ blk v0 = some b) ρ := ⟨fun b hb => ⟨.inl hb, rfl⟩, fun _ _ h => h⟩
 have hrv : RV w (fun b => L b ∨ blk v0 = some b) ρ0 args' vs.toList := by
  refine RV.free (ρ := ρ) ?_ hi
  rw [← ha]
  refine ⟨by rw [V.fzL_len]; exact hvs.1, fun i u x hu hx => ?_⟩
  rw [V.fzL_get] at hu
  cases hc : args[i]? with
  | none => rw [hc] at hu; cases hu
  | some a =>
   rw [hc] at hu
   simp only [Option.map_some, Option.some.injEq] at hu
   subst hu
   refine R_fz (fun y hy => ?_) _ _ ((hvs.2 i a x hc hx).ext ex)
   rw [hv0] at hy; injection hy with hy; subst hy; exact hs
 refine (h.2 (fun b => L b ∨ blk v0 = some b) w vs (fun b hb => ?_) (hG.glE ex) hrv).mono ?_
 ·
  rcases hb with hb | hb
  ·
   exact (hG.ll b hb).1
  ·
   exact (hlt b hb).1
 rintro ee w' ⟨x, rfl, hbel, L', ρ', hG', hL', hx, hnn⟩
 obtain ⟨hG2, ex2⟩ := hG.quiet hbel (L' := L) (fun _ h => h) (fun _ h => .inl h)
 have e : outF [some (.box t cs)] [] = insF [.box t cs] := by
  funext id
  unfold outF insF
  by_cases h5 : 500 ≤ id
  ·
   rw [if_pos h5, if_pos h5]
   cases hk : id - 500 with
   | zero => rfl
   | succ n => simp
  ·
   rw [if_neg h5, if_neg h5]; simp
 refine ⟨x, rfl, Tch.of_below hbel fun k _ hk => (hG.new k hk).1, L, ρ, ?_, ex2, hx.flatT hv, fun j _ hj => hρ j hj⟩
 rw [e]; exact hG2
end Go.Ab

namespace Go.Proofs.YtepkjobndmmejaaGreatDoor
open Go.Ab Go.RowKit Go.Dw Go.Shelf
structure Cv where
 feed : List Int
 back : List Int
 share : Int
def dot (w h : List Int) : Nat → Int
 | 0 => 0
 | k + 1 => dot w h k + gi w k * gi h k
def corr (c : Cv) (hx hy : List Int) : Int := (dot c.feed hx c.feed.length + dot c.back hy c.back.length) / c.share
def stepH (c : Cv) (u : Bool) (p : List Int × List Int) (g : Int) : List Int × List Int :=
 if u then ((g - corr c p.1 p.2) :: p.1, g :: p.2) else (g :: p.1, (g + corr c p.1 p.2) :: p.2)
def hist (c : Cv) (u : Bool) (l : List Int) : Nat → List Int × List Int
 | 0 => ([], [])
 | k + 1 => stepH c u (hist c u l k) (gi l k)
def outK (c : Cv) (u : Bool) (l : List Int) (k : Nat) : Int :=
 if u then gi l k - corr c (hist c u l k).1 (hist c u l k).2 else gi l k + corr c (hist c u l k).1 (hist c u l k).2
def resL (c : Cv) (u : Bool) (l : List Int) : List Int := (List.range l.length).map (outK c u l)
def bey (n m : Int) : Bool := decide (n < -m) || decide (m < n)
theorem bey_no {n m : Int} : bey n m = false ↔ -m ≤ n ∧ n ≤ m := by
 simp [bey]
theorem resL_len (c : Cv) (u : Bool) (l : List Int) : (resL c u l).length = l.length := by simp [resL]
theorem resL_gi {c : Cv} {u : Bool} {l : List Int} {k : Nat} (h : k < l.length) : gi (resL c u l) k = outK c u l k := by simp [resL, gi, h]
theorem gi_consS (x : Int) (l : List Int) (k : Nat) : gi (x :: l) (k + 1) = gi l k := rfl
theorem gi_out {l : List Int} {k : Nat} (h : l.length ≤ k) : gi l k = 0 := by simp [gi, List.getElem?_eq_none h]
theorem hist_x (c : Cv) (u : Bool) (l : List Int) (k : Nat) : (hist c u l (k + 1)).1 = (if u then outK c u l k else gi l k) :: (hist c u l k).1 := by
 rw [hist, stepH, outK]; cases u <;> rfl
theorem hist_y (c : Cv) (u : Bool) (l : List Int) (k : Nat) : (hist c u l (k + 1)).2 = (if u then gi l k else outK c u l k) :: (hist c u l k).2 := by
 rw [hist, stepH, outK]; cases u <;> rfl
theorem hist_len (c : Cv) (u : Bool) (l : List Int) (k : Nat) : (hist c u l k).1.length = k ∧ (hist c u l k).2.length = k := by
 induction k with
 | zero => exact ⟨rfl, rfl⟩
 | succ k ih => rw [hist_x, hist_y]; simp [ih.1, ih.2]
theorem hist_at (c : Cv) (u : Bool) (l : List Int) : ∀ (k i : Nat), i < k → gi (hist c u l k).1 i = (if u then outK c u l (k - 1 - i) else gi l (k - 1 - i)) ∧ gi (hist c u l k).2 i = (if u then gi l (k - 1 - i) else outK c u l (k - 1 - i))
 | 0, i, h => by omega
 | k + 1, 0, _ => by rw [hist_x, hist_y]; exact ⟨rfl, rfl⟩
 | k + 1, i + 1, h => by
  rw [hist_x, hist_y, gi_consS, gi_consS, show k + 1 - 1 - (i + 1) = k - 1 - i by omega]
  exact hist_at c u l k i oM
def AllLe (m : Int) (l : List Int) : Prop := ∀ x ∈ l, -m ≤ x ∧ x ≤ m
theorem AllLe.gi {m : Int} {l : List Int} (h : AllLe m l) (hm : 0 ≤ m) (k : Nat) : -m ≤ gi l k ∧ gi l k ≤ m := by
 by_cases hk : k < l.length
 ·
  rw [gi_eq hk]; exact h _ (List.getElem_mem _)
 ·
  rw [gi_out oM]; omega
theorem AllLe.of_gi {m : Int} {l : List Int} (h : ∀ k, k < l.length → -m ≤ Go.Dw.gi l k ∧ Go.Dw.gi l k ≤ m) : AllLe m l := by
 intro x hx
 obtain ⟨k, hk, rfl⟩ := List.getElem_of_mem hx
 rw [← gi_eq hk]; exact h k hk
theorem mul_bd {a b m n : Int} (ha : -m ≤ a ∧ a ≤ m) (hb : -n ≤ b ∧ b ≤ n) : -(m * n) ≤ a * b ∧ a * b ≤ m * n := by
 have h1 : 0 ≤ (m - a) * (n + b) := Int.mul_nonneg oM oM
 have h2 : 0 ≤ (m + a) * (n - b) := Int.mul_nonneg oM oM
 have h3 : 0 ≤ (m - a) * (n - b) := Int.mul_nonneg oM oM
 have h4 : 0 ≤ (m + a) * (n + b) := Int.mul_nonneg oM oM
 simp only [Int.sub_mul, Int.add_mul, Int.mul_add, Int.mul_sub] at h1 h2 h3 h4
 omega
theorem dot_bd {w h : List Int} {m n : Int} (hm : 0 ≤ m) (hn : 0 ≤ n) (hw : AllLe m w) (hh : AllLe n h) : ∀ k : Nat, -(k * (m * n)) ≤ dot w h k ∧ dot w h k ≤ k * (m * n)
 | 0 => by simp [dot]
 | k + 1 => by
  have ih := dot_bd hm hn hw hh k
  have hb := mul_bd (hw.gi hm k) (hh.gi hn k)
  have e : ((k + 1 : Nat) : Int) * (m * n) = k * (m * n) + m * n := by rw [Int.natCast_succ, Int.add_mul, Int.one_mul]
  rw [dot, e]
  omega
def cvE (c : Cv) : Int :=
 if 8 < max c.feed.length c.back.length then 6 else
 if (c.feed.any fun n => bey n 4096) || (c.back.any fun n => bey n 4096) || decide (c.share < 1) || decide (4096 < c.share) then 2 else 0
def cvOk (c : Cv) : Prop := c.feed.length ≤ 8 ∧ c.back.length ≤ 8 ∧ AllLe 4096 c.feed ∧ AllLe 4096 c.back ∧ 1 ≤ c.share ∧ c.share ≤ 4096
theorem any_bey {l : List Int} {m : Int} : (l.any fun n => bey n m) = false ↔ AllLe m l := by
 rw [List.any_eq_false]
 refine ⟨fun h x hx => bey_no.1 (by simpa using h x hx), fun h x hx => by simpa using bey_no.2 (h x hx)⟩
theorem cvE_ok {c : Cv} : cvE c = 0 ↔ cvOk c := by
 unfold cvE cvOk
 rw [← any_bey, ← any_bey]
 by_cases h : 8 < max c.feed.length c.back.length
 ·
  rw [if_pos h]; constructor
  ·
   intro h; cases h
  ·
   intro ⟨h1, h2, _⟩; omega
 ·
  rw [if_neg h]
  cases h1 : (c.feed.any fun n => bey n 4096) <;> cases h2 : (c.back.any fun n => bey n 4096) <;> simp
  omega
theorem corr_bd {c : Cv} (hc : cvOk c) {hx hy : List Int} {m : Int} (hm : 0 ≤ m) (h1 : AllLe m hx) (h2 : AllLe m hy) :
  (-(32768 * m) ≤ dot c.feed hx c.feed.length ∧ dot c.feed hx c.feed.length ≤ 32768 * m) ∧ (-(32768 * m) ≤ dot c.back hy c.back.length ∧ dot c.back hy c.back.length ≤ 32768 * m) ∧ -(65536 * m) ≤ corr c hx hy ∧ corr c hx hy ≤ 65536 * m := by
 obtain ⟨l1, l2, a1, a2, s1, s2⟩ := hc
 have d1 := dot_bd (by decide) hm a1 h1 c.feed.length
 have d2 := dot_bd (by decide) hm a2 h2 c.back.length
 have e1 : (c.feed.length : Int) * (4096 * m) ≤ 8 * (4096 * m) := Int.mul_le_mul_of_nonneg_right oM oM
 have e2 : (c.back.length : Int) * (4096 * m) ≤ 8 * (4096 * m) := Int.mul_le_mul_of_nonneg_right oM oM
 refine ⟨by omega, by omega, ?_⟩
 unfold corr
 constructor
 ·
  refine Int.le_ediv_of_mul_le oM ?_
  have : -(65536 * m) * c.share ≤ -(65536 * m) * 1 := Int.mul_le_mul_of_nonpos_left oM oM
  omega
 ·
  have h3 : (dot c.feed hx c.feed.length + dot c.back hy c.back.length) / c.share ≤ 65536 * m := by
   refine Int.ediv_le_of_le_mul oM ?_
   have : 65536 * m * 1 ≤ 65536 * m * c.share := Int.mul_le_mul_of_nonneg_left oM oM
   omega
  exact h3
def fine (c : Cv) (u : Bool) (l : List Int) (m : Int) (k : Nat) : Prop := ∀ j, j < k → bey (outK c u l j) m = false
theorem hist_bd {c : Cv} {u : Bool} {l : List Int} {m : Int} (hm : 0 ≤ m) (hl : AllLe m l) {k : Nat} (hf : fine c u l m k) : AllLe m (hist c u l k).1 ∧ AllLe m (hist c u l k).2 := by
 constructor
 ·
  refine .of_gi fun i hi => ?_
  rw [(hist_len c u l k).1] at hi
  rw [(hist_at c u l k i hi).1]
  split
  ·
   exact bey_no.1 (hf _ oM)
  ·
   exact hl.gi hm _
 ·
  refine .of_gi fun i hi => ?_
  rw [(hist_len c u l k).2] at hi
  rw [(hist_at c u l k i hi).2]
  split
  ·
   exact hl.gi hm _
  ·
   exact bey_no.1 (hf _ oM)
def runI (c : Cv) (u : Bool) (m : Int) (l : List Int) : Option (List Int) := if (resL c u l).any fun n => bey n m then none else some (resL c u l)
theorem any_resL {c : Cv} {u : Bool} {l : List Int} {m : Int} : ((resL c u l).any fun n => bey n m) = false ↔ fine c u l m l.length := by
 rw [List.any_eq_false]
 constructor
 ·
  intro h j hj
  have := h (outK c u l j) (by simp only [resL, List.mem_map, List.mem_range]; exact ⟨j, hj, rfl⟩)
  simpa using this
 ·
  intro h x hx
  simp only [resL, List.mem_map, List.mem_range] at hx
  obtain ⟨j, hj, rfl⟩ := hx
  simpa using h j hj
theorem runI_some {c : Cv} {u : Bool} {m : Int} {l : List Int} (h : fine c u l m l.length) : runI c u m l = some (resL c u l) := by
 rw [runI, any_resL.2 h]; rfl
theorem runI_none {c : Cv} {u : Bool} {m : Int} {l : List Int} {j : Nat} (hj : j < l.length) (h : bey (outK c u l j) m = true) : runI c u m l = none := by
 rw [runI, if_pos]
 rw [List.any_eq_true]
 exact ⟨_, by simp only [resL, List.mem_map, List.mem_range]; exact ⟨j, hj, rfl⟩, h⟩
end Go.Proofs.YtepkjobndmmejaaGreatDoor

namespace Go.Proofs.YtepkjobndmmejaaGreatDoor
open Go.Ab Go.RowKit Go.Dw Go.Shelf
def chainI (cs : List Cv) (u : Bool) (m : Int) (x : List Int) : Option (List Int) := (if u then cs.reverse else cs).foldl (fun o c => o.bind (runI c u m)) (some x)
theorem fold_none (u : Bool) (m : Int) : ∀ cs : List Cv, cs.foldl (fun o c => o.bind (runI c u m)) none = none
 | [] => rfl
 | _ :: cs => fold_none u m cs
def foldI (u : Bool) (m : Int) (cs : List Cv) (o : Option (List Int)) : Option (List Int) := cs.foldl (fun o c => o.bind (runI c u m)) o
theorem foldI_append (u : Bool) (m : Int) (a b : List Cv) (o : Option (List Int)) : foldI u m (a ++ b) o = foldI u m b (foldI u m a o) := by simp [foldI]
theorem foldI_none (u : Bool) (m : Int) (cs : List Cv) : foldI u m cs none = none := fold_none u m cs
def amt (l : List Int) : Nat → Int
 | 0 => 0
 | k + 1 => amt l k + max (gi l k) (-gi l k)
theorem amt_nonneg (l : List Int) : ∀ k, 0 ≤ amt l k
 | 0 => by simp [amt]
 | k + 1 => by have := amt_nonneg l k; rw [amt]; omega
theorem dot_amt {w h : List Int} {n : Int} (hn : 0 ≤ n) (hh : AllLe n h) : ∀ k, -(amt w k * n) ≤ dot w h k ∧ dot w h k ≤ amt w k * n
 | 0 => by simp [dot, amt]
 | k + 1 => by
  have ih := dot_amt (w := w) hn hh k
  have hb := mul_bd (a := gi w k) (m := max (gi w k) (-gi w k)) oM (hh.gi hn k)
  rw [dot, amt, Int.add_mul]
  omega
def boundN (c : Cv) (a : Int) : Int := a * (c.share + amt c.feed c.feed.length) + c.share - 1
def boundI (c : Cv) (a : Int) : Int := boundN c a / (c.share - amt c.back c.back.length)
theorem ediv_both {n d : Int} (hd : 0 < d) : d * (n / d) ≤ n ∧ n ≤ d * (n / d) + d - 1 := by
 have h1 := Int.mul_ediv_add_emod n d
 have h2 := Int.emod_nonneg n (Int.ne_of_gt hd)
 have h3 := Int.emod_lt_of_pos n hd
 omega
theorem bounded {c : Cv} (hs : 1 ≤ c.share) (ht : amt c.back c.back.length < c.share) {l : List Int} {a : Int} (ha : 0 ≤ a) (hl : AllLe a l) (k : Nat) : -boundI c a ≤ outK c false l k ∧ outK c false l k ≤ boundI c a := by
 induction k using Nat.strongRecOn with
 | _ k ih =>
  have hB0 : 0 ≤ boundI c a := by
   unfold boundI boundN
   refine Int.ediv_nonneg ?_ oM
   have := Int.mul_nonneg ha (show 0 ≤ c.share + amt c.feed c.feed.length by have := amt_nonneg c.feed c.feed.length; omega)
   omega
  have hh : AllLe a (hist c false l k).1 ∧ AllLe (boundI c a) (hist c false l k).2 := by
   constructor
   ·
    refine .of_gi fun i hi => ?_
    rw [(hist_len c false l k).1] at hi
    rw [(hist_at c false l k i hi).1]
    exact hl.gi ha _
   ·
    refine .of_gi fun i hi => ?_
    rw [(hist_len c false l k).2] at hi
    rw [(hist_at c false l k i hi).2]
    exact ih _ oM
  have d1 := dot_amt (w := c.feed) ha hh.1 c.feed.length
  have d2 := dot_amt (w := c.back) hB0 hh.2 c.back.length
  have hx := hl.gi ha k
  have hc : corr c (hist c false l k).1 (hist c false l k).2 = (dot c.feed (hist c false l k).1 c.feed.length + dot c.back (hist c false l k).2 c.back.length) / c.share := rfl
  have hy : outK c false l k = gi l k + corr c (hist c false l k).1 (hist c false l k).2 := rfl
  rw [hy, hc]
  generalize dot c.feed (hist c false l k).1 c.feed.length = s1 at *
  generalize dot c.back (hist c false l k).2 c.back.length = s2 at *
  generalize gi l k = x at *
  have hb : boundI c a = boundN c a / (c.share - amt c.back c.back.length) := rfl
  have e1 := ediv_both (n := boundN c a) (d := c.share - amt c.back c.back.length) oM
  rw [← hb] at e1
  have hK0 := amt_nonneg c.back c.back.length
  have hN : boundN c a = a * (c.share + amt c.feed c.feed.length) + c.share - 1 := rfl
  generalize boundI c a = B at *
  generalize boundN c a = NN at *
  generalize amt c.back c.back.length = K at *
  generalize amt c.feed c.feed.length = A at *
  generalize c.share = S at *
  have e2 := ediv_both (n := s1 + s2) (d := S) oM
  generalize (s1 + s2) / S = q at *
  rw [Int.mul_add] at hN
  rw [Int.sub_mul] at e1
  rw [Int.mul_comm A a] at d1
  have f1 : S * (x + q) ≤ a * S + S * q := by
   rw [Int.mul_add]
   have := Int.mul_le_mul_of_nonneg_left hx.2 (show 0 ≤ S by omega)
   rw [Int.mul_comm a S]; omega
  have f2 : -(a * S) + S * q ≤ S * (x + q) := by
   rw [Int.mul_add]
   have := Int.mul_le_mul_of_nonneg_left hx.1 (show 0 ≤ S by omega)
   rw [Int.mul_neg] at this
   rw [Int.mul_comm a S]; omega
  have f3 : S * (x + q) < S * (B + 1) := by rw [Int.mul_add S B 1, Int.mul_one]; omega
  have f4 : S * (-B - 1) < S * (x + q) := by rw [Int.mul_sub S (-B) 1, Int.mul_one, Int.mul_neg]; omega
  have g1 := Int.lt_of_mul_lt_mul_left f3 oM
  have g2 := Int.lt_of_mul_lt_mul_left f4 oM
  omega
end Go.Proofs.YtepkjobndmmejaaGreatDoor

namespace Go.Ab
open Go.RowKit Go.Dw
def AWR {P : Program} {N : Nat} (C : Cx P N) (c : Code) (Q : Exit → S → Prop) : Nat → S → Prop
 | 0, _ => False
 | m + 1, s => AW C c (XThen (AWR C c Q m) Q) s
section
variable {P : Program} {N : Nat} {C : Cx P N} {Q : Exit → S → Prop} {s : S} {c : Code}
theorem awr_succ {m : Nat} (h : ∀ K : S → Prop, (∀ s', AWR C c Q m s' → K s') → AW C c (XThen K Q) s) : AWR C c Q (m + 1) s := h _ fun _ h => h
theorem aw_rounds (m : Nat) (h : AWR C c Q m s) : AW C (.loop c) Q s := by
 intro a w g
 refine wpIn_loop_rounds m ?_
 have key : ∀ m s a w0 w, Tch C.W w0 w → AWR C c Q m s → Gm C s a w → Code.roundsIn C.F 0 P c (fun e a' w' => ∃ s', Q e s' ∧ Gm C s' a' w' ∧ Tch C.W w0 w') m a w := by
  intro m
  induction m with
  | zero => intro s a w0 w _ h; exact h.elim
  | succ m ih =>
   intro s a w0 w t0 h g
   refine wpIn_mono (h a w g) ?_
   rintro e a' w' ⟨s', q, g', t⟩
   cases e with
   | normal => exact ih s' a' w0 w' (t0.trans t) q g'
   | _ => exact ⟨s', q, g', t0.trans t⟩
 exact key m s a w w (Tch.refl _ _) h g
end
end Go.Ab

namespace Go.Ab
open Go.RowKit Go.Dw
section
variable {P : Program} {N : Nat} {C : Cx P N} {ops : Array Oper} {nx : Nat} {o : Oper} {os : List Oper} {tm : Nat → V} {σ : Nat → Option Ob} {ks : List (List Nat × List Nat)} {K : (Nat → V) → (Nat → Option Ob) → List (List Nat × List Nat) → Prop}
theorem aops_gfb {t : Nat} (hg : guardV (ops.toList.map (·.dst)) tm o = some (some false)) (ht : o.dst = some t) (hk : AOps C ops nx os (upd tm t (.gd false (.b false))) σ (ks ++ [([], [])]) K) : AOps C ops nx (o :: os) tm σ ks K := by
 have hw := guardV_spec hg
 have e : updO tm o.dst (.gd false (.b false)) = upd tm t (.gd false (.b false)) := by rw [ht]; rfl
 refine ⟨⟨false, .gd false (.b false), [], [], []⟩, ⟨hw, by simp, fun _ => ⟨fun _ _ _ => .gd _ _ _ _ (fun e => by cases e) fun _ => rfl, rfl, rfl⟩⟩, ?_⟩
 rw [e]; exact hk
end
end Go.Ab

namespace Go.Ab
open Go.RowKit Go.Dw
def V.flatPT (pn : List Nat) : V → Bool
 | .tup cs => V.flatPL pn cs
 | v => v.flatP pn
theorem R.flatPT {pn : List Nat} {w w' : World} {L L' : Nat → Prop} {ρ ρ' : Nat → Option Value} {u : V} {x : Value} (h : R w L ρ u x) (hf : u.flatPT pn = true) (hρ : ∀ id ∈ pn, ∀ v, ρ id = some v → ρ' id = some v) : R w' L' ρ' u x := by
 cases u with
 | tup cs =>
  obtain ⟨xs, rfl, hx⟩ := h.tup_inv
  exact .tup' ⟨hx.1, fun i v y hv hy => (hx.2 i v y hv hy).flatP (V.flatPL_get hf hv) hρ⟩
 | _ => exact h.flatP hf hρ
def Ob.isC : Ob → Prop
 | .row _ _ n r => ∀ i, i < n → ∀ u ∈ r i, u.isC = true
 | _ => False
theorem AC.rowK {P : Program} {f : FuncId} {args args' : List V} {v : V} {obs : List Ob} (h : AC P f args' v obs) (e : TypeId) {sz n : Nat} {row : Nat → List V} (ha : V.fzL 500 (.sl sz n row) args = args') (hi : V.idfL args' = true) (ho : obs.length ≤ 90) (hi2 : ∀ i, V.idfL (row i) = true)
  (hv : v.flatPT (List.range obs.length) = true) (hC : ∀ o ∈ obs, o.isC) : AM P f args [.row e sz n row] v [some (.row e sz n row)] obs := by
 refine ⟨h.1, fun W LB L w ρ vs hwl hWL hG hρ hvs => ?_⟩
 have hσ : insF [.row e sz n row] 500 = some (.row e sz n row) := rfl
 have hre : Real W w L ρ 500 (.row e sz n row) := hG.ob 500 _ hσ
 obtain ⟨v0, hv0, hlt, hs⟩ := hre.slice fun i _ => hi2 i
 have ex : Ext w L ρ w (fun b => L b ∨ blk v0 = some b) ρ := ⟨fun b hb => ⟨.inl hb, rfl⟩, fun _ _ h => h⟩
 have hrv : RV w (fun b => L b ∨ blk v0 = some b) ρ0 args' vs.toList := by
  refine RV.free (ρ := ρ) ?_ hi
  rw [← ha]
  refine ⟨by rw [V.fzL_len]; exact hvs.1, fun i u x hu hx => ?_⟩
  rw [V.fzL_get] at hu
  cases hc : args[i]? with
  | none => rw [hc] at hu; cases hu
  | some a =>
   rw [hc] at hu
   simp only [Option.map_some, Option.some.injEq] at hu
   subst hu
   refine R_fz (fun y hy => ?_) _ _ ((hvs.2 i a x hc hx).ext ex)
   rw [hv0] at hy; injection hy with hy; subst hy; exact hs
 refine (h.2 (fun b => L b ∨ blk v0 = some b) w vs (fun b hb => ?_) (hG.glE ex) hrv).mono ?_
 ·
  rcases hb with hb | hb
  ·
   exact (hG.ll b hb).1
  ·
   exact (hlt b hb).1
 rintro ee w' ⟨x, rfl, hbel, L', ρ', hG', hL', hx, hnn⟩
 obtain ⟨hG2, ex2⟩ := hG.quiet hbel (L' := L) (fun _ h => h) (fun _ h => .inl h)
 obtain ⟨ρ2, hρ2⟩ : ∃ ρ2 : Nat → Option Value, ∀ id, ρ2 id = if id < obs.length then ρ' id else ρ id := ⟨_, fun _ => rfl⟩
 have h1 : ∀ id, id < obs.length → ρ2 id = ρ' id := fun id h => by rw [hρ2, if_pos h]
 have h2 : ∀ id, ¬ id < obs.length → ρ2 id = ρ id := fun id h => by rw [hρ2, if_neg h]
 have hout : ∀ id o, outF [some (.row e sz n row)] obs id = some o → (id < obs.length ∧ obsF obs id = some o) ∨ (id = 500 ∧ o = .row e sz n row) := fun id o hio => by
  unfold outF at hio
  split at hio
  ·
   rename_i h5
   refine .inr ?_
   cases hk : id - 500 with
   | zero => rw [hk] at hio; simp at hio; exact ⟨by omega, hio.symm⟩
   | succ m => rw [hk] at hio; simp at hio
  ·
   refine .inl ⟨?_, hio⟩
   exact (List.getElem?_eq_some_iff.1 hio).1
 have hob : ∀ id o, obsF obs id = some o → id < obs.length → Real W w' L ρ2 id o ∧ ∀ y k, ρ2 id = some y → blk y = some k → w.heap.size ≤ k := fun id o hio hid => by
  have hr := hG'.ob id o hio
  have hc := hC o (List.mem_of_getElem? hio)
  cases o with
  | row t z m r =>
   obtain ⟨y, xs, q1, q2, q3, q4, q5⟩ := hr
   refine ⟨⟨y, xs, by rw [h1 id hid]; exact q1, q2, q3, q4.ofC fun u hu => ?_, fun k hk => ⟨(hG.new k (q5 k hk).1).1, fun hL => by have := (hG.ll k hL).1; have := (q5 k hk).1; omega⟩⟩, fun y' k hy hk => ?_⟩
   ·
    obtain ⟨l, hl, hul⟩ := List.mem_flatten.1 hu
    obtain ⟨i, hi, rfl⟩ := List.mem_iff_getElem.1 hl
    have hi' : i < m := by simpa [slRows_len] using hi
    have := slRows_get (row := r) hi'
    rw [List.getElem?_eq_getElem hi] at this
    injection this with this
    rw [this] at hul
    exact hc i hi' u hul
   ·
    rw [h1 id hid, q1] at hy; injection hy with hy; subst hy
    exact (q5 k hk).1
  | _ => exact hc.elim
 refine ⟨x, rfl, Tch.of_below hbel fun k _ hk => (hG.new k hk).1, L, ρ2, ⟨fun b hb => hG2.ll b hb, fun b hb => hG2.new b hb, fun id o hio => ?_, fun i j y z k hij hi hj hy hz hk => ?_, hG2.gl⟩, ⟨fun b hb => ex2.1 b hb, fun id y hy => ?_⟩, hx.flatPT hv fun id hid y hy => by rw [h1 id (List.mem_range.1 hid)]; exact hy, fun j hj hj5 => ?_⟩
 ·
  rcases hout id o hio with ⟨hid, hio⟩ | ⟨rfl, rfl⟩
  ·
   exact (hob id o hio hid).1
  ·
   obtain ⟨y, xs, q1, q2, q3, q4, q5⟩ := hG2.ob 500 _ hσ
   have hn5 : ¬ 500 < obs.length := by omega
   exact ⟨y, xs, by rw [h2 500 hn5]; exact q1, q2, q3, by
    refine ⟨q4.1, fun i u x hu hx => ⟨?_, (q4.2 i u x hu hx).2⟩⟩
    have hr := (q4.2 i u x hu hx).1
    refine (hr.free ?_ ρ2)
    obtain ⟨l, hl, hul⟩ := List.mem_flatten.1 (List.mem_of_getElem? hu)
    obtain ⟨i', hi', rfl⟩ := List.mem_iff_getElem.1 hl
    have hi'' : i' < n := by simpa [slRows_len] using hi'
    have := slRows_get (row := row) hi''
    rw [List.getElem?_eq_getElem hi'] at this
    injection this with this
    rw [this] at hul
    obtain ⟨p, hp, rfl⟩ := List.mem_iff_getElem.1 hul
    exact V.idfL_get (hi2 i') (List.getElem?_eq_getElem hp), q5⟩
 ·
  cases hio : outF [some (.row e sz n row)] obs i with
  | none => exact absurd hio hi
  | some o =>
   cases hjo : outF [some (.row e sz n row)] obs j with
   | none => exact absurd hjo hj
   | some o' =>
    rcases hout i o hio with ⟨hid, hio'⟩ | ⟨rfl, rfl⟩
    ·
     rcases hout j o' hjo with ⟨hjd, hjo'⟩ | ⟨rfl, rfl⟩
     ·
      rw [h1 i hid] at hy; rw [h1 j hjd] at hz
      exact hG'.sep i j y z k hij (by rw [hio']; simp) (by rw [hjo']; simp) hy hz hk
     ·
      intro hk'
      have a1 := (hob i o hio' hid).2 y k hy hk
      rw [h2 500 oM, hv0] at hz; injection hz with hz; subst hz
      have := (hlt k hk').1
      omega
    ·
     rcases hout j o' hjo with ⟨hjd, hjo'⟩ | ⟨rfl, rfl⟩
     ·
      intro hk'
      have a1 := (hob j o' hjo' hjd).2 z k hz hk'
      rw [h2 500 oM, hv0] at hy; injection hy with hy; subst hy
      have := (hlt k hk).1
      omega
     ·
      exact absurd rfl hij
 ·
  have : ¬ id < obs.length := fun hlt' => by
   rw [hρ id (.inl oM)] at hy; cases hy
  rw [h2 id this]; exact hy
 ·
  rw [h2 j oM]
  exact hρ j hj5
section
variable {P : Program} {N : Nat} {C : Cx P N} {ops : Array Oper} {nx : Nat} {os : List Oper} {tm : Nat → V} {σ : Nat → Option Ob} {ks : List (List Nat × List Nat)} {K : (Nat → V) → (Nat → Option Ob) → List (List Nat × List Nat) → Prop} {ty : TypeId} {pos : String} {af : Array Edge}
end
end Go.Ab
