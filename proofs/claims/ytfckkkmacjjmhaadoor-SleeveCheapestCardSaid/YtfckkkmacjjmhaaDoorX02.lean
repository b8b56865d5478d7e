/-
  Several texts in one: Gangs, as plain functions: the cost of a gang. No condition. .. Gangs, as plain functions: the document's copy. No condition.
-/
import Derived.LoopNIn
import Derived.Test.YtfckkkmacjjmhaaDoorX01
import Derived.Test.YtfckkkmacjjmhaaDoorMB
import Derived.Test.YtfckkkmacjjmhaaDoorAbs42
namespace Go.Ab
open Go.RowKit Go.Dw
def opnN (S : List Nat) (k : Nat) : List Nat := if k = S.length then S ++ [0] else S
def putN (S : List Nat) (k i : Nat) : List Nat := (opnN S k).set k (gn (opnN S k) k ||| 2 ^ i)
def setsN : List Int → Nat → List Nat → Option (List Nat)
 | [], _, S => some S
 | x :: g, i, S => if x < 0 ∨ (S.length : Int) < x then none else setsN g (i + 1) (putN S x.toNat i)
def costG (c : List Int) (slots plate : Int) (g : List Int) : Int × Int :=
 if chkC c slots plate ≠ 0 then (0, chkC c slots plate) else if g.length ≠ c.length then (0, 17) else
  match setsN g 0 [] with
  | none => (0, 2)
  | some S => if (sumK c slots plate S [] 0).2.1 = true then ((sumK c slots plate S [] 0).1, 0) else (0, 14)
theorem knF_nil (c : List Int) (slots plate : Int) : knF c slots plate [] = ⟨[], fun _ => none⟩ := by
 unfold knF
 congr 1
 funext k
 cases k <;> simp [knR]
theorem two_pow8 : ∀ {k : Nat}, k < 8 → (0 : Int) ≤ 1 * 2 ^ k ∧ (1 : Int) * 2 ^ k ≤ 128 := by decide
theorem opnN_lt {S : List Nat} {k n : Nat} (h : ∀ j, gn S j < n) (hn : 0 < n) (j : Nat) : gn (opnN S k) j < n := by
 unfold opnN
 split
 ·
  have := h j
  simp only [gn, List.getD_eq_getElem?_getD, List.getElem?_append] at this ⊢
  split
  ·
   exact this
  ·
   rcases Nat.eq_or_lt_of_le (Nat.le_of_not_lt ‹_›) with h1 | h1
   ·
    simpa [h1] using hn
   ·
    rw [List.getElem?_eq_none (by simp; omega)]; exact hn
 ·
  exact h j
theorem gn_set (S : List Nat) (k v j : Nat) : gn (S.set k v) j = if j = k ∧ k < S.length then v else gn S j := by
 simp only [gn, List.getD_eq_getElem?_getD, List.getElem?_set]
 by_cases h : k = j
 ·
  subst h
  by_cases h2 : k < S.length
  ·
   simp [h2]
  ·
   simp [h2]
 ·
  rw [if_neg h, if_neg oM]
theorem putN_lt {S : List Nat} {k i : Nat} (h : ∀ j, gn S j < 2 ^ i) (j : Nat) : gn (putN S k i) j < 2 ^ (i + 1) := by
 have h0 : 0 < 2 ^ i := Nat.pow_pos oM
 have h1 := fun j => opnN_lt (k := k) h h0 j
 have e : 2 ^ (i + 1) = 2 ^ i + 2 ^ i := by rw [Nat.pow_succ]; omega
 unfold putN
 rw [gn_set]
 split
 ·
  exact Nat.or_lt_two_pow (Nat.lt_of_lt_of_le (h1 k) oM) oM
 ·
  have := h1 j; omega
theorem opnN_len {S : List Nat} {k : Nat} (h : k ≤ S.length) : (opnN S k).length = if k = S.length then S.length + 1 else S.length := by
 unfold opnN
 split <;> simp
theorem putN_len (S : List Nat) (k i : Nat) : (putN S k i).length = (opnN S k).length := by rw [putN, List.length_set]
theorem opnN_klt {S : List Nat} {k : Nat} (h : k ≤ S.length) : k < (opnN S k).length := by
 rw [opnN_len h]
 split <;> omega
theorem opnN_row {S : List Nat} {x : Nat} (h : x = S.length) {i : Nat} (hi : i < S.length + 1) : appRow S.length (fun j => [V.i (gn S j : Nat)]) (fun i => List.take 1 (List.drop (i * 1) [V.i 0])) i = [V.i (gn (opnN S x) i : Nat)] := by
 rw [opnN, if_pos h, appRow]
 simp only [gn, List.getD_eq_getElem?_getD, List.getElem?_append]
 by_cases h2 : i < S.length
 ·
  rw [if_pos h2, if_pos h2]
 ·
  rw [if_neg h2, if_neg h2, show i - S.length = 0 by omega]; rfl
theorem app_row {l : List Nat} {k i : Nat} (hi : i < l.length + 1) : appRow l.length (fun j => [V.i (gn l j : Nat)]) (fun i => List.take 1 (List.drop (i * 1) [V.i (k : Nat)])) i = [V.i (gn (l ++ [k]) i : Nat)] := by
 rw [appRow]
 simp only [gn, List.getD_eq_getElem?_getD, List.getElem?_append]
 by_cases h2 : i < l.length
 ·
  rw [if_pos h2, if_pos h2]
 ·
  rw [if_neg h2, if_neg h2, show i - l.length = 0 by omega]; rfl
theorem putN_row {S : List Nat} {x k j : Nat} (h : x < (opnN S x).length) (hor : bitop .or .i64 (gn (opnN S x) x : Int) (2 ^ k) = ((gn (opnN S x) x ||| 2 ^ k : Nat) : Int)) {a n : Int} (ha : (gn (opnN S x) x : Int) = a) (hn : (gn (opnN S x) j : Int) = n) : (if j = x then [V.i (bitop .or .i64 a (1 * 2 ^ k))] else [V.i n]) = [V.i (gn (putN S x k) j : Nat)] := by
 subst hn ha
 rw [putN, gn_set, Int.one_mul, hor]
 by_cases e : j = x
 ·
  rw [if_pos e, if_pos ⟨e, h⟩]
 ·
  rw [if_neg e, if_neg (fun q => e q.1)]
theorem setsN_drop {g : List Int} {k : Nat} (hk : k < g.length) (i : Nat) (S : List Nat) : setsN (g.drop k) i S = if gi g k < 0 ∨ (S.length : Int) < gi g k then none else setsN (g.drop (k + 1)) (i + 1) (putN S (gi g k).toNat i) := by
 rw [List.drop_eq_getElem_cons hk, setsN]
 simp [gi, List.getD_eq_getElem?_getD, List.getElem?_eq_getElem hk]
theorem gn_app {l : List Nat} {k i : Nat} (hi : i < l.length) : gn (l ++ [k]) i = gn l i := by
 simp [gn, List.getD_eq_getElem?_getD, List.getElem?_append, hi]
theorem opnN_old {S : List Nat} {k i : Nat} (hi : i < S.length) : gn (opnN S k) i = gn S i := by
 unfold opnN
 split
 ·
  exact gn_app hi
 ·
  rfl
theorem bit_clr : ∀ s : Nat, s < 128 → ∀ i : Nat, i < 8 → s < 2 ^ i → bitop .andNot .i64 ((s ||| 2 ^ i : Nat) : Int) (2 ^ i) = (s : Int) := by decide +kernel
theorem clr_row {S : List Nat} {k i j : Nat} (hk : k ≤ S.length) (hi : i < 8) (hb : ∀ j, gn S j < 2 ^ i) (hj : j < S.length) : (if j = k then [V.i (bitop .andNot .i64 (gn (putN S k i) k : Nat) (1 * 2 ^ i))] else [V.i (gn (putN S k i) j : Nat)]) = [V.i (gn S j : Nat)] := by
 by_cases e : j = k
 ·
  subst e
  have h1 := opnN_klt hk
  rw [if_pos rfl, putN, gn_set, if_pos ⟨rfl, h1⟩, opnN_old hj, Int.one_mul, bit_clr _ (Nat.lt_of_lt_of_le (hb j) (Nat.pow_le_pow_right oM (show i ≤ 7 by omega))) _ hi (hb j)]
 ·
  rw [if_neg e, putN, gn_set, if_neg (fun q => e q.1), opnN_old hj]
def nextG (c : List Int) (slots plate : Int) : Nat → List Nat → List Nat → List Nat × Int × List Nat → List Nat × Int × List Nat
 | 0, g, S, st => if (sumK c slots plate S st.2.2 0).2.1 = true ∧ (st.2.1 < 0 ∨ (sumK c slots plate S st.2.2 0).1 < st.2.1) then (g, (sumK c slots plate S st.2.2 0).1, (sumK c slots plate S st.2.2 0).2.2) else (st.1, st.2.1, (sumK c slots plate S st.2.2 0).2.2)
 | d + 1, g, S, st => (List.range (S.length + 1)).foldl (fun st k => nextG c slots plate d (g ++ [k]) (putN S k g.length) st) st
def nextR (c : List Int) (slots plate : Int) (d : Nat) (g S : List Nat) (st : List Nat × Int × List Nat) (k : Nat) : List Nat × Int × List Nat := (List.range k).foldl (fun st k => nextG c slots plate d (g ++ [k]) (putN S k g.length) st) st
theorem nextR_succ (c : List Int) (slots plate : Int) (d : Nat) (g S : List Nat) (st : List Nat × Int × List Nat) (k : Nat) : nextR c slots plate d g S st (k + 1) = nextG c slots plate d (g ++ [k]) (putN S k g.length) (nextR c slots plate d g S st k) := by
 unfold nextR
 rw [List.range_succ, List.foldl_append]
 rfl
end Go.Ab

namespace Go.Ab
open Go.RowKit Go.Dw
section
variable {P : Program} {N : Nat} {C : Cx P N} {Q : Exit → S → Prop} {s : S} {c : Code}
end
end Go.Ab

namespace Go.Ab
open Go.RowKit Go.Dw
inductive PQ where
 | tt
 | le (a b : Int)
 | lt (a b : Int)
 | nle (a b : Nat)
 | nlt (a b : Nat)
 | ne (a b : Int)
 | re (v : V)
 | and (p q : PQ)
def PQ.den : PQ → Prop
 | .tt => True
 | .le a b => a ≤ b
 | .lt a b => a < b
 | .nle a b => a ≤ b
 | .nlt a b => a < b
 | .ne a b => a ≠ b
 | .re v => v = v
 | .and p q => p.den ∧ q.den
def PQ.dec : PQ → Bool
 | .tt => true
 | .le a b => decide (a ≤ b)
 | .lt a b => decide (a < b)
 | .nle a b => Nat.ble a b
 | .nlt a b => Nat.blt a b
 | .ne a b => !decide (a = b)
 | .re _ => true
 | .and p q => match p.dec with
  | true => q.dec
  | false => false
theorem PQ.ok : ∀ {p : PQ}, p.dec = true → p.den
 | .tt, _ => trivial
 | .le a b, h => of_decide_eq_true (p := a ≤ b) h
 | .lt a b, h => of_decide_eq_true (p := a < b) h
 | .nle a b, h => Nat.le_of_ble_eq_true h
 | .nlt a b, h => Nat.le_of_ble_eq_true (n := a + 1) h
 | .ne a b, h => by simp only [PQ.dec, Bool.not_eq_true', decide_eq_false_iff_not] at h; exact h
 | .re _, _ => rfl
 | .and p q, h => by
  simp only [PQ.dec] at h
  split at h
  ·
   rename_i hp; exact ⟨PQ.ok hp, PQ.ok h⟩
  ·
   cases h
def EqB (l : List (Bool × Bool)) : Prop := ∀ p ∈ l, p.1 = p.2
theorem EqB.l {a b : List (Bool × Bool)} (h : EqB (a ++ b)) : EqB a := fun p hp => h p (List.mem_append_left _ hp)
theorem EqB.r {a b : List (Bool × Bool)} (h : EqB (a ++ b)) : EqB b := fun p hp => h p (List.mem_append_right _ hp)
inductive It (P : Program) where
 | c (p : Prop) (h : p)
 | g (g : Bool) (p : Prop) (h : g = true → p)
 | d
 | w
 | wc (p : Prop) (h : p)
 | q (p : Prop) (h : p)
 | f
 | cl (f : FuncId) (args : List V) (v : V) (h : AC P f args v [])
 | clg (g : Bool) (f : FuncId) (args : List V) (v : V) (h : g = true → AC P f args v [])
 | clo (f : FuncId) (args : List V) (v : V) (obs : List Ob) (h : AC P f args v obs)
inductive CE where
 | p (p : Prop)
 | b (b : Bool)
 | a (f : FuncId) (args : List V)
 | vs (l : List V)
 | n (f : Nat → List CE)
 | ys (f : Nat → Option (List (List V)))
inductive Fr where
 | c (y : Code)
 | b (id : Nat)
 | l (y : Code) (m : Nat)
 | s
inductive Cfg where
 | code (c : Code) (k : List Fr) (s : S)
 | ops (ol : List Oper) (dr : Bool) (rest : List Oper) (tm : Nat → V) (σ : Nat → Option Ob) (nx : Nat) (ks : List (List Nat × List Nat)) (k : List Fr)
 | done (e : Exit) (k : List Fr) (s : S)
structure Pm where
 T : List TI
 N : Nat
 M : List Nat
 u : Nat
 lit : Bool
structure Nx (P : Program) where
 n : Nat
 l : List (Nat × It P)
 g : Cfg
 e : List (CE × CE)
def EqE (l : List (CE × CE)) : Prop := ∀ p ∈ l, p.1 = p.2
theorem EqE.l {a b : List (CE × CE)} (h : EqE (a ++ b)) : EqE a := fun p hp => h p (List.mem_append_left _ hp)
theorem EqE.r {a b : List (CE × CE)} (h : EqE (a ++ b)) : EqE b := fun p hp => h p (List.mem_append_right _ hp)
theorem EqE.hd {x y : CE} {l : List (CE × CE)} (h : EqE ((x, y) :: l)) : x = y := h (x, y) (List.mem_cons_self ..)
theorem EqE.tl {x : CE × CE} {l : List (CE × CE)} (h : EqE (x :: l)) : EqE l := fun p hp => h p (List.mem_cons_of_mem _ hp)
section
variable {P : Program} (pm : Pm) (n : Nat) (l : List (Nat × It P)) (ol : List Oper) (dr : Bool) (o : Oper) (os : List Oper) (tm : Nat → V) (σ : Nat → Option Ob) (nx : Nat) (ks : List (List Nat × List Nat)) (k : List Fr)
end
section
variable {P : Program} {N : Nat} (C : Cx P N) (Q : Exit → S → Prop)
end
abbrev KT : Type := List Oper → Bool → Nat → List Fr → (Nat → V) → (Nat → Option Ob) → List (List Nat × List Nat) → Prop
section
variable {P : Program} {N : Nat} {C : Cx P N} {Q : Exit → S → Prop} {KK : KT} {R : Cfg → Prop} {pm : Pm} {n : Nat} {l : List (Nat × It P)}
section
variable {ol : List Oper} {dr : Bool} {o : Oper} {os : List Oper} {tm : Nat → V} {σ : Nat → Option Ob} {nx : Nat} {ks : List (List Nat × List Nat)} {k : List Fr} {r : Nx P}
theorem AOps.mono {ops : Array Oper} {K K' : (Nat → V) → (Nat → Option Ob) → List (List Nat × List Nat) → Prop} : ∀ {os : List Oper} {tm : Nat → V} {σ : Nat → Option Ob} {ks : List (List Nat × List Nat)}, AOps C ops nx os tm σ ks K → (∀ a b c, K a b c → K' a b c) → AOps C ops nx os tm σ ks K'
 | [], _, _, _, h, hk => hk _ _ _ h
 | _ :: _, _, _, _, ⟨e, h1, h2⟩, hk => ⟨e, h1, AOps.mono h2 hk⟩
end
end
def tl : Nat → Code → Code
 | 0, c => c
 | j + 1, .seq _ y => tl j y
 | _ + 1, c => c
section
variable {P : Program} {N : Nat} {C : Cx P N} {T : List TI} {Q : Exit → S → Prop} {c : Code} {tm : Nat → V} {σ : Nat → Option Ob} {nx : Nat}
end
end Go.Ab

namespace Go.Ab
open Go.RowKit Go.Dw
end Go.Ab

namespace Go.Ab
open Go.RowKit Go.Dw
theorem Real.ptr {W : Nat → Prop} {w : World} {L : Nat → Prop} {ρ : Nat → Option Value} {id t : Nat} {cs : List V} (h : Real W w L ρ id (.box t cs)) (hi : V.idfL cs = true) :
  ∃ v, ρ id = some v ∧ (∀ k, blk v = some k → k < w.heap.size ∧ W k ∧ ¬ L k) ∧ R w (fun b => L b ∨ blk v = some b) ρ (.ptr cs) v := by
 obtain ⟨v', hv', hlt⟩ := h.lt
 obtain ⟨b, xs, h1, h2, h3, h4, h5⟩ := h
 rw [h1] at hv'; injection hv' with hv'; subst hv'
 refine ⟨_, h1, hlt, ?_⟩
 refine .ptr _ _ _ _ (fun j => xs.toList.getD j undef) (.inr rfl) (fun j u hu => ?_) fun j u hu => ?_
 ·
  obtain ⟨y, hy, hr, hone⟩ := h5.get hu
  have hg : xs.toList.getD j undef = y := by simp [List.getD_eq_getElem?_getD, hy]
  rw [hg]
  refine ⟨?_, hone⟩
  rw [Nat.zero_add]
  rw [cell_of_row w b j xs t (0, 0) h4]
  simpa using hy
 ·
  obtain ⟨y, hy, hr, hone⟩ := h5.get hu
  have hg : xs.toList.getD j undef = y := by simp [List.getD_eq_getElem?_getD, hy]
  rw [hg]
  exact (hr.free (V.idfL_get hi hu) ρ0).ext ⟨fun b hb => ⟨.inl hb, rfl⟩, fun _ _ h => h⟩
def V.flatT : V → Bool
 | .tup cs => V.flatL cs
 | v => v.flat
theorem R.flatT {w w' : World} {L L' : Nat → Prop} {ρ ρ' : Nat → Option Value} {u : V} {x : Value} (h : R w L ρ u x) (hf : u.flatT = true) : R w' L' ρ' u x := by
 cases u with
 | tup cs =>
  obtain ⟨xs, rfl, hx⟩ := h.tup_inv
  exact .tup' ⟨hx.1, fun i v y hv hy => (hx.2 i v y hv hy).flat (V.flatL_get hf hv)⟩
 | _ => exact h.flat hf
theorem AC.box {P : Program} {f : FuncId} {args args' : List V} {v : V} (h : AC P f args' v []) (t : TypeId) {cs : List V} (ha : V.fzL 500 (.ptr cs) args = args') (hi : V.idfL args' = true) (hi2 : V.idfL cs = true) (hv : v.flatT = true) :
  AM P f args [.box t cs] v [some (.box t cs)] [] := by
 refine ⟨h.1, fun W LB L w ρ vs hwl hWL hG hρ hvs => ?_⟩
 have hσ : insF [.box t cs] 500 = some (.box t cs) := rfl
 obtain ⟨v0, hv0, hlt, hs⟩ := (hG.ob 500 _ hσ).ptr hi2
 have ex : Ext w L ρ w (fun b => L b ∨ blk v0 = some b) ρ := ⟨fun b hb => ⟨.inl hb, rfl⟩, fun _ _ h => h⟩
 have hrv : RV w (fun b => L b ∨ blk v0 = some b) ρ0 args' vs.toList := by
  refine RV.free (ρ := ρ) ?_ hi
  rw [← ha]
  refine ⟨by rw [V.fzL_len]; exact hvs.1, fun i u x hu hx => ?_⟩
  rw [V.fzL_get] at hu
  cases hc : args[i]? with
  | none => rw [hc] at hu; cases hu
  | some a =>
   rw [hc] at hu
   simp only [Option.map_some, Option.some.injEq] at hu
   subst hu
   refine R_fz (fun y hy => ?_) _ _ ((hvs.2 i a x hc hx).ext ex)
   rw [hv0] at hy; injection hy with hy; subst hy; exact hs
 refine (h.2 (fun b => L b ∨ blk v0 = some b) w vs (fun b hb => ?_) (hG.glE ex) hrv).mono ?_
 ·
  rcases hb with hb | hb
  ·
   exact (hG.ll b hb).1
  ·
   exact (hlt b hb).1
 rintro ee w' ⟨x, rfl, hbel, L', ρ', hG', hL', hx, hnn⟩
 obtain ⟨hG2, ex2⟩ := hG.quiet hbel (L' := L) (fun _ h => h) (fun _ h => .inl h)
 have e : outF [some (.box t cs)] [] = insF [.box t cs] := by
  funext id
  unfold outF insF
  by_cases h5 : 500 ≤ id
  ·
   rw [if_pos h5, if_pos h5]
   cases hk : id - 500 with
   | zero => rfl
   | succ n => simp
  ·
   rw [if_neg h5, if_neg h5]; simp
 refine ⟨x, rfl, Tch.of_below hbel fun k _ hk => (hG.new k hk).1, L, ρ, ?_, ex2, hx.flatT hv, fun j _ hj => hρ j hj⟩
 rw [e]; exact hG2
end Go.Ab

namespace Go.Ab
open Go.RowKit Go.Dw
def ObZ (id : Nat) (v0 : V) : Ob → Ob → Prop
 | .box t cs, .box t' cs' => t = t' ∧ (cs' = V.fzL id v0 cs ∨ cs' = cs)
 | .row e sz n f, .row e' sz' n' f' => e = e' ∧ sz = sz' ∧ n = n' ∧ ∀ i, i < n → f' i = V.fzL id v0 (f i) ∨ f' i = f i
 | .mp s f, .mp s' f' => s = s' ∧ (f' = f.map (V.fz id v0) ∨ f' = f)
 | _, _ => False
theorem RL_fz {w : World} {L : Nat → Prop} {ρ : Nat → Option Value} {id : Nat} {v0 : V} (h0 : ∀ y, ρ id = some y → R w L ρ v0 y) {us : List V} {xs : List Value} (h : RL w L ρ us xs) : RL w L ρ (V.fzL id v0 us) xs := by
 refine ⟨by rw [← h.1, V.fzL_len], fun i u x hu hx => ?_⟩
 rw [V.fzL_get] at hu
 cases hc : us[i]? with
 | none => rw [hc] at hu; cases hu
 | some u' =>
  rw [hc] at hu
  injection hu with hu
  subst hu
  obtain ⟨q1, q2⟩ := h.2 i u' x hc hx
  exact ⟨R_fz h0 _ _ q1, q2⟩
theorem Real.z {W L : Nat → Prop} {w : World} {ρ : Nat → Option Value} {id j : Nat} {v0 : V} {o o' : Ob} (h0 : ∀ y, ρ id = some y → R w L ρ v0 y) (h : Real W w L ρ j o) (hz : ObZ id v0 o o') : Real W w L ρ j o' := by
 cases o with
 | box t cs =>
  cases o' with
  | box t' cs' =>
   obtain ⟨rfl, rfl | rfl⟩ := hz
   ·
    obtain ⟨b, xs, h1, h2, h3, h4, h5⟩ := h
    exact ⟨b, xs, h1, h2, h3, h4, RL_fz h0 h5⟩
   ·
    exact h
  | row _ _ _ _ => exact hz.elim
  | mp _ _ => exact hz.elim
 | row e sz n f =>
  cases o' with
  | row e' sz' n' f' =>
   obtain ⟨rfl, rfl, rfl, hf⟩ := hz
   obtain ⟨v, xs, h1, h2, h3, h4, h5⟩ := h
   have hlen : ∀ i, i < n → (f' i).length = (f i).length := fun i hi => by
    rcases hf i hi with e | e <;> rw [e]
    exact V.fzL_len _ _ _
   refine ⟨v, xs, h1, h2, fun i hi => (hlen i hi).trans (h3 i hi), ?_, h5⟩
   have key : ∀ (m : Nat), m ≤ n → ∀ xs, RL w L ρ (slRows m f).flatten xs → RL w L ρ (slRows m f').flatten xs := by
    intro m
    induction m with
    | zero => intro _ xs h; exact h
    | succ m ih =>
     intro hm xs h
     have e1 : ∀ g : Nat → List V, (slRows (m + 1) g).flatten = (slRows m g).flatten ++ g m := fun g => by
      simp [slRows, List.range_succ]
     rw [e1] at h ⊢
     have hl := h.1
     rw [List.length_append] at hl
     have ex : xs = xs.take (slRows m f).flatten.length ++ xs.drop (slRows m f).flatten.length := by simp
     have ha : RL w L ρ (slRows m f).flatten (xs.take (slRows m f).flatten.length) := by
      have := h.sub 0 (slRows m f).flatten.length
      simpa using this
     have hb : RL w L ρ (f m) (xs.drop (slRows m f).flatten.length) := by
      have := h.sub (slRows m f).flatten.length (f m).length
      rw [List.drop_left, List.take_length, List.take_of_length_le (by rw [List.length_drop]; omega)] at this
      exact this
     rw [ex]
     refine (ih oM _ ha).append ?_
     rcases hf m oM with e | e <;> rw [e]
     ·
      exact RL_fz h0 hb
     ·
      exact hb
   exact key n (Nat.le_refl _) xs h4
  | box _ _ => exact hz.elim
  | mp _ _ => exact hz.elim
 | mp s f =>
  cases o' with
  | mp s' f' =>
   obtain ⟨rfl, rfl | rfl⟩ := hz
   ·
    obtain ⟨B, es, cl, hv', hBW, hBL, hh, hl⟩ := h
    exact ⟨B, es, cl, hv', hBW, hBL, hh, hl.mapF (fun v => by rw [V.fz]) fun i u x _ hr => R_fz h0 _ _ hr⟩
   ·
    exact h
  | box _ _ => exact hz.elim
  | row _ _ _ _ => exact hz.elim
theorem as_eqO {P : Program} {W LB : Nat → Prop} {d : Option Tmp} {ty : TypeId} {pos : String} {af : Array Edge} {gd : Option (Nat × Bool)} {ev : Operand → V} (t t' : TypeId) (x y : Operand) {e0 sz n id el : Nat} {row : Nat → List V} (he : tElem P t = some el) (hx : ev x = .own id) (hy : ev y = .nil) (hn : 0 < n) :
  AStep P W LB ⟨d, .binOp .eql t x y t', ty, pos, af, gd⟩ ev (.b false) [(id, .row e0 sz n row)] [] [] ∧ AStep P W LB ⟨d, .binOp .neq t x y t', ty, pos, af, gd⟩ ev (.b true) [(id, .row e0 sz n row)] [] [] := by
 have hu := tElem_some he
 have run : ∀ w A c', (Op.equalIn Op.maxDepth t (.slice (some A) n c') (.slice none 0 0)).run P w = .ok false w := by
  intro w A c'
  show (Op.equalIn (_ + 1) t _ _).run P w = _
  unfold Op.equalIn
  simp [run_underlying' hu]
 have key : ∀ {σ : Nat → Option Ob} {w : World} {L : Nat → Prop} {ρ : Nat → Option Value} {g : Operand → Value}, G W LB σ w L ρ → R w L ρ (ev x) (g x) → R w L ρ (ev y) (g y) → σ id = some (.row e0 sz n row) → ∃ A c', g x = .slice (some A) n c' ∧ g y = .slice none 0 0 := by
  intro σ w L ρ g hG h1 h2 hσ
  rw [hx] at h1
  rw [hy] at h2
  have hρ := h1.own_inv
  obtain ⟨v, xs, hv, hown, _⟩ := hG.ob id _ hσ
  rw [hρ] at hv; injection hv with hv
  rcases hown.2 with ⟨_, h0⟩ | ⟨g', cap, cur, h3, _⟩
  ·
   omega
  ·
   refine ⟨_, _, hv.trans h3, ?_⟩
   generalize g y = Y at h2
   cases h2; rfl
 constructor
 ·
  intro σ w L ρ g hG hr hpre _
  obtain ⟨A, c', e1, e2⟩ := key hG (hr x (by simp [Op.operands])) (hr y (by simp [Op.operands])) (hpre _ (List.mem_cons_self ..))
  exact OpDoes.value (v := .bool false) (w' := w) rfl (by simp [execOp, e1, e2, eqGuard, binOp, Op.equal, run w A c']) ⟨L, ρ, hG, .c _ _, Tch.refl _ _, Ext.refl _ _ _, fun _ _ => rfl, DefK.refl _ _⟩
 ·
  intro σ w L ρ g hG hr hpre _
  obtain ⟨A, c', e1, e2⟩ := key hG (hr x (by simp [Op.operands])) (hr y (by simp [Op.operands])) (hpre _ (List.mem_cons_self ..))
  exact OpDoes.value (v := .bool true) (w' := w) rfl (by simp [execOp, e1, e2, eqGuard, binOp, Op.equal, run w A c']) ⟨L, ρ, hG, .c _ _, Tch.refl _ _, Ext.refl _ _ _, fun _ _ => rfl, DefK.refl _ _⟩
end Go.Ab

namespace Go.Ab
open Go.RowKit Go.Dw
theorem AC.shut1 {P : Program} {f : FuncId} {args : List V} {v v' : V} {e : TypeId} {sz n n' : Nat} {row row' : Nat → List V} (h : AC P f args v [.row e sz n row]) (hn : n = n') (hr : ∀ i, i < n → row i = row' i) (hi : ∀ i, V.idfL (row' i) = true) (hv : V.fz 0 (.sl sz n' row') v = v') (hidf : v'.idf = true) : AC P f args v' [] := by
 subst hn
 refine ⟨h.1, fun L w vs hL hgl hvs => (h.2 L w vs hL hgl hvs).mono ?_⟩
 rintro ee w' ⟨x, rfl, hb, L', ρ', hG, hL', hx, hnn⟩
 have hre : Real (fun b => w.heap.size ≤ b) w' L' ρ' 0 (.row e sz n row') := (hG.ob 0 _ rfl).eq ⟨rfl, rfl, rfl, hr⟩
 obtain ⟨v0, hv0, hlt, hs⟩ := hre.slice fun i _ => hi i
 have ex : Ext w' L' ρ' w' (fun b => L' b ∨ blk v0 = some b) ρ' := ⟨fun b hb => ⟨.inl hb, rfl⟩, fun _ _ h => h⟩
 refine ⟨x, rfl, hb, fun b => L' b ∨ blk v0 = some b, ρ0, ⟨fun b hbl => ?_, hG.new, (fun id o ho => by cases ho), fun i j y z k _ hi => absurd rfl hi, hG.glE ex⟩, fun b hbl => .inl (hL' b hbl), ?_, fun _ _ => rfl⟩
 ·
  rcases hbl with h1 | h1
  ·
   exact hG.ll b h1
  ·
   exact ⟨(hlt b h1).1, .inr (hlt b h1).2.1⟩
 ·
  subst hv
  refine (R_fz (fun y hy => ?_) v x (hx.ext ex)).free hidf ρ0
  rw [hv0] at hy; injection hy with hy; subst hy; exact hs
end Go.Ab

namespace Go.Ab
open Go.RowKit Go.Dw
def selK (c G : List Int) (k n : Nat) : List Int := ((List.range n).filter fun i => decide (gi G i = (k : Int))).map (gi c)
theorem selK_succ (c G : List Int) (k n : Nat) : selK c G k (n + 1) = if gi G n = (k : Int) then selK c G k n ++ [gi c n] else selK c G k n := by
 unfold selK
 rw [List.range_succ, List.filter_append, List.map_append]
 by_cases h : gi G n = (k : Int) <;> simp [h]
theorem selK_co {c G : List Int} (h : CO c) {k n : Nat} (hn : n ≤ c.length) : CO (selK c G k n) := by
 intro x hx
 simp only [selK, List.mem_map, List.mem_filter, List.mem_range] at hx
 obtain ⟨i, ⟨hi, _⟩, rfl⟩ := hx
 exact h.gi oM
def rsumL (c : List Int) (slots plate : Int) (G : List Int) : List Nat → Int → Int × Bool
 | [], a => (a, true)
 | k :: l, a => if (selK c G k G.length).length = 0 then rsumL c slots plate G l a else if slots < ((selK c G k G.length).length : Int) then (0, false) else rsumL c slots plate G l (a + plate + fewN (selK c G k G.length) slots)
def rcostV (c : List Int) (slots plate : Int) (G : List Int) : Int × Bool := rsumL c slots plate G (List.range G.length) 0
theorem range_drop {n k : Nat} (h : k < n) : (List.range n).drop k = k :: (List.range n).drop (k + 1) := by
 rw [List.drop_eq_getElem_cons (by simpa using h)]
 simp
def isGN : List Int → Int → Bool
 | [], _ => true
 | x :: g, n => if x < 0 ∨ n < x then false else isGN g (if x = n then n + 1 else n)
theorem isGN_drop {g : List Int} {k : Nat} (hk : k < g.length) (n : Int) : isGN (g.drop k) n = if gi g k < 0 ∨ n < gi g k then false else isGN (g.drop (k + 1)) (if gi g k = n then n + 1 else n) := by
 rw [List.drop_eq_getElem_cons hk, isGN]
 simp [gi, List.getD_eq_getElem?_getD, List.getElem?_eq_getElem hk]
def cmbR (a r : List Int × Int × Bool) : List Int × Int × Bool := if r.2.2 = true ∧ (a.2.2 = false ∨ r.2.1 < a.2.1) then r else a
def bestR (c : List Int) (slots plate : Int) : Nat → List Int → Nat → List Int × Int × Bool
 | 0, g, _ => (g, (rcostV c slots plate g).1, (rcostV c slots plate g).2)
 | d + 1, g, u => (List.range (u + 1)).foldl (fun a (k : Nat) => cmbR a (bestR c slots plate d (g ++ [(k : Int)]) (max u (k + 1)))) ([], 0, false)
def bestF (c : List Int) (slots plate : Int) (d : Nat) (g : List Int) (u k : Nat) : List Int × Int × Bool := (List.range k).foldl (fun a (k : Nat) => cmbR a (bestR c slots plate d (g ++ [(k : Int)]) (max u (k + 1)))) ([], 0, false)
theorem bestF_succ (c : List Int) (slots plate : Int) (d : Nat) (g : List Int) (u k : Nat) : bestF c slots plate d g u (k + 1) = cmbR (bestF c slots plate d g u k) (bestR c slots plate d (g ++ [(k : Int)]) (max u (k + 1))) := by
 unfold bestF
 rw [List.range_succ, List.foldl_append]
 rfl
def rgangV (c : List Int) (slots plate : Int) : List Int × Int := if chkC c slots plate ≠ 0 then ([], 0) else ((bestR c slots plate c.length [] 0).1, (bestR c slots plate c.length [] 0).2.1)
def natI (l : List Nat) : List Int := l.map fun (n : Nat) => (n : Int)
def gangV (c : List Int) (slots plate : Int) : List Int × Int := if chkC c slots plate ≠ 0 then ([], 0) else if c.length = 0 then ([], 0) else (natI (nextG c slots plate c.length [] [] ([], -1, [])).1, (nextG c slots plate c.length [] [] ([], -1, [])).2.1)
theorem natI_row {l : List Nat} {i : Nat} (hi : i < l.length) : [V.i (gn l i : Nat)] = [V.i (gi (natI l) i)] := by
 simp [natI, gn, gi, List.getD_eq_getElem?_getD, List.getElem?_map, List.getElem?_eq_getElem hi]
end Go.Ab
