/-
  Several texts in one: Gangs: both copies find the same. No condition. .. The best gang is the first of the cheapest ones. No condition.
-/
import Derived.Test.YtfckkkmacjjmhaaDoorX02
namespace Go.Ab
open Go.RowKit Go.Dw
def rcostG (c : List Int) (slots plate : Int) (g : List Int) : Int × Int :=
 if chkC c slots plate ≠ 0 then (0, chkC c slots plate) else if g.length ≠ c.length then (0, 17) else if isGN g 0 = false then (0, 2) else if (rcostV c slots plate g).2 = true then ((rcostV c slots plate g).1, 0) else (0, 14)
theorem opnN_gn (S : List Nat) (k j : Nat) : gn (opnN S k) j = gn S j := by
 unfold opnN
 split
 ·
  simp only [gn, List.getD_eq_getElem?_getD, List.getElem?_append]
  split
  ·
   rfl
  ·
   rename_i h1 h
   rw [List.getElem?_eq_none (l := S) oM]
   rcases Nat.eq_zero_or_pos (j - S.length) with h2 | h2
   ·
    rw [h2]; rfl
   ·
    rw [List.getElem?_eq_none (by simp; omega)]
 ·
  rfl
theorem putN_gn {S : List Nat} {k : Nat} (h : k ≤ S.length) (i j : Nat) : gn (putN S k i) j = if j = k then gn S j ||| 2 ^ i else gn S j := by
 rw [putN, gn_set, opnN_gn, opnN_gn]
 by_cases e : j = k
 ·
  rw [if_pos ⟨e, opnN_klt h⟩, if_pos e, e]
 ·
  rw [if_neg (fun q => e q.1), if_neg e]
theorem setsN_isG : ∀ (g : List Int) (i : Nat) (S : List Nat), (setsN g i S).isSome = isGN g S.length
 | [], _, _ => rfl
 | x :: g, i, S => by
  rw [setsN, isGN]
  by_cases h : x < 0 ∨ (S.length : Int) < x
  ·
   rw [if_pos h, if_pos h]; rfl
  ·
   rw [if_neg h, if_neg h, setsN_isG g]
   congr 1
   rw [putN_len, opnN_len oM]
   by_cases h2 : x = S.length
   ·
    rw [if_pos oM, if_pos h2]; omega
   ·
    rw [if_neg oM, if_neg h2]
theorem setsN_len : ∀ (g : List Int) (i : Nat) (S S' : List Nat), setsN g i S = some S' → S'.length ≤ S.length + g.length
 | [], _, S, S', h => by cases h; exact Nat.le_refl _
 | x :: g, i, S, S', h => by
  rw [setsN] at h
  split at h
  ·
   cases h
  ·
   rename_i h2
   have := setsN_len g _ _ _ h
   rw [putN_len, opnN_len oM] at this
   split at this <;> simp <;> omega
theorem setsN_ne : ∀ (g : List Int) (i : Nat) (S S' : List Nat), setsN g i S = some S' → (∀ k, k < S.length → gn S k ≠ 0) → ∀ k, k < S'.length → gn S' k ≠ 0
 | [], _, S, S', h, hn => by cases h; exact hn
 | x :: g, i, S, S', h, hn => by
  rw [setsN] at h
  split at h
  ·
   cases h
  ·
   rename_i h2
   refine setsN_ne g _ _ _ h fun k hk => ?_
   rw [putN_len, opnN_len oM] at hk
   rw [putN_gn oM]
   have h0 : 0 < 2 ^ i := Nat.pow_pos oM
   split
   ·
    intro e
    have : 2 ^ i ≤ gn S k ||| 2 ^ i := Nat.right_le_or
    omega
   ·
    split at hk
    ·
     exact hn k oM
    ·
     exact hn k hk
theorem setsN_bit : ∀ (g : List Int) (i : Nat) (S S' : List Nat), setsN g i S = some S' → (∀ j, gn S j < 2 ^ i) → ∀ k j, (gn S' k).testBit j = if j < i then (gn S k).testBit j else decide (j - i < g.length ∧ gi g (j - i) = (k : Int))
 | [], i, S, S', h, hb, k, j => by
  cases h
  split
  ·
   rfl
  ·
   rw [Nat.testBit_lt_two_pow (Nat.lt_of_lt_of_le (hb k) (Nat.pow_le_pow_right oM oM))]
   simp
 | x :: g, i, S, S', h, hb, k, j => by
  rw [setsN] at h
  split at h
  ·
   cases h
  ·
   rename_i h2
   rw [setsN_bit g _ _ _ h (putN_lt hb) k j, putN_gn oM]
   have hf : (gn S k).testBit i = false := Nat.testBit_lt_two_pow (hb k)
   rcases Nat.lt_trichotomy j i with hj | hj | hj
   ·
    rw [if_pos (show j < i + 1 by omega), if_pos hj]
    split
    ·
     rw [Nat.testBit_or, Nat.testBit_two_pow]
     simp; omega
    ·
     rfl
   ·
    subst hj
    rw [if_pos (show j < j + 1 by omega), if_neg (show ¬ j < j by omega), Nat.sub_self]
    have e0 : gi (x :: g) 0 = x := rfl
    rw [e0]
    by_cases e : k = x.toNat
    ·
     rw [if_pos e, Nat.testBit_or, Nat.testBit_two_pow, hf]
     simp
     omega
    ·
     rw [if_neg e, hf]
     simp
     omega
   ·
    rw [if_neg (show ¬ j < i + 1 by omega), if_neg (show ¬ j < i by omega)]
    have e0 : j - i = (j - (i + 1)) + 1 := by omega
    rw [e0]
    have e1 : gi (x :: g) (j - (i + 1) + 1) = gi g (j - (i + 1)) := rfl
    rw [e1]
    simp
theorem on_sel {c G : List Int} (hl : G.length = c.length) {S : List Nat} (h : setsN G 0 [] = some S) (k : Nat) : onL c (gn S k) = selK c G k G.length := by
 unfold onL onK selK
 rw [← hl]
 congr 1
 refine List.filter_congr fun i hi => ?_
 rw [setsN_bit G 0 [] S h (fun j => by simp [gn]) k i, if_neg oM, Nat.sub_zero]
 simp at hi
 simp [hi]
theorem few_nn {l : List Int} {slots : Int} (h : CO l) (hs : ¬ slots < (l.length : Int)) : 0 ≤ fewN l slots := by
 by_cases h0 : l.length = 0
 ·
  rw [fewN_nil h0]; omega
 ·
  have := (fewN_spec (slots := slots) h oM h0).1.1
  omega
theorem rsumL_skip {c : List Int} {slots plate : Int} {G : List Int} : ∀ (l : List Nat) (a : Int), (∀ k ∈ l, (selK c G k G.length).length = 0) → rsumL c slots plate G l a = (a, true)
 | [], _, _ => rfl
 | k :: l, a, h => by
  rw [rsumL, if_pos (h k (List.mem_cons_self ..))]
  exact rsumL_skip l a fun x hx => h x (List.mem_cons_of_mem _ hx)
theorem gn_out {S : List Nat} {k : Nat} (h : S.length ≤ k) : gn S k = 0 := by
 rw [gn, List.getD_eq_getElem?_getD, List.getElem?_eq_none h]; rfl
theorem sum_eq {c G : List Int} {slots plate : Int} (hc : chkC c slots plate = 0) (hl : G.length = c.length) {S : List Nat} (h : setsN G 0 [] = some S) : ∀ (r k : Nat) (K : List Nat) (a : Int), k + r = S.length → ((sumK c slots plate (S.drop k) K a).1, (sumK c slots plate (S.drop k) K a).2.1) = rsumL c slots plate G ((List.range G.length).drop k) a := by
 obtain ⟨l8, hco, hsl, hpl⟩ := chkC_inv hc
 have hlen := setsN_len G 0 [] S h
 intro r
 induction r with
 | zero =>
  intro k K a hk
  rw [List.drop_eq_nil_of_le oM, sumK, rsumL_skip]
  intro x hx
  have hx : k ≤ x := by
   obtain ⟨i, hi, rfl⟩ := List.mem_iff_getElem.1 hx
   simp
  rw [← on_sel hl h, gn_out oM]
  simp [onL, onK]
 | succ r ih =>
  intro k K a hk
  simp only [List.length_nil, Nat.zero_add] at hlen
  rw [gn_drop oM, range_drop oM, sumK, rsumL, ← on_sel hl h]
  have hne := setsN_ne G 0 [] S h (by simp) k oM
  have h0 : ¬ (onL c (gn S k)).length = 0 := by
   rw [on_sel hl h]
   obtain ⟨j, hj⟩ := Nat.exists_testBit_of_ne_zero hne
   rw [setsN_bit G 0 [] S h (fun j => by simp [gn]) k j, if_neg oM, Nat.sub_zero] at hj
   have hj := of_decide_eq_true hj
   intro e
   have e := List.eq_nil_of_length_eq_zero e
   have : gi c j ∈ selK c G k G.length := by
    simp only [selK, List.mem_map, List.mem_filter, List.mem_range]
    exact ⟨j, ⟨hj.1, by simpa using hj.2⟩, rfl⟩
   rw [e] at this
   cases this
  rw [if_neg h0]
  by_cases h1 : slots < ((onL c (gn S k)).length : Int)
  ·
   rw [if_pos h1, costN, if_pos h1, if_pos oM]
  ·
   have hf := few_nn (onK_co (s := gn S k) hco (Nat.le_refl _)) h1
   have hf : 0 ≤ fewN (onL c (gn S k)) slots := hf
   rw [if_neg h1, costN, if_neg h1, if_neg oM, ih (k + 1) _ _ oM]
   congr 1
   omega
theorem cost_eq {c G : List Int} {slots plate : Int} (hc : chkC c slots plate = 0) (hl : G.length = c.length) {S : List Nat} (h : setsN G 0 [] = some S) (K : List Nat) : (sumK c slots plate S K 0).1 = (rcostV c slots plate G).1 ∧ (sumK c slots plate S K 0).2.1 = (rcostV c slots plate G).2 := by
 have := sum_eq hc hl h S.length 0 K 0 oM
 rw [List.drop_zero, List.drop_zero] at this
 exact ⟨congrArg Prod.fst this, congrArg Prod.snd this⟩
theorem costG_eq (c : List Int) (slots plate : Int) (g : List Int) : costG c slots plate g = rcostG c slots plate g := by
 unfold costG rcostG
 split
 ·
  rfl
 ·
  rename_i h0
  split
  ·
   rfl
  ·
   rename_i h1
   have hc : chkC c slots plate = 0 := Decidable.not_not.1 h0
   have hl : g.length = c.length := Decidable.not_not.1 h1
   have hi := setsN_isG g 0 []
   cases e : setsN g 0 [] with
   | none =>
    rw [e] at hi
    have hi : false = isGN g 0 := hi
    rw [if_pos hi.symm]
   | some S =>
    rw [e] at hi
    have hi : true = isGN g 0 := hi
    rw [if_neg (by rw [← hi]; simp)]
    obtain ⟨q1, q2⟩ := cost_eq hc hl e []
    simp only [q1, q2]
theorem cmbR_assoc (a b r : List Int × Int × Bool) : cmbR (cmbR a b) r = cmbR a (cmbR b r) := by
 obtain ⟨a1, a2, a3⟩ := a
 obtain ⟨b1, b2, b3⟩ := b
 obtain ⟨r1, r2, r3⟩ := r
 unfold cmbR
 cases a3 <;> cases b3 <;> cases r3 <;> simp
 all_goals
  by_cases h1 : r2 < b2 <;> by_cases h2 : b2 < a2 <;> by_cases h3 : r2 < a2 <;> simp [h1, h2, h3] <;> omega
theorem cmbR_ok {a r : List Int × Int × Bool} (h : r.2.2 = true) : (cmbR a r).2.2 = true := by
 unfold cmbR
 split
 ·
  exact h
 ·
  rename_i h2
  cases e : a.2.2 with
  | true => rfl
  | false => exact absurd ⟨h, .inl e⟩ h2
theorem cmbR_nil (a : List Int × Int × Bool) : cmbR a ([], 0, false) = a := by
 unfold cmbR
 rw [if_neg (fun h => by cases h.1)]
theorem cmbR_init {r : List Int × Int × Bool} (h : r.2.2 = true) : cmbR ([], 0, false) r = r := by
 unfold cmbR
 rw [if_pos ⟨h, .inl rfl⟩]
def Corr (st : List Nat × Int × List Nat) (a : List Int × Int × Bool) : Prop := (a.2.2 = false ∧ st.2.1 = -1) ∨ (a.2.2 = true ∧ natI st.1 = a.1 ∧ st.2.1 = a.2.1 ∧ 0 ≤ a.2.1)
theorem setsN_snoc : ∀ (g : List Int) (x : Int) (i : Nat) (S S' : List Nat), setsN g i S = some S' → ¬ (x < 0 ∨ (S'.length : Int) < x) → setsN (g ++ [x]) i S = some (putN S' x.toNat (i + g.length))
 | [], x, i, S, S', h, hx => by
  cases h
  rw [List.nil_append, setsN, if_neg hx, setsN]
  rfl
 | y :: g, x, i, S, S', h, hx => by
  rw [setsN] at h
  rw [List.cons_append, setsN]
  split at h
  ·
   cases h
  ·
   rename_i h2
   rw [if_neg h2, setsN_snoc g x _ _ _ h hx, List.length_cons]
   congr 2
   omega
theorem rsumL_nn {c G : List Int} {slots plate : Int} (hco : CO c) (hp : 0 ≤ plate) (hl : G.length = c.length) : ∀ (l : List Nat) (a : Int), 0 ≤ a → 0 ≤ (rsumL c slots plate G l a).1
 | [], a, h => h
 | k :: l, a, h => by
  rw [rsumL]
  split
  ·
   exact rsumL_nn hco hp hl l a h
  ·
   split
   ·
    exact Int.le_refl _
   ·
    rename_i h1
    have := few_nn (selK_co (G := G) (k := k) hco (n := G.length) oM) h1
    exact rsumL_nn hco hp hl l _ oM
theorem natI_len (l : List Nat) : (natI l).length = l.length := by simp [natI]
theorem natI_app (l : List Nat) (k : Nat) : natI (l ++ [k]) = natI l ++ [(k : Int)] := by simp [natI]
theorem next_corr {c : List Int} {slots plate : Int} (hc : chkC c slots plate = 0) : ∀ (d : Nat) (g S : List Nat) (st : List Nat × Int × List Nat) (a : List Int × Int × Bool), g.length + d = c.length → setsN (natI g) 0 [] = some S → Corr st a → Corr (nextG c slots plate d g S st) (cmbR a (bestR c slots plate d (natI g) S.length)) := by
 obtain ⟨l8, hco, hsl, hpl⟩ := chkC_inv hc
 intro d
 induction d with
 | zero =>
  intro g S st a hd hS hC
  have hl : (natI g).length = c.length := by rw [natI_len]; omega
  obtain ⟨q1, q2⟩ := cost_eq hc hl hS st.2.2
  have q3 : 0 ≤ (rcostV c slots plate (natI g)).1 := rsumL_nn hco hpl.1 hl _ 0 (Int.le_refl _)
  rw [nextG, bestR, cmbR, q1, q2]
  simp only
  by_cases h : (rcostV c slots plate (natI g)).2 = true ∧ (a.2.2 = false ∨ (rcostV c slots plate (natI g)).1 < a.2.1)
  ·
   rw [if_pos h, if_pos]
   ·
    exact .inr ⟨h.1, rfl, rfl, q3⟩
   ·
    refine ⟨h.1, ?_⟩
    rcases hC with ⟨h1, h2⟩ | ⟨h1, h2, h3, h4⟩
    ·
     exact .inl oM
    ·
     rcases h.2 with h5 | h5
     ·
      rw [h1] at h5; cases h5
     ·
      exact .inr oM
  ·
   rw [if_neg h, if_neg]
   ·
    exact hC
   ·
    rintro ⟨h5, h6⟩
    refine h ⟨h5, ?_⟩
    rcases hC with ⟨h1, h2⟩ | ⟨h1, h2, h3, h4⟩
    ·
     exact .inl h1
    ·
     rcases h6 with h6 | h6
     ·
      omega
     ·
      exact .inr oM
 | succ d ih =>
  intro g S st a hd hS hC
  show Corr (nextR c slots plate d g S st (S.length + 1)) (cmbR a (bestF c slots plate d (natI g) S.length (S.length + 1)))
  have key : ∀ n, n ≤ S.length + 1 → Corr (nextR c slots plate d g S st n) (cmbR a (bestF c slots plate d (natI g) S.length n)) := by
   intro n
   induction n with
   | zero => intro _; show Corr st (cmbR a ([], 0, false)); rw [cmbR_nil]; exact hC
   | succ n ihn =>
    intro hn
    have h1 := ihn oM
    have hS2 : setsN (natI (g ++ [n])) 0 [] = some (putN S n g.length) := by
     rw [natI_app, setsN_snoc _ _ _ _ _ hS oM, natI_len, Nat.zero_add, Int.toNat_natCast]
    have h2 := ih (g ++ [n]) (putN S n g.length) _ _ (by simp; omega) hS2 h1
    rw [nextR_succ, bestF_succ, ← cmbR_assoc]
    rw [natI_app, putN_len, opnN_len oM] at h2
    rw [show max S.length (n + 1) = if n = S.length then S.length + 1 else S.length by split <;> omega]
    exact h2
  exact key _ (Nat.le_refl _)
theorem sel_few {c G : List Int} (k : Nat) : ∀ m, (∀ i, i < m → gi G i = (i : Int)) → (selK c G k m).length ≤ if k < m then 1 else 0
 | 0, _ => by simp [selK]
 | m + 1, h => by
  have := sel_few (c := c) (G := G) k m fun i hi => h i oM
  have hm := h m oM
  rw [selK_succ]
  split
  ·
   rename_i e
   rw [hm] at e
   rw [List.length_append, if_pos (show k < m + 1 by omega)]
   rw [if_neg (show ¬ k < m by omega)] at this
   simp only [List.length_singleton]
   omega
  ·
   rename_i e
   split at this
   ·
    rw [if_pos (show k < m + 1 by omega)]; exact this
   ·
    exact Nat.le_trans this (Nat.zero_le _)
theorem rsumL_ok {c G : List Int} {slots plate : Int} (h : ∀ k, ((selK c G k G.length).length : Int) ≤ slots) : ∀ (l : List Nat) (a : Int), (rsumL c slots plate G l a).2 = true
 | [], _ => rfl
 | k :: l, a => by
  rw [rsumL]
  split
  ·
   exact rsumL_ok h l a
  ·
   rw [if_neg (by have := h k; omega)]
   exact rsumL_ok h l _
theorem best_found {c : List Int} {slots plate : Int} (hc : chkC c slots plate = 0) : ∀ (d i : Nat), i + d = c.length → (bestR c slots plate d (natI (List.range i)) i).2.2 = true := by
 obtain ⟨l8, hco, hsl, hpl⟩ := chkC_inv hc
 intro d
 induction d with
 | zero =>
  intro i hi
  show (rsumL c slots plate _ _ _).2 = true
  refine rsumL_ok (fun k => ?_) _ _
  have := sel_few (c := c) (G := natI (List.range i)) k (natI (List.range i)).length fun j hj => by
   rw [natI_len, List.length_range] at hj
   simp [natI, gi, List.getD_eq_getElem?_getD, List.getElem?_range, hj]
  split at this <;> omega
 | succ d ih =>
  intro i hi
  show (bestF c slots plate d _ i (i + 1)).2.2 = true
  rw [bestF_succ]
  refine cmbR_ok ?_
  have := ih (i + 1) oM
  rw [List.range_succ, natI_app] at this
  rw [show max i (i + 1) = i + 1 by omega]
  exact this
theorem gangV_eq (c : List Int) (slots plate : Int) : gangV c slots plate = rgangV c slots plate := by
 unfold gangV rgangV
 split
 ·
  rfl
 ·
  rename_i h0
  have hc : chkC c slots plate = 0 := Decidable.not_not.1 h0
  have hf : (bestR c slots plate c.length [] 0).2.2 = true := best_found hc c.length 0 oM
  have := next_corr hc c.length [] [] ([], -1, []) ([], 0, false) (by simp) rfl (.inl ⟨rfl, rfl⟩)
  have this : Corr _ (cmbR ([], 0, false) (bestR c slots plate c.length [] 0)) := this
  rw [cmbR_init hf] at this
  rcases this with ⟨h1, _⟩ | ⟨_, h2, h3, _⟩
  ·
   rw [hf] at h1; cases h1
  ·
   split
   ·
    rename_i h4
    obtain rfl : c = [] := List.eq_nil_of_length_eq_zero h4
    rfl
   ·
    rw [h2, h3]
end Go.Ab

namespace Go.Ab
open Go.RowKit Go.Dw
def Ob.isC : Ob → Prop
 | .row _ _ n r => ∀ i, i < n → ∀ u ∈ r i, u.isC = true
 | _ => False
section
variable {P : Program} {N : Nat} {C : Cx P N} {ops : Array Oper} {nx : Nat} {os : List Oper} {tm : Nat → V} {σ : Nat → Option Ob} {ks : List (List Nat × List Nat)} {K : (Nat → V) → (Nat → Option Ob) → List (List Nat × List Nat) → Prop} {ty : TypeId} {pos : String} {af : Array Edge}
end
end Go.Ab

namespace Go.Ab
open Go.RowKit Go.Dw
theorem few_mono {l : List Int} (h : CO l) {s s' : Int} (hs : ¬ s < (l.length : Int)) (hss : s ≤ s') : fewN l s' ≤ fewN l s := by
 by_cases h0 : l.length = 0
 ·
  rw [fewN_nil h0, fewN_nil h0]; exact Int.le_refl _
 ·
  have r := (fewN_spec (slots := s) h oM h0).1
  have r' := (fewN_spec (slots := s') h oM h0).1
  by_cases hx : fewN l s < fewN l s'
  ·
   have := r'.least _ r.pos hx
   have := r.ok
   omega
  ·
   omega
theorem rsumL_mono {c G : List Int} {s s' p p' : Int} (hco : CO c) (hl : G.length = c.length) (hs : s ≤ s') (hp : p' ≤ p) : ∀ (l : List Nat) (a a' : Int), a' ≤ a → (rsumL c s p G l a).2 = true → (rsumL c s' p' G l a').2 = true ∧ (rsumL c s' p' G l a').1 ≤ (rsumL c s p G l a).1
 | [], a, a', h, _ => ⟨rfl, h⟩
 | k :: l, a, a', h, ho => by
  rw [rsumL] at ho ⊢
  rw [rsumL]
  by_cases h0 : (selK c G k G.length).length = 0
  ·
   rw [if_pos h0] at ho ⊢
   rw [if_pos h0]
   exact rsumL_mono hco hl hs hp l a a' h ho
  ·
   rw [if_neg h0] at ho ⊢
   rw [if_neg h0]
   by_cases h1 : s < ((selK c G k G.length).length : Int)
   ·
    rw [if_pos h1] at ho; cases ho
   ·
    rw [if_neg h1] at ho ⊢
    rw [if_neg oM]
    have := few_mono (selK_co (G := G) (k := k) hco (n := G.length) oM) h1 hs
    exact rsumL_mono hco hl hs hp l _ _ oM ho
def befN : List Int → List Int → Bool
 | x :: a, y :: b => if x ≠ y then decide (x < y) else befN a b
 | _, _ => false
theorem befN_app : ∀ (g a b : List Int), befN (g ++ a) (g ++ b) = befN a b
 | [], _, _ => rfl
 | x :: g, a, b => by
  rw [List.cons_append, List.cons_append, befN, if_neg (by simp)]
  exact befN_app g a b
theorem befN_drop {a b : List Int} {k : Nat} (h : k < a.length) (h2 : k < b.length) : befN (a.drop k) (b.drop k) = if gi a k ≠ gi b k then decide (gi a k < gi b k) else befN (a.drop (k + 1)) (b.drop (k + 1)) := by
 rw [List.drop_eq_getElem_cons h, List.drop_eq_getElem_cons h2, befN]
 simp [gi, List.getD_eq_getElem?_getD, List.getElem?_eq_getElem h, List.getElem?_eq_getElem h2]
theorem befN_end {a b : List Int} {k : Nat} (h : ¬ (k < a.length ∧ k < b.length)) : befN (a.drop k) (b.drop k) = false := by
 rcases Nat.lt_or_ge k a.length with h1 | h1
 ·
  have e : b.drop k = [] := List.drop_eq_nil_of_le oM
  rw [e]
  cases a.drop k <;> rfl
 ·
  rw [List.drop_eq_nil_of_le h1]
  rfl
theorem befN_self : ∀ g : List Int, befN g g = false
 | [] => rfl
 | x :: g => by rw [befN, if_neg (by simp)]; exact befN_self g
theorem bestF_pick (c : List Int) (s p : Int) (d : Nat) (g : List Int) (u : Nat) : ∀ n, ((bestF c s p d g u n).2.2 = false ∧ ∀ k : Nat, k < n → (bestR c s p d (g ++ [(k : Int)]) (max u (k + 1))).2.2 = false) ∨
  ∃ q : Nat, q < n ∧ bestF c s p d g u n = bestR c s p d (g ++ [(q : Int)]) (max u (q + 1)) ∧ (bestR c s p d (g ++ [(q : Int)]) (max u (q + 1))).2.2 = true ∧
   ∀ k : Nat, k < n → (bestR c s p d (g ++ [(k : Int)]) (max u (k + 1))).2.2 = true → (bestR c s p d (g ++ [(q : Int)]) (max u (q + 1))).2.1 ≤ (bestR c s p d (g ++ [(k : Int)]) (max u (k + 1))).2.1 ∧ ((bestR c s p d (g ++ [(q : Int)]) (max u (q + 1))).2.1 = (bestR c s p d (g ++ [(k : Int)]) (max u (k + 1))).2.1 → q ≤ k) := by
 intro n
 induction n with
 | zero => exact .inl ⟨rfl, fun k hk => by omega⟩
 | succ n ih =>
  rw [bestF_succ, cmbR]
  by_cases ho : (bestR c s p d (g ++ [(n : Int)]) (max u (n + 1))).2.2 = true ∧ ((bestF c s p d g u n).2.2 = false ∨ (bestR c s p d (g ++ [(n : Int)]) (max u (n + 1))).2.1 < (bestF c s p d g u n).2.1)
  ·
   rw [if_pos ho]
   refine .inr ⟨n, by omega, rfl, ho.1, fun k hk hf => ?_⟩
   rcases Nat.lt_or_ge k n with h1 | h1
   ·
    rcases ih with ⟨i1, i2⟩ | ⟨q, hq, i1, i2, i3⟩
    ·
     rw [i2 k h1] at hf; cases hf
    ·
     have := i3 k h1 hf
     rw [i1] at ho
     rcases ho.2 with h2 | h2
     ·
      rw [i2] at h2; cases h2
     ·
      exact ⟨by omega, fun e => by omega⟩
   ·
    obtain rfl : k = n := by omega
    exact ⟨Int.le_refl _, fun _ => Nat.le_refl _⟩
  ·
   rw [if_neg ho]
   rcases ih with ⟨i1, i2⟩ | ⟨q, hq, i1, i2, i3⟩
   ·
    refine .inl ⟨i1, fun k hk => ?_⟩
    rcases Nat.lt_or_ge k n with h1 | h1
    ·
     exact i2 k h1
    ·
     obtain rfl : k = n := by omega
     cases e : (bestR c s p d (g ++ [(k : Int)]) (max u (k + 1))).2.2 with
     | false => rfl
     | true => exact absurd ⟨e, .inl i1⟩ ho
   ·
    refine .inr ⟨q, by omega, i1, i2, fun k hk hf => ?_⟩
    rcases Nat.lt_or_ge k n with h1 | h1
    ·
     exact i3 k h1 hf
    ·
     obtain rfl : k = n := by omega
     rw [i1] at ho
     exact ⟨Int.not_lt.1 fun h => ho ⟨hf, .inr h⟩, fun _ => by omega⟩
theorem best_in (c : List Int) (s p : Int) : ∀ (d : Nat) (g : List Int) (u : Nat), (bestR c s p d g u).2.2 = true → ∃ t, (bestR c s p d g u).1 = g ++ t ∧ t.length = d ∧ isGN t u = true ∧ rcostV c s p (g ++ t) = ((bestR c s p d g u).2.1, true) := by
 intro d
 induction d with
 | zero =>
  intro g u h
  refine ⟨[], (List.append_nil g).symm, rfl, rfl, ?_⟩
  rw [List.append_nil]
  have h : (rcostV c s p g).2 = true := h
  exact Prod.ext rfl h
 | succ d ih =>
  intro g u h
  have h : (bestF c s p d g u (u + 1)).2.2 = true := h
  show ∃ t, (bestF c s p d g u (u + 1)).1 = g ++ t ∧ t.length = d + 1 ∧ isGN t u = true ∧ rcostV c s p (g ++ t) = ((bestF c s p d g u (u + 1)).2.1, true)
  rcases bestF_pick c s p d g u (u + 1) with ⟨i1, _⟩ | ⟨q, hq, i1, i2, _⟩
  ·
   rw [i1] at h; cases h
  ·
   obtain ⟨t, t1, t2, t3, t4⟩ := ih _ _ i2
   refine ⟨(q : Int) :: t, by rw [i1, t1]; simp, by simp [t2], ?_, ?_⟩
   ·
    rw [isGN, if_neg oM]
    have e : (if (q : Int) = (u : Int) then (u : Int) + 1 else u) = ((max u (q + 1) : Nat) : Int) := by split <;> omega
    rw [e]
    exact t3
   ·
    rw [i1, ← t4]; simp
theorem best_le (c : List Int) (s p : Int) : ∀ (d : Nat) (g : List Int) (u : Nat) (t : List Int), t.length = d → isGN t u = true → (rcostV c s p (g ++ t)).2 = true → (bestR c s p d g u).2.2 = true ∧ (bestR c s p d g u).2.1 ≤ (rcostV c s p (g ++ t)).1 ∧ ((bestR c s p d g u).2.1 = (rcostV c s p (g ++ t)).1 → befN (g ++ t) (bestR c s p d g u).1 = false) := by
 intro d
 induction d with
 | zero =>
  intro g u t ht hg ho
  obtain rfl := List.eq_nil_of_length_eq_zero ht
  rw [List.append_nil] at ho ⊢
  exact ⟨ho, Int.le_refl _, fun _ => befN_self g⟩
 | succ d ih =>
  intro g u t ht hg ho
  match t, ht with
  | x :: t, ht =>
   rw [isGN] at hg
   by_cases hx : x < 0 ∨ (u : Int) < x
   ·
    rw [if_pos hx] at hg; cases hg
   rw [if_neg hx] at hg
   obtain ⟨k, rfl⟩ : ∃ k : Nat, x = k := ⟨x.toNat, by omega⟩
   have e : (if (k : Int) = (u : Int) then (u : Int) + 1 else u) = ((max u (k + 1) : Nat) : Int) := by split <;> omega
   rw [e] at hg
   have ea : g ++ (k : Int) :: t = (g ++ [(k : Int)]) ++ t := by simp
   rw [ea] at ho ⊢
   obtain ⟨j1, j2, j3⟩ := ih (g ++ [(k : Int)]) (max u (k + 1)) t (by simpa using ht) hg ho
   show (bestF c s p d g u (u + 1)).2.2 = true ∧ (bestF c s p d g u (u + 1)).2.1 ≤ _ ∧ ((bestF c s p d g u (u + 1)).2.1 = _ → befN _ (bestF c s p d g u (u + 1)).1 = false)
   rcases bestF_pick c s p d g u (u + 1) with ⟨i1, i2⟩ | ⟨q, hq, i1, i2, i3⟩
   ·
    rw [i2 k oM] at j1; cases j1
   ·
    rw [i1]
    obtain ⟨m1, m2⟩ := i3 k oM j1
    refine ⟨i2, by omega, fun hm => ?_⟩
    have h1 : q ≤ k := m2 oM
    rcases Nat.eq_or_lt_of_le h1 with h2 | h2
    ·
     subst h2
     exact j3 hm
    ·
     obtain ⟨tt, t1, _⟩ := best_in c s p _ _ _ i2
     rw [t1, List.append_assoc, List.append_assoc, befN_app]
     show befN ((k : Int) :: t) ((q : Int) :: tt) = false
     rw [befN, if_pos oM]
     simp; omega
theorem best_all {c : List Int} {s p : Int} (hc : chkC c s p = 0) : ∃ b m, rgangV c s p = (b, m) ∧ b.length = c.length ∧ isGN b 0 = true ∧ rcostV c s p b = (m, true) ∧
  (∀ t : List Int, t.length = c.length → isGN t 0 = true → (rcostV c s p t).2 = true → m ≤ (rcostV c s p t).1 ∧ (m = (rcostV c s p t).1 → befN t b = false)) ∧
  ∀ s' p', chkC c s' p' = 0 → s ≤ s' → p' ≤ p → (rgangV c s' p').2 ≤ m := by
 have hf : (bestR c s p c.length [] 0).2.2 = true := best_found hc c.length 0 oM
 obtain ⟨l8, hco, _, _⟩ := chkC_inv hc
 obtain ⟨t, t1, t2, t3, t4⟩ := best_in c s p _ _ _ hf
 rw [List.nil_append] at t1 t4
 refine ⟨t, (bestR c s p c.length [] 0).2.1, ?_, t2, t3, t4, fun x hx hg ho => ?_, fun s' p' hc' hs hp => ?_⟩
 ·
  rw [rgangV, if_neg (by simp [hc]), t1]
 ·
  obtain ⟨_, q2, q3⟩ := best_le c s p _ [] 0 x hx hg ho
  rw [t1] at q3
  exact ⟨q2, q3⟩
 ·
  rw [rgangV, if_neg (by simp [hc'])]
  have hm := rsumL_mono (G := t) hco t2 hs hp (List.range t.length) 0 0 (Int.le_refl _) (by rw [← rcostV, t4])
  obtain ⟨_, q2, _⟩ := best_le c s' p' _ [] 0 t t2 t3 hm.1
  have h1 : (rcostV c s' p' t).1 ≤ (rcostV c s p t).1 := hm.2
  rw [t4] at h1
  exact Int.le_trans q2 h1
def cgK (by' : List Int) (i u : Nat) : Nat := if i < by'.length then ((gi by' i).tmod ((u : Int) + 1)).toNat else u
def cgL (by' : List Int) : Nat → List Int × Nat
 | 0 => ([], 0)
 | i + 1 => ((cgL by' i).1 ++ [(cgK by' i (cgL by' i).2 : Int)], max (cgL by' i).2 (cgK by' i (cgL by' i).2 + 1))
theorem cgK_le {by' : List Int} (h : ∀ x ∈ by', 0 ≤ x) (i u : Nat) : cgK by' i u ≤ u := by
 unfold cgK
 split
 ·
  rename_i hi
  have h0 : 0 ≤ gi by' i := by
   rw [gi, List.getD_eq_getElem?_getD, List.getElem?_eq_getElem hi]
   exact h _ (List.getElem_mem _)
  have := Int.tmod_lt_of_pos (gi by' i) (show (0 : Int) < (u : Int) + 1 by omega)
  omega
 ·
  exact Nat.le_refl _
theorem cgL_len (by' : List Int) : ∀ i, (cgL by' i).1.length = i
 | 0 => rfl
 | i + 1 => by rw [cgL, List.length_append, cgL_len by' i]; rfl
theorem cgL_u {by' : List Int} (h : ∀ x ∈ by', 0 ≤ x) : ∀ i, (cgL by' i).2 ≤ i
 | 0 => Nat.le_refl _
 | i + 1 => by
  have := cgL_u h i
  have := cgK_le h i (cgL by' i).2
  rw [cgL]
  simp only
  omega
theorem cgL_is {by' : List Int} (h : ∀ x ∈ by', 0 ≤ x) : ∀ i t, isGN ((cgL by' i).1 ++ t) 0 = isGN t (cgL by' i).2
 | 0, _ => rfl
 | i + 1, t => by
  have hk := cgK_le h i (cgL by' i).2
  rw [cgL, List.append_assoc, cgL_is h i]
  show isGN ((cgK by' i (cgL by' i).2 : Int) :: t) _ = _
  rw [isGN, if_neg oM]
  congr 1
  split <;> simp only <;> omega
theorem chk_ok2 {c : List Int} {n p : Int} (h : CO c) (hl : c.length ≤ 8) (hn : 1 ≤ n ∧ n ≤ 64) (hp : 0 ≤ p ∧ p ≤ 65535) : chkC c n p = 0 := by
 refine chkC_4 oM (fun i hi => ?_) ?_
 ·
  have := h.gi hi
  simp [copB, outB]; omega
 ·
  simp [outB]; omega
theorem rcostG_ok {c : List Int} {n p : Int} {g : List Int} {m : Int} {o : Bool} (hc : chkC c n p = 0) (hl : g.length = c.length) (hg : isGN g 0 = true) (h : rcostV c n p g = (m, o)) : rcostG c n p g = if o = true then (m, 0) else (0, 14) := by
 rw [rcostG, if_neg (by simp [hc]), if_neg (by simp [hl]), if_neg (by simp [hg]), h]
theorem cg_row {o : List Int} {i : Nat} (ho : o.length = i) {x k : Int} (hx : x = k) {j : Nat} (hj : j < i + 1) : appRow i (fun k => [V.i (gi o k)]) (fun i => List.take 1 (List.drop (i * 1) [V.i x])) j = [V.i (gi (o ++ [k]) j)] := by
 subst ho hx
 rw [appRow]
 simp only [gi, List.getD_eq_getElem?_getD, List.getElem?_append]
 by_cases h2 : j < o.length
 ·
  rw [if_pos h2, if_pos h2]
 ·
  rw [if_neg h2, if_neg h2, show j - o.length = 0 by omega]; rfl
end Go.Ab
