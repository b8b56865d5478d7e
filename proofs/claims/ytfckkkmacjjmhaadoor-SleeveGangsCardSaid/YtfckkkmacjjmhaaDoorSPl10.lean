/-
  Gangs: both copies find the same. No condition.
-/
import Derived.Test.YtfckkkmacjjmhaaDoorX02
namespace Go.Ab
open Go.RowKit Go.Dw
def rcostG (c : List Int) (slots plate : Int) (g : List Int) : Int × Int :=
 if chkC c slots plate ≠ 0 then (0, chkC c slots plate) else if g.length ≠ c.length then (0, 17) else if isGN g 0 = false then (0, 2) else if (rcostV c slots plate g).2 = true then ((rcostV c slots plate g).1, 0) else (0, 14)
theorem opnN_gn (S : List Nat) (k j : Nat) : gn (opnN S k) j = gn S j := by
 unfold opnN
 split
 ·
  simp only [gn, List.getD_eq_getElem?_getD, List.getElem?_append]
  split
  ·
   rfl
  ·
   rename_i h1 h
   rw [List.getElem?_eq_none (l := S) oM]
   rcases Nat.eq_zero_or_pos (j - S.length) with h2 | h2
   ·
    rw [h2]; rfl
   ·
    rw [List.getElem?_eq_none (by simp; omega)]
 ·
  rfl
theorem putN_gn {S : List Nat} {k : Nat} (h : k ≤ S.length) (i j : Nat) : gn (putN S k i) j = if j = k then gn S j ||| 2 ^ i else gn S j := by
 rw [putN, gn_set, opnN_gn, opnN_gn]
 by_cases e : j = k
 ·
  rw [if_pos ⟨e, opnN_klt h⟩, if_pos e, e]
 ·
  rw [if_neg (fun q => e q.1), if_neg e]
theorem setsN_isG : ∀ (g : List Int) (i : Nat) (S : List Nat), (setsN g i S).isSome = isGN g S.length
 | [], _, _ => rfl
 | x :: g, i, S => by
  rw [setsN, isGN]
  by_cases h : x < 0 ∨ (S.length : Int) < x
  ·
   rw [if_pos h, if_pos h]; rfl
  ·
   rw [if_neg h, if_neg h, setsN_isG g]
   congr 1
   rw [putN_len, opnN_len oM]
   by_cases h2 : x = S.length
   ·
    rw [if_pos oM, if_pos h2]; omega
   ·
    rw [if_neg oM, if_neg h2]
theorem setsN_len : ∀ (g : List Int) (i : Nat) (S S' : List Nat), setsN g i S = some S' → S'.length ≤ S.length + g.length
 | [], _, S, S', h => by cases h; exact Nat.le_refl _
 | x :: g, i, S, S', h => by
  rw [setsN] at h
  split at h
  ·
   cases h
  ·
   rename_i h2
   have := setsN_len g _ _ _ h
   rw [putN_len, opnN_len oM] at this
   split at this <;> simp <;> omega
theorem setsN_ne : ∀ (g : List Int) (i : Nat) (S S' : List Nat), setsN g i S = some S' → (∀ k, k < S.length → gn S k ≠ 0) → ∀ k, k < S'.length → gn S' k ≠ 0
 | [], _, S, S', h, hn => by cases h; exact hn
 | x :: g, i, S, S', h, hn => by
  rw [setsN] at h
  split at h
  ·
   cases h
  ·
   rename_i h2
   refine setsN_ne g _ _ _ h fun k hk => ?_
   rw [putN_len, opnN_len oM] at hk
   rw [putN_gn oM]
   have h0 : 0 < 2 ^ i := Nat.pow_pos oM
   split
   ·
    intro e
    have : 2 ^ i ≤ gn S k ||| 2 ^ i := Nat.right_le_or
    omega
   ·
    split at hk
    ·
     exact hn k oM
    ·
     exact hn k hk
theorem setsN_bit : ∀ (g : List Int) (i : Nat) (S S' : List Nat), setsN g i S = some S' → (∀ j, gn S j < 2 ^ i) → ∀ k j, (gn S' k).testBit j = if j < i then (gn S k).testBit j else decide (j - i < g.length ∧ gi g (j - i) = (k : Int))
 | [], i, S, S', h, hb, k, j => by
  cases h
  split
  ·
   rfl
  ·
   rw [Nat.testBit_lt_two_pow (Nat.lt_of_lt_of_le (hb k) (Nat.pow_le_pow_right oM oM))]
   simp
 | x :: g, i, S, S', h, hb, k, j => by
  rw [setsN] at h
  split at h
  ·
   cases h
  ·
   rename_i h2
   rw [setsN_bit g _ _ _ h (putN_lt hb) k j, putN_gn oM]
   have hf : (gn S k).testBit i = false := Nat.testBit_lt_two_pow (hb k)
   rcases Nat.lt_trichotomy j i with hj | hj | hj
   ·
    rw [if_pos (show j < i + 1 by omega), if_pos hj]
    split
    ·
     rw [Nat.testBit_or, Nat.testBit_two_pow]
     simp; omega
    ·
     rfl
   ·
    subst hj
    rw [if_pos (show j < j + 1 by omega), if_neg (show ¬ j < j by omega), Nat.sub_self]
    have e0 : gi (x :: g) 0 = x := rfl
    rw [e0]
    by_cases e : k = x.toNat
    ·
     rw [if_pos e, Nat.testBit_or, Nat.testBit_two_pow, hf]
     simp
     omega
    ·
     rw [if_neg e, hf]
     simp
     omega
   ·
    rw [if_neg (show ¬ j < i + 1 by omega), if_neg (show ¬ j < i by omega)]
    have e0 : j - i = (j - (i + 1)) + 1 := by omega
    rw [e0]
    have e1 : gi (x :: g) (j - (i + 1) + 1) = gi g (j - (i + 1)) := rfl
    rw [e1]
    simp
theorem on_sel {c G : List Int} (hl : G.length = c.length) {S : List Nat} (h : setsN G 0 [] = some S) (k : Nat) : onL c (gn S k) = selK c G k G.length := by
 unfold onL onK selK
 rw [← hl]
 congr 1
 refine List.filter_congr fun i hi => ?_
 rw [setsN_bit G 0 [] S h (fun j => by simp [gn]) k i, if_neg oM, Nat.sub_zero]
 simp at hi
 simp [hi]
theorem few_nn {l : List Int} {slots : Int} (h : CO l) (hs : ¬ slots < (l.length : Int)) : 0 ≤ fewN l slots := by
 by_cases h0 : l.length = 0
 ·
  rw [fewN_nil h0]; omega
 ·
  have := (fewN_spec (slots := slots) h oM h0).1.1
  omega
theorem rsumL_skip {c : List Int} {slots plate : Int} {G : List Int} : ∀ (l : List Nat) (a : Int), (∀ k ∈ l, (selK c G k G.length).length = 0) → rsumL c slots plate G l a = (a, true)
 | [], _, _ => rfl
 | k :: l, a, h => by
  rw [rsumL, if_pos (h k (List.mem_cons_self ..))]
  exact rsumL_skip l a fun x hx => h x (List.mem_cons_of_mem _ hx)
theorem gn_out {S : List Nat} {k : Nat} (h : S.length ≤ k) : gn S k = 0 := by
 rw [gn, List.getD_eq_getElem?_getD, List.getElem?_eq_none h]; rfl
theorem sum_eq {c G : List Int} {slots plate : Int} (hc : chkC c slots plate = 0) (hl : G.length = c.length) {S : List Nat} (h : setsN G 0 [] = some S) : ∀ (r k : Nat) (K : List Nat) (a : Int), k + r = S.length → ((sumK c slots plate (S.drop k) K a).1, (sumK c slots plate (S.drop k) K a).2.1) = rsumL c slots plate G ((List.range G.length).drop k) a := by
 obtain ⟨l8, hco, hsl, hpl⟩ := chkC_inv hc
 have hlen := setsN_len G 0 [] S h
 intro r
 induction r with
 | zero =>
  intro k K a hk
  rw [List.drop_eq_nil_of_le oM, sumK, rsumL_skip]
  intro x hx
  have hx : k ≤ x := by
   obtain ⟨i, hi, rfl⟩ := List.mem_iff_getElem.1 hx
   simp
  rw [← on_sel hl h, gn_out oM]
  simp [onL, onK]
 | succ r ih =>
  intro k K a hk
  simp only [List.length_nil, Nat.zero_add] at hlen
  rw [gn_drop oM, range_drop oM, sumK, rsumL, ← on_sel hl h]
  have hne := setsN_ne G 0 [] S h (by simp) k oM
  have h0 : ¬ (onL c (gn S k)).length = 0 := by
   rw [on_sel hl h]
   obtain ⟨j, hj⟩ := Nat.exists_testBit_of_ne_zero hne
   rw [setsN_bit G 0 [] S h (fun j => by simp [gn]) k j, if_neg oM, Nat.sub_zero] at hj
   have hj := of_decide_eq_true hj
   intro e
   have e := List.eq_nil_of_length_eq_zero e
   have : gi c j ∈ selK c G k G.length := by
    simp only [selK, List.mem_map, List.mem_filter, List.mem_range]
    exact ⟨j, ⟨hj.1, by simpa using hj.2⟩, rfl⟩
   rw [e] at this
   cases this
  rw [if_neg h0]
  by_cases h1 : slots < ((onL c (gn S k)).length : Int)
  ·
   rw [if_pos h1, costN, if_pos h1, if_pos oM]
  ·
   have hf := few_nn (onK_co (s := gn S k) hco (Nat.le_refl _)) h1
   have hf : 0 ≤ fewN (onL c (gn S k)) slots := hf
   rw [if_neg h1, costN, if_neg h1, if_neg oM, ih (k + 1) _ _ oM]
   congr 1
   omega
theorem cost_eq {c G : List Int} {slots plate : Int} (hc : chkC c slots plate = 0) (hl : G.length = c.length) {S : List Nat} (h : setsN G 0 [] = some S) (K : List Nat) : (sumK c slots plate S K 0).1 = (rcostV c slots plate G).1 ∧ (sumK c slots plate S K 0).2.1 = (rcostV c slots plate G).2 := by
 have := sum_eq hc hl h S.length 0 K 0 oM
 rw [List.drop_zero, List.drop_zero] at this
 exact ⟨congrArg Prod.fst this, congrArg Prod.snd this⟩
theorem costG_eq (c : List Int) (slots plate : Int) (g : List Int) : costG c slots plate g = rcostG c slots plate g := by
 unfold costG rcostG
 split
 ·
  rfl
 ·
  rename_i h0
  split
  ·
   rfl
  ·
   rename_i h1
   have hc : chkC c slots plate = 0 := Decidable.not_not.1 h0
   have hl : g.length = c.length := Decidable.not_not.1 h1
   have hi := setsN_isG g 0 []
   cases e : setsN g 0 [] with
   | none =>
    rw [e] at hi
    have hi : false = isGN g 0 := hi
    rw [if_pos hi.symm]
   | some S =>
    rw [e] at hi
    have hi : true = isGN g 0 := hi
    rw [if_neg (by rw [← hi]; simp)]
    obtain ⟨q1, q2⟩ := cost_eq hc hl e []
    simp only [q1, q2]
theorem cmbR_assoc (a b r : List Int × Int × Bool) : cmbR (cmbR a b) r = cmbR a (cmbR b r) := by
 obtain ⟨a1, a2, a3⟩ := a
 obtain ⟨b1, b2, b3⟩ := b
 obtain ⟨r1, r2, r3⟩ := r
 unfold cmbR
 cases a3 <;> cases b3 <;> cases r3 <;> simp
 all_goals
  by_cases h1 : r2 < b2 <;> by_cases h2 : b2 < a2 <;> by_cases h3 : r2 < a2 <;> simp [h1, h2, h3] <;> omega
theorem cmbR_ok {a r : List Int × Int × Bool} (h : r.2.2 = true) : (cmbR a r).2.2 = true := by
 unfold cmbR
 split
 ·
  exact h
 ·
  rename_i h2
  cases e : a.2.2 with
  | true => rfl
  | false => exact absurd ⟨h, .inl e⟩ h2
theorem cmbR_nil (a : List Int × Int × Bool) : cmbR a ([], 0, false) = a := by
 unfold cmbR
 rw [if_neg (fun h => by cases h.1)]
theorem cmbR_init {r : List Int × Int × Bool} (h : r.2.2 = true) : cmbR ([], 0, false) r = r := by
 unfold cmbR
 rw [if_pos ⟨h, .inl rfl⟩]
def Corr (st : List Nat × Int × List Nat) (a : List Int × Int × Bool) : Prop := (a.2.2 = false ∧ st.2.1 = -1) ∨ (a.2.2 = true ∧ natI st.1 = a.1 ∧ st.2.1 = a.2.1 ∧ 0 ≤ a.2.1)
theorem setsN_snoc : ∀ (g : List Int) (x : Int) (i : Nat) (S S' : List Nat), setsN g i S = some S' → ¬ (x < 0 ∨ (S'.length : Int) < x) → setsN (g ++ [x]) i S = some (putN S' x.toNat (i + g.length))
 | [], x, i, S, S', h, hx => by
  cases h
  rw [List.nil_append, setsN, if_neg hx, setsN]
  rfl
 | y :: g, x, i, S, S', h, hx => by
  rw [setsN] at h
  rw [List.cons_append, setsN]
  split at h
  ·
   cases h
  ·
   rename_i h2
   rw [if_neg h2, setsN_snoc g x _ _ _ h hx, List.length_cons]
   congr 2
   omega
theorem rsumL_nn {c G : List Int} {slots plate : Int} (hco : CO c) (hp : 0 ≤ plate) (hl : G.length = c.length) : ∀ (l : List Nat) (a : Int), 0 ≤ a → 0 ≤ (rsumL c slots plate G l a).1
 | [], a, h => h
 | k :: l, a, h => by
  rw [rsumL]
  split
  ·
   exact rsumL_nn hco hp hl l a h
  ·
   split
   ·
    exact Int.le_refl _
   ·
    rename_i h1
    have := few_nn (selK_co (G := G) (k := k) hco (n := G.length) oM) h1
    exact rsumL_nn hco hp hl l _ oM
theorem natI_len (l : List Nat) : (natI l).length = l.length := by simp [natI]
theorem natI_app (l : List Nat) (k : Nat) : natI (l ++ [k]) = natI l ++ [(k : Int)] := by simp [natI]
theorem next_corr {c : List Int} {slots plate : Int} (hc : chkC c slots plate = 0) : ∀ (d : Nat) (g S : List Nat) (st : List Nat × Int × List Nat) (a : List Int × Int × Bool), g.length + d = c.length → setsN (natI g) 0 [] = some S → Corr st a → Corr (nextG c slots plate d g S st) (cmbR a (bestR c slots plate d (natI g) S.length)) := by
 obtain ⟨l8, hco, hsl, hpl⟩ := chkC_inv hc
 intro d
 induction d with
 | zero =>
  intro g S st a hd hS hC
  have hl : (natI g).length = c.length := by rw [natI_len]; omega
  obtain ⟨q1, q2⟩ := cost_eq hc hl hS st.2.2
  have q3 : 0 ≤ (rcostV c slots plate (natI g)).1 := rsumL_nn hco hpl.1 hl _ 0 (Int.le_refl _)
  rw [nextG, bestR, cmbR, q1, q2]
  simp only
  by_cases h : (rcostV c slots plate (natI g)).2 = true ∧ (a.2.2 = false ∨ (rcostV c slots plate (natI g)).1 < a.2.1)
  ·
   rw [if_pos h, if_pos]
   ·
    exact .inr ⟨h.1, rfl, rfl, q3⟩
   ·
    refine ⟨h.1, ?_⟩
    rcases hC with ⟨h1, h2⟩ | ⟨h1, h2, h3, h4⟩
    ·
     exact .inl oM
    ·
     rcases h.2 with h5 | h5
     ·
      rw [h1] at h5; cases h5
     ·
      exact .inr oM
  ·
   rw [if_neg h, if_neg]
   ·
    exact hC
   ·
    rintro ⟨h5, h6⟩
    refine h ⟨h5, ?_⟩
    rcases hC with ⟨h1, h2⟩ | ⟨h1, h2, h3, h4⟩
    ·
     exact .inl h1
    ·
     rcases h6 with h6 | h6
     ·
      omega
     ·
      exact .inr oM
 | succ d ih =>
  intro g S st a hd hS hC
  show Corr (nextR c slots plate d g S st (S.length + 1)) (cmbR a (bestF c slots plate d (natI g) S.length (S.length + 1)))
  have key : ∀ n, n ≤ S.length + 1 → Corr (nextR c slots plate d g S st n) (cmbR a (bestF c slots plate d (natI g) S.length n)) := by
   intro n
   induction n with
   | zero => intro _; show Corr st (cmbR a ([], 0, false)); rw [cmbR_nil]; exact hC
   | succ n ihn =>
    intro hn
    have h1 := ihn oM
    have hS2 : setsN (natI (g ++ [n])) 0 [] = some (putN S n g.length) := by
     rw [natI_app, setsN_snoc _ _ _ _ _ hS oM, natI_len, Nat.zero_add, Int.toNat_natCast]
    have h2 := ih (g ++ [n]) (putN S n g.length) _ _ (by simp; omega) hS2 h1
    rw [nextR_succ, bestF_succ, ← cmbR_assoc]
    rw [natI_app, putN_len, opnN_len oM] at h2
    rw [show max S.length (n + 1) = if n = S.length then S.length + 1 else S.length by split <;> omega]
    exact h2
  exact key _ (Nat.le_refl _)
theorem sel_few {c G : List Int} (k : Nat) : ∀ m, (∀ i, i < m → gi G i = (i : Int)) → (selK c G k m).length ≤ if k < m then 1 else 0
 | 0, _ => by simp [selK]
 | m + 1, h => by
  have := sel_few (c := c) (G := G) k m fun i hi => h i oM
  have hm := h m oM
  rw [selK_succ]
  split
  ·
   rename_i e
   rw [hm] at e
   rw [List.length_append, if_pos (show k < m + 1 by omega)]
   rw [if_neg (show ¬ k < m by omega)] at this
   simp only [List.length_singleton]
   omega
  ·
   rename_i e
   split at this
   ·
    rw [if_pos (show k < m + 1 by omega)]; exact this
   ·
    exact Nat.le_trans this (Nat.zero_le _)
theorem rsumL_ok {c G : List Int} {slots plate : Int} (h : ∀ k, ((selK c G k G.length).length : Int) ≤ slots) : ∀ (l : List Nat) (a : Int), (rsumL c slots plate G l a).2 = true
 | [], _ => rfl
 | k :: l, a => by
  rw [rsumL]
  split
  ·
   exact rsumL_ok h l a
  ·
   rw [if_neg (by have := h k; omega)]
   exact rsumL_ok h l _
theorem best_found {c : List Int} {slots plate : Int} (hc : chkC c slots plate = 0) : ∀ (d i : Nat), i + d = c.length → (bestR c slots plate d (natI (List.range i)) i).2.2 = true := by
 obtain ⟨l8, hco, hsl, hpl⟩ := chkC_inv hc
 intro d
 induction d with
 | zero =>
  intro i hi
  show (rsumL c slots plate _ _ _).2 = true
  refine rsumL_ok (fun k => ?_) _ _
  have := sel_few (c := c) (G := natI (List.range i)) k (natI (List.range i)).length fun j hj => by
   rw [natI_len, List.length_range] at hj
   simp [natI, gi, List.getD_eq_getElem?_getD, List.getElem?_range, hj]
  split at this <;> omega
 | succ d ih =>
  intro i hi
  show (bestF c slots plate d _ i (i + 1)).2.2 = true
  rw [bestF_succ]
  refine cmbR_ok ?_
  have := ih (i + 1) oM
  rw [List.range_succ, natI_app] at this
  rw [show max i (i + 1) = i + 1 by omega]
  exact this
theorem gangV_eq (c : List Int) (slots plate : Int) : gangV c slots plate = rgangV c slots plate := by
 unfold gangV rgangV
 split
 ·
  rfl
 ·
  rename_i h0
  have hc : chkC c slots plate = 0 := Decidable.not_not.1 h0
  have hf : (bestR c slots plate c.length [] 0).2.2 = true := best_found hc c.length 0 oM
  have := next_corr hc c.length [] [] ([], -1, []) ([], 0, false) (by simp) rfl (.inl ⟨rfl, rfl⟩)
  have this : Corr _ (cmbR ([], 0, false) (bestR c slots plate c.length [] 0)) := this
  rw [cmbR_init hf] at this
  rcases this with ⟨h1, _⟩ | ⟨_, h2, h3, _⟩
  ·
   rw [hf] at h1; cases h1
  ·
   split
   ·
    rename_i h4
    obtain rfl : c = [] := List.eq_nil_of_length_eq_zero h4
    rfl
   ·
    rw [h2, h3]
end Go.Ab
