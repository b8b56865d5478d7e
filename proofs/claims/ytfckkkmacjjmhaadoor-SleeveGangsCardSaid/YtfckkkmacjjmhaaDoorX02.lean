/-
  Several texts in one: Gangs, as plain functions: the cost of a gang. No condition. .. Gangs, as plain functions: the document's copy. No condition.
-/
import Derived.LoopNIn
import Derived.Test.YtfckkkmacjjmhaaDoorX01
import Derived.Test.YtfckkkmacjjmhaaDoorMB
import Derived.Test.YtfckkkmacjjmhaaDoorAbs42
namespace Go.Ab
open Go.RowKit Go.Dw
def opnN (S : List Nat) (k : Nat) : List Nat := if k = S.length then S ++ [0] else S
def putN (S : List Nat) (k i : Nat) : List Nat := (opnN S k).set k (gn (opnN S k) k ||| 2 ^ i)
def setsN : List Int → Nat → List Nat → Option (List Nat)
 | [], _, S => some S
 | x :: g, i, S => if x < 0 ∨ (S.length : Int) < x then none else setsN g (i + 1) (putN S x.toNat i)
def costG (c : List Int) (slots plate : Int) (g : List Int) : Int × Int :=
 if chkC c slots plate ≠ 0 then (0, chkC c slots plate) else if g.length ≠ c.length then (0, 17) else
  match setsN g 0 [] with
  | none => (0, 2)
  | some S => if (sumK c slots plate S [] 0).2.1 = true then ((sumK c slots plate S [] 0).1, 0) else (0, 14)
theorem knF_nil (c : List Int) (slots plate : Int) : knF c slots plate [] = ⟨[], fun _ => none⟩ := by
 unfold knF
 congr 1
 funext k
 cases k <;> simp [knR]
theorem two_pow8 : ∀ {k : Nat}, k < 8 → (0 : Int) ≤ 1 * 2 ^ k ∧ (1 : Int) * 2 ^ k ≤ 128 := by decide
theorem opnN_lt {S : List Nat} {k n : Nat} (h : ∀ j, gn S j < n) (hn : 0 < n) (j : Nat) : gn (opnN S k) j < n := by
 unfold opnN
 split
 ·
  have := h j
  simp only [gn, List.getD_eq_getElem?_getD, List.getElem?_append] at this ⊢
  split
  ·
   exact this
  ·
   rcases Nat.eq_or_lt_of_le (Nat.le_of_not_lt ‹_›) with h1 | h1
   ·
    simpa [h1] using hn
   ·
    rw [List.getElem?_eq_none (by simp; omega)]; exact hn
 ·
  exact h j
theorem gn_set (S : List Nat) (k v j : Nat) : gn (S.set k v) j = if j = k ∧ k < S.length then v else gn S j := by
 simp only [gn, List.getD_eq_getElem?_getD, List.getElem?_set]
 by_cases h : k = j
 ·
  subst h
  by_cases h2 : k < S.length
  ·
   simp [h2]
  ·
   simp [h2]
 ·
  rw [if_neg h, if_neg oM]
theorem putN_lt {S : List Nat} {k i : Nat} (h : ∀ j, gn S j < 2 ^ i) (j : Nat) : gn (putN S k i) j < 2 ^ (i + 1) := by
 have h0 : 0 < 2 ^ i := Nat.pow_pos oM
 have h1 := fun j => opnN_lt (k := k) h h0 j
 have e : 2 ^ (i + 1) = 2 ^ i + 2 ^ i := by rw [Nat.pow_succ]; omega
 unfold putN
 rw [gn_set]
 split
 ·
  exact Nat.or_lt_two_pow (Nat.lt_of_lt_of_le (h1 k) oM) oM
 ·
  have := h1 j; omega
theorem opnN_len {S : List Nat} {k : Nat} (h : k ≤ S.length) : (opnN S k).length = if k = S.length then S.length + 1 else S.length := by
 unfold opnN
 split <;> simp
theorem putN_len (S : List Nat) (k i : Nat) : (putN S k i).length = (opnN S k).length := by rw [putN, List.length_set]
theorem opnN_klt {S : List Nat} {k : Nat} (h : k ≤ S.length) : k < (opnN S k).length := by
 rw [opnN_len h]
 split <;> omega
theorem opnN_row {S : List Nat} {x : Nat} (h : x = S.length) {i : Nat} (hi : i < S.length + 1) : appRow S.length (fun j => [V.i (gn S j : Nat)]) (fun i => List.take 1 (List.drop (i * 1) [V.i 0])) i = [V.i (gn (opnN S x) i : Nat)] := by
 rw [opnN, if_pos h, appRow]
 simp only [gn, List.getD_eq_getElem?_getD, List.getElem?_append]
 by_cases h2 : i < S.length
 ·
  rw [if_pos h2, if_pos h2]
 ·
  rw [if_neg h2, if_neg h2, show i - S.length = 0 by omega]; rfl
theorem app_row {l : List Nat} {k i : Nat} (hi : i < l.length + 1) : appRow l.length (fun j => [V.i (gn l j : Nat)]) (fun i => List.take 1 (List.drop (i * 1) [V.i (k : Nat)])) i = [V.i (gn (l ++ [k]) i : Nat)] := by
 rw [appRow]
 simp only [gn, List.getD_eq_getElem?_getD, List.getElem?_append]
 by_cases h2 : i < l.length
 ·
  rw [if_pos h2, if_pos h2]
 ·
  rw [if_neg h2, if_neg h2, show i - l.length = 0 by omega]; rfl
theorem putN_row {S : List Nat} {x k j : Nat} (h : x < (opnN S x).length) (hor : bitop .or .i64 (gn (opnN S x) x : Int) (2 ^ k) = ((gn (opnN S x) x ||| 2 ^ k : Nat) : Int)) {a n : Int} (ha : (gn (opnN S x) x : Int) = a) (hn : (gn (opnN S x) j : Int) = n) : (if j = x then [V.i (bitop .or .i64 a (1 * 2 ^ k))] else [V.i n]) = [V.i (gn (putN S x k) j : Nat)] := by
 subst hn ha
 rw [putN, gn_set, Int.one_mul, hor]
 by_cases e : j = x
 ·
  rw [if_pos e, if_pos ⟨e, h⟩]
 ·
  rw [if_neg e, if_neg (fun q => e q.1)]
theorem setsN_drop {g : List Int} {k : Nat} (hk : k < g.length) (i : Nat) (S : List Nat) : setsN (g.drop k) i S = if gi g k < 0 ∨ (S.length : Int) < gi g k then none else setsN (g.drop (k + 1)) (i + 1) (putN S (gi g k).toNat i) := by
 rw [List.drop_eq_getElem_cons hk, setsN]
 simp [gi, List.getD_eq_getElem?_getD, List.getElem?_eq_getElem hk]
theorem gn_app {l : List Nat} {k i : Nat} (hi : i < l.length) : gn (l ++ [k]) i = gn l i := by
 simp [gn, List.getD_eq_getElem?_getD, List.getElem?_append, hi]
theorem opnN_old {S : List Nat} {k i : Nat} (hi : i < S.length) : gn (opnN S k) i = gn S i := by
 unfold opnN
 split
 ·
  exact gn_app hi
 ·
  rfl
theorem bit_clr : ∀ s : Nat, s < 128 → ∀ i : Nat, i < 8 → s < 2 ^ i → bitop .andNot .i64 ((s ||| 2 ^ i : Nat) : Int) (2 ^ i) = (s : Int) := by decide +kernel
theorem clr_row {S : List Nat} {k i j : Nat} (hk : k ≤ S.length) (hi : i < 8) (hb : ∀ j, gn S j < 2 ^ i) (hj : j < S.length) : (if j = k then [V.i (bitop .andNot .i64 (gn (putN S k i) k : Nat) (1 * 2 ^ i))] else [V.i (gn (putN S k i) j : Nat)]) = [V.i (gn S j : Nat)] := by
 by_cases e : j = k
 ·
  subst e
  have h1 := opnN_klt hk
  rw [if_pos rfl, putN, gn_set, if_pos ⟨rfl, h1⟩, opnN_old hj, Int.one_mul, bit_clr _ (Nat.lt_of_lt_of_le (hb j) (Nat.pow_le_pow_right oM (show i ≤ 7 by omega))) _ hi (hb j)]
 ·
  rw [if_neg e, putN, gn_set, if_neg (fun q => e q.1), opnN_old hj]
def nextG (c : List Int) (slots plate : Int) : Nat → List Nat → List Nat → List Nat × Int × List Nat → List Nat × Int × List Nat
 | 0, g, S, st => if (sumK c slots plate S st.2.2 0).2.1 = true ∧ (st.2.1 < 0 ∨ (sumK c slots plate S st.2.2 0).1 < st.2.1) then (g, (sumK c slots plate S st.2.2 0).1, (sumK c slots plate S st.2.2 0).2.2) else (st.1, st.2.1, (sumK c slots plate S st.2.2 0).2.2)
 | d + 1, g, S, st => (List.range (S.length + 1)).foldl (fun st k => nextG c slots plate d (g ++ [k]) (putN S k g.length) st) st
def nextR (c : List Int) (slots plate : Int) (d : Nat) (g S : List Nat) (st : List Nat × Int × List Nat) (k : Nat) : List Nat × Int × List Nat := (List.range k).foldl (fun st k => nextG c slots plate d (g ++ [k]) (putN S k g.length) st) st
theorem nextR_succ (c : List Int) (slots plate : Int) (d : Nat) (g S : List Nat) (st : List Nat × Int × List Nat) (k : Nat) : nextR c slots plate d g S st (k + 1) = nextG c slots plate d (g ++ [k]) (putN S k g.length) (nextR c slots plate d g S st k) := by
 unfold nextR
 rw [List.range_succ, List.foldl_append]
 rfl
end Go.Ab

namespace Go.Ab
open Go.RowKit Go.Dw
def AWR {P : Program} {N : Nat} (C : Cx P N) (c : Code) (Q : Exit → S → Prop) : Nat → S → Prop
 | 0, _ => False
 | m + 1, s => AW C c (XThen (AWR C c Q m) Q) s
section
variable {P : Program} {N : Nat} {C : Cx P N} {Q : Exit → S → Prop} {s : S} {c : Code}
theorem awr_succ {m : Nat} (h : ∀ K : S → Prop, (∀ s', AWR C c Q m s' → K s') → AW C c (XThen K Q) s) : AWR C c Q (m + 1) s := h _ fun _ h => h
theorem aw_rounds (m : Nat) (h : AWR C c Q m s) : AW C (.loop c) Q s := by
 intro a w g
 refine wpIn_loop_rounds m ?_
 have key : ∀ m s a w0 w, Tch C.W w0 w → AWR C c Q m s → Gm C s a w → Code.roundsIn C.F 0 P c (fun e a' w' => ∃ s', Q e s' ∧ Gm C s' a' w' ∧ Tch C.W w0 w') m a w := by
  intro m
  induction m with
  | zero => intro s a w0 w _ h; exact h.elim
  | succ m ih =>
   intro s a w0 w t0 h g
   refine wpIn_mono (h a w g) ?_
   rintro e a' w' ⟨s', q, g', t⟩
   cases e with
   | normal => exact ih s' a' w0 w' (t0.trans t) q g'
   | _ => exact ⟨s', q, g', t0.trans t⟩
 exact key m s a w w (Tch.refl _ _) h g
end
end Go.Ab

namespace Go.Ab
open Go.RowKit Go.Dw
inductive PQ where
 | tt
 | le (a b : Int)
 | lt (a b : Int)
 | nle (a b : Nat)
 | nlt (a b : Nat)
 | ne (a b : Int)
 | re (v : V)
 | and (p q : PQ)
def PQ.den : PQ → Prop
 | .tt => True
 | .le a b => a ≤ b
 | .lt a b => a < b
 | .nle a b => a ≤ b
 | .nlt a b => a < b
 | .ne a b => a ≠ b
 | .re v => v = v
 | .and p q => p.den ∧ q.den
def PQ.dec : PQ → Bool
 | .tt => true
 | .le a b => decide (a ≤ b)
 | .lt a b => decide (a < b)
 | .nle a b => Nat.ble a b
 | .nlt a b => Nat.blt a b
 | .ne a b => !decide (a = b)
 | .re _ => true
 | .and p q => match p.dec with
  | true => q.dec
  | false => false
theorem PQ.ok : ∀ {p : PQ}, p.dec = true → p.den
 | .tt, _ => trivial
 | .le a b, h => of_decide_eq_true (p := a ≤ b) h
 | .lt a b, h => of_decide_eq_true (p := a < b) h
 | .nle a b, h => Nat.le_of_ble_eq_true h
 | .nlt a b, h => Nat.le_of_ble_eq_true (n := a + 1) h
 | .ne a b, h => by simp only [PQ.dec, Bool.not_eq_true', decide_eq_false_iff_not] at h; exact h
 | .re _, _ => rfl
 | .and p q, h => by
  simp only [PQ.dec] at h
  split at h
  ·
   rename_i hp; exact ⟨PQ.ok hp, PQ.ok h⟩
  ·
   cases h
def inQ (k : IntKind) (n : Int) : PQ := match k with
 | .i8 => .and (.le (-128) n) (.le n 127)
 | .i16 => .and (.le (-32768) n) (.le n 32767)
 | .i32 => .and (.le (-2147483648) n) (.le n 2147483647)
 | .i64 => .and (.le (-9223372036854775808) n) (.le n 9223372036854775807)
 | .u8 => .and (.le 0 n) (.le n 255)
 | .u16 => .and (.le 0 n) (.le n 65535)
 | .u32 => .and (.le 0 n) (.le n 4294967295)
 | .u64 => .and (.le 0 n) (.le n 18446744073709551615)
def ixQ (i : Int) (n : Nat) : PQ := .and (.le 0 i) (.lt i n)
def slQ (e : Operand → V) (lo hi : Option Operand) (n : Nat) (z : Bool) : PQ := match slLo e lo, slHi e n hi with
 | some l, some h => .and (.le 0 l) (.and (.le l h) (match z with | true => .and (.le h n) (.nlt 0 n) | false => .le h n))
 | _, _ => .tt
def condQ (T : List TI) (wr : Bool) (o : Oper) (e : Operand → V) (σ : Nat → Option Ob) : PQ :=
 match o.op with
 | .binOp op _ x y _ => match e x, e y with
  | .c (.int k a), .c (.int _ b) => match op with
   | .add => match wr with | true => .tt | false => inQ k (a + b)
   | .sub => match wr with | true => .tt | false => inQ k (a - b)
   | .mul => match wr with | true => .tt | false => inQ k (a * b)
   | .quo => match wr with | true => .ne b 0 | false => .and (.lt 0 b) (inQ k a)
   | .rem => .ne b 0
   | .shl => match wr with | true => .le 0 b | false => .and (.le 0 b) (.and (.le b k.bits) (inQ k (a * 2 ^ b.toNat)))
   | .shr => .le 0 b
   | _ => .tt
  | .sl _ n _, .nil => .nlt 0 n
  | .nil, .sl _ n _ => .nlt 0 n
  | _, _ => .tt
 | .unOp .neg _ x => match e x with
  | .c (.int k a) => match wr with | true => .tt | false => inQ k (-a)
  | _ => .tt
 | .convert _ t x => match e x with
  | .c (.int _ a) => match (T.getD t ti0).kind with
   | some k => match wr with | true => .tt | false => inQ k a
   | none => .tt
  | _ => .tt
 | .indexAddr t x ix => match e ix with
  | .c (.int _ i) => match e x with
   | .sl _ n _ => ixQ i n
   | .own id => match σ id with
    | some (.row _ _ n _) => ixQ i n
    | _ => .tt
   | _ => match (T.getD t ti0).arr with
    | some (n, _) => ixQ i n
    | none => .tt
  | _ => .tt
 | .index t x ix => match e ix with
  | .c (.int _ i) => match e x with
   | .c (.string b) => ixQ i b.size
   | _ => match (T.getD t ti0).arr with
    | some (n, _) => ixQ i n
    | none => .tt
  | _ => .tt
 | .load _ x => match e x with
  | .ref id o => match σ id with
   | some (.box _ cs) => .nle o cs.length
   | _ => .tt
  | .oel id _ i o => match σ id with
   | some (.row _ _ n row) => .and (.nlt i n) (.nle o (row i).length)
   | _ => .tt
  | _ => .tt
 | .store _ x y => match cellsV (e y) with
  | some us => match e x with
   | .ref id o => match σ id with
    | some (.box _ cs) => .nle (o + us.length) cs.length
    | _ => .tt
   | .oel id _ i o => match σ id with
    | some (.row _ _ n row) => .and (.nlt i n) (.nle (o + us.length) (row i).length)
    | _ => .tt
   | _ => .tt
  | none => .tt
 | .slice _ x lo hi none => match e x with
  | .sl _ n _ => slQ e lo hi n false
  | .own id => match σ id with
   | some (.row _ _ n _) => slQ e lo hi n true
   | _ => .tt
  | .c (.string b) => slQ e lo hi b.size false
  | _ => .tt
 | .makeSlice _ x y => match e x, e y with
  | .c (.int _ l), .c (.int _ c) => .and (.le 0 l) (.and (.le l c) (.le c 1099511627776))
  | _, _ => .tt
 | .call c => match c.callee with
  | .builtin .append => match c.args with
   | ⟨[s, x]⟩ => match e x with
    | .sl _ m _ => match e s with
     | .nil => .nle m 1099511627776
     | .own id => match σ id with
      | some (.row _ _ n _) => .nle (n + m) 1099511627776
      | _ => .tt
     | _ => .tt
    | _ => .tt
   | _ => .tt
  | _ => .tt
 | _ => .tt
structure ZR where
 g : Option Bool
 c : Prop
 ps : List (Bool × Bool)
 v : V
 pre : List (Nat × Ob)
 δ : List (Nat × Option Ob)
def gvZ (g : Option Bool) (v : V) : V := match g with
 | none => v
 | some g => .gd g v
def gcond (g : Option Bool) (c : Prop) : Prop := match g with
 | none => c
 | some g => g = true → c
def gdP (g : Bool) : V → List (Bool × Bool)
 | .gd g' _ => [(g', g)]
 | _ => []
def gdsP (g : Bool) : List V → List (Bool × Bool)
 | [] => []
 | .gd g' _ :: l => (g', g) :: gdsP g l
 | _ :: l => gdsP g l
def EqB (l : List (Bool × Bool)) : Prop := ∀ p ∈ l, p.1 = p.2
theorem EqB.l {a b : List (Bool × Bool)} (h : EqB (a ++ b)) : EqB a := fun p hp => h p (List.mem_append_left _ hp)
theorem EqB.r {a b : List (Bool × Bool)} (h : EqB (a ++ b)) : EqB b := fun p hp => h p (List.mem_append_right _ hp)
theorem gdP_m {g g' : Bool} {v : V} (h : EqB (gdP g (.gd g' v))) : g' = g := h (g', g) (List.mem_cons_self ..)
theorem gdP_ug {g : Bool} {v : V} (h : EqB (gdP g v)) : ugOk g v := by
 cases v <;> first | trivial | (intro hg; exact (gdP_m h).trans hg)
theorem gdP_pick {t b : Bool} {v : V} (h : EqB (gdP (t == b) v)) : pickOk t b v := by
 cases v <;> first | trivial | (intro hg; exact (gdP_m h).trans (by rw [hg]; simp))
theorem gdP_pickG {g t b : Bool} {v : V} (h : EqB (gdP (g && (t == b)) v)) (hg : g = true) : pickOk t b v := by
 cases v <;> first | trivial | (intro ht; exact (gdP_m h).trans (by rw [hg, ht]; simp))
theorem gdsP_ug {g : Bool} : ∀ {l : List V}, EqB (gdsP g l) → ugL g l
 | [], _ => trivial
 | v :: l, h => by
  cases v
  case gd g' u =>
   have h1 := h (g', g) (by simp [gdsP])
   exact ⟨fun hg => by simp only at h1; rw [h1]; exact hg, gdsP_ug fun p hp => h p (by simp [gdsP, hp])⟩
  all_goals exact ⟨trivial, gdsP_ug fun p hp => h p (by simpa [gdsP] using hp)⟩
def sstep (T : List TI) (wr : Bool) (M : List Nat) (nx : Nat) (ds : List (Option Tmp)) (tm : Nat → V) (σ : Nat → Option Ob) (o : Oper) : Option ZR :=
 match o.guard with
 | none => match o.op with
  | .pick x a b => match ev tm x with
   | .c (.bool t) => match pickV2 t (ug (ev tm a)) (ug (ev tm b)) with
    | some v => if noDst o then some ⟨none, True, gdP (t == true) (ev tm a) ++ gdP (t == false) (ev tm b), v, [], []⟩ else none
    | none => none
   | _ => none
  | _ => if dstOk o && noGd (opsV tm o) then (match astepX T wr M nx o (fun x => ug (ev tm x)) σ with
   | some r => some ⟨none, r.c, [], r.v, r.pre, r.δ⟩
   | none => none) else none
 | some _ => match guardV ds tm o with
  | some (some g) => match o.op with
   | .pick x a b => match ug (ev tm x) with
    | .c (.bool t) => match pickV2 t (ug (ev tm a)) (ug (ev tm b)) with
     | some v => if noDst o then some ⟨some g, True, gdP g (ev tm x) ++ (gdP (g && (t == true)) (ev tm a) ++ gdP (g && (t == false)) (ev tm b)), v, [], []⟩ else none
     | none => none
    | _ => none
   | _ => if dstOk o && noDst o then (match astepX T wr M nx o (fun x => ug (ev tm x)) σ with
    | some ⟨c, v, pre, [], []⟩ => some ⟨some g, c, gdsP g (opsV tm o), v, pre, []⟩
    | _ => none) else none
  | _ => none
theorem sstep_g {T : List TI} {wr : Bool} {M : List Nat} {nx : Nat} {ds : List (Option Tmp)} {tm : Nat → V} {σ : Nat → Option Ob} {o : Oper} {z : ZR} (h : sstep T wr M nx ds tm σ o = some z) :
  ∃ q, gstep T wr M nx ds tm σ o = some q ∧ q.v = gvZ z.g z.v ∧ q.pre = z.pre ∧ q.δ = z.δ ∧ (EqB z.ps → gcond z.g z.c → q.c) := by
 unfold sstep at h
 unfold gstep
 split at h
 ·
  rename_i hg
  split at h
  ·
   rename_i x a b hop
   simp only [hg, hop]
   split at h
   ·
    rename_i t hx
    simp only [hx]
    split at h
    ·
     rename_i v hv
     simp only [hv]
     split at h
     ·
      rename_i hd
      injection h with h; subst h
      rw [if_pos hd]
      exact ⟨_, rfl, rfl, rfl, rfl, fun hp _ => ⟨gdP_pick hp.l, gdP_pick hp.r⟩⟩
     ·
      cases h
    ·
     cases h
   ·
    cases h
  ·
   rename_i hop
   split at h
   ·
    rename_i hd
    split at h
    ·
     rename_i r hr
     injection h with h; subst h
     refine ⟨r, ?_, rfl, rfl, rfl, fun _ hc => hc⟩
     simp only [hg]
     rw [if_pos hd]; exact hr
    ·
     cases h
   ·
    cases h
 ·
  rename_i gd' hg
  split at h
  ·
   rename_i g hgv
   split at h
   ·
    rename_i x a b hop
    simp only [hg, hop, hgv]
    split at h
    ·
     rename_i t hx
     simp only [hx]
     split at h
     ·
      rename_i v hv
      simp only [hv]
      split at h
      ·
       rename_i hd
       injection h with h; subst h
       rw [if_pos hd]
       exact ⟨_, rfl, rfl, rfl, rfl, fun hp _ => ⟨gdP_ug hp.l, fun hg => gdP_pickG hp.r.l hg, fun hg => gdP_pickG hp.r.r hg⟩⟩
      ·
       cases h
     ·
      cases h
    ·
     cases h
   ·
    rename_i hop
    split at h
    ·
     rename_i hd
     split at h
     ·
      rename_i c v pre hr
      injection h with h; subst h
      refine ⟨⟨ugL g (opsV tm o) ∧ (g = true → c), .gd g v, pre, [], []⟩, ?_, rfl, rfl, rfl, fun hp hc => ⟨gdsP_ug hp, hc⟩⟩
      simp only [hg, hgv]
      rw [if_pos hd, hr]
     ·
      cases h
    ·
     cases h
  ·
   cases h
inductive It (P : Program) where
 | c (p : Prop) (h : p)
 | g (g : Bool) (p : Prop) (h : g = true → p)
 | d
 | w
 | wc (p : Prop) (h : p)
 | q (p : Prop) (h : p)
 | f
 | cl (f : FuncId) (args : List V) (v : V) (h : AC P f args v [])
 | clg (g : Bool) (f : FuncId) (args : List V) (v : V) (h : g = true → AC P f args v [])
 | clo (f : FuncId) (args : List V) (v : V) (obs : List Ob) (h : AC P f args v obs)
inductive CE where
 | p (p : Prop)
 | b (b : Bool)
 | a (f : FuncId) (args : List V)
 | vs (l : List V)
 | n (f : Nat → List CE)
 | ys (f : Nat → Option (List (List V)))
inductive Fr where
 | c (y : Code)
 | b (id : Nat)
 | l (y : Code) (m : Nat)
 | s
inductive Cfg where
 | code (c : Code) (k : List Fr) (s : S)
 | ops (ol : List Oper) (dr : Bool) (rest : List Oper) (tm : Nat → V) (σ : Nat → Option Ob) (nx : Nat) (ks : List (List Nat × List Nat)) (k : List Fr)
 | done (e : Exit) (k : List Fr) (s : S)
structure Pm where
 T : List TI
 N : Nat
 M : List Nat
 u : Nat
 lit : Bool
structure Nx (P : Program) where
 n : Nat
 l : List (Nat × It P)
 g : Cfg
 e : List (CE × CE)
def psE : List (Bool × Bool) → List (CE × CE)
 | [] => []
 | (a, b) :: l => (.b a, .b b) :: psE l
def EqE (l : List (CE × CE)) : Prop := ∀ p ∈ l, p.1 = p.2
theorem EqE.l {a b : List (CE × CE)} (h : EqE (a ++ b)) : EqE a := fun p hp => h p (List.mem_append_left _ hp)
theorem EqE.r {a b : List (CE × CE)} (h : EqE (a ++ b)) : EqE b := fun p hp => h p (List.mem_append_right _ hp)
theorem EqE.hd {x y : CE} {l : List (CE × CE)} (h : EqE ((x, y) :: l)) : x = y := h (x, y) (List.mem_cons_self ..)
theorem EqE.tl {x : CE × CE} {l : List (CE × CE)} (h : EqE (x :: l)) : EqE l := fun p hp => h p (List.mem_cons_of_mem _ hp)
theorem EqE.ps : ∀ {l : List (Bool × Bool)}, EqE (psE l) → EqB l
 | [], _ => fun p hp => by cases hp
 | (a, b) :: l, h => fun p hp => by
  rcases List.mem_cons.1 hp with rfl | hp
  ·
   have := h.hd; injection this
  ·
   exact EqE.ps h.tl p hp
def callQ (e : Operand → V) (o : Oper) : Option (FuncId × List V) := match o.op with
 | .call c => match c.callee with
  | .value fo => match e fo with
   | .fn (.func f) first caps => some (f, first ++ c.args.toList.map e ++ caps)
   | _ => none
  | _ => none
 | _ => none
section
variable {P : Program} (pm : Pm) (n : Nat) (l : List (Nat × It P)) (ol : List Oper) (dr : Bool) (o : Oper) (os : List Oper) (tm : Nat → V) (σ : Nat → Option Ob) (nx : Nat) (ks : List (List Nat × List Nat)) (k : List Fr)
def nxt (v : V) (pre : List (Nat × Ob)) (δ : List (Nat × Option Ob)) : Cfg := .ops ol dr os (updO tm o.dst v) (upds σ δ) nx (ks ++ [(keysD δ, keysP pre ++ keysD δ)]) k
def nxZ (z : ZR) : Cfg := nxt ol dr o os tm σ nx ks k (gvZ z.g z.v) z.pre z.δ
def opFalse : Option (Nx P) := match o.dst with
 | some t => some ⟨n, l, .ops ol dr os (upd tm t (.gd false (.b false))) σ nx (ks ++ [([], [])]) k, []⟩
 | none => none
def opLit : Option (Nx P) := match sstep pm.T false pm.M nx (ol.map (·.dst)) tm σ o with
 | some z => match (condQ pm.T false o (fun x => ug (ev tm x)) σ).dec with
  | true => some ⟨n, l, nxZ ol dr o os tm σ nx ks k z, (.p z.c, .p (condQ pm.T false o (fun x => ug (ev tm x)) σ).den) :: psE z.ps⟩
  | false => none
 | none => none
def opPlain : Option (Nx P) := match pm.lit with
 | false => match sstep pm.T false pm.M nx (ol.map (·.dst)) tm σ o with
  | some z => some ⟨n, l, nxZ ol dr o os tm σ nx ks k z, (.p z.c, .p True) :: psE z.ps⟩
  | none => none
 | true => match guardV (ol.map (·.dst)) tm o with
  | some (some g) => match g with
   | false => match o.dst with
    | some t => some ⟨n, l, .ops ol dr os (upd tm t (.gd false (.b false))) σ nx (ks ++ [([], [])]) k, []⟩
    | none => none
   | true => opLit pm n l ol dr o os tm σ nx ks k
  | _ => opLit pm n l ol dr o os tm σ nx ks k
def opItem (it : It P) : Option (Nx P) := match it with
 | .c p _ => match sstep pm.T false pm.M nx (ol.map (·.dst)) tm σ o with
  | some z => some ⟨n, l, nxZ ol dr o os tm σ nx ks k z, (.p z.c, .p p) :: psE z.ps⟩
  | none => none
 | .g g p _ => match sstep pm.T false pm.M nx (ol.map (·.dst)) tm σ o with
  | some z => match z.g with
   | some g0 => some ⟨n, l, nxZ ol dr o os tm σ nx ks k z, (.b g0, .b g) :: (.p z.c, .p p) :: psE z.ps⟩
   | none => none
  | none => none
 | .d => match sstep pm.T false pm.M nx (ol.map (·.dst)) tm σ o with
  | some z => some ⟨n, l, nxZ ol dr o os tm σ nx ks k z, (.b (condQ pm.T false o (fun x => ug (ev tm x)) σ).dec, .b true) :: (.p z.c, .p (condQ pm.T false o (fun x => ug (ev tm x)) σ).den) :: psE z.ps⟩
  | none => none
 | .w => match sstep pm.T true pm.M nx (ol.map (·.dst)) tm σ o with
  | some z => some ⟨n, l, nxZ ol dr o os tm σ nx ks k z, (.p z.c, .p True) :: psE z.ps⟩
  | none => none
 | .wc p _ => match sstep pm.T true pm.M nx (ol.map (·.dst)) tm σ o with
  | some z => some ⟨n, l, nxZ ol dr o os tm σ nx ks k z, (.p z.c, .p p) :: psE z.ps⟩
  | none => none
 | .q p _ => match gstep pm.T false pm.M nx (ol.map (·.dst)) tm σ o with
  | some z => some ⟨n, l, nxt ol dr o os tm σ nx ks k z.v z.pre z.δ, [(.p z.c, .p p)]⟩
  | none => none
 | .f => match guardV (ol.map (·.dst)) tm o with
  | some (some g) => match o.dst with
   | some t => some ⟨n, l, .ops ol dr os (upd tm t (.gd false (.b false))) σ nx (ks ++ [([], [])]) k, [(.b g, .b false)]⟩
   | none => none
  | _ => none
 | .cl f args v _ => match o.guard with
  | none => match o.dst with
   | some t => match callQ (ev tm) o with
    | some (f', as') => match decide (t < 1000) && (V.idfL args && v.idf) with
     | true => some ⟨n, l, .ops ol dr os (upd tm t v) σ nx (ks ++ [([], [])]) k, [(.a f' as', .a f args)]⟩
     | false => none
    | none => none
   | none => none
  | some _ => none
 | .clg g f args v _ => match guardV (ol.map (·.dst)) tm o with
  | some (some g0) => match o.dst with
   | some t => match callQ (fun x => ug (ev tm x)) o with
    | some (f', as') => match decide (t < 1000) && (V.idfL args && v.idf) with
     | true => some ⟨n, l, .ops ol dr os (upd tm t (.gd g0 v)) σ nx (ks ++ [([], [])]) k, (.b g0, .b g) :: (.a f' as', .a f args) :: psE (gdsP g0 (opsV tm o))⟩
     | false => none
    | none => none
   | none => none
  | _ => none
 | .clo f args v obs _ => match o.guard with
  | none => match o.dst with
   | some t => match callQ (ev tm) o with
    | some (f', as') => match decide (t < 1000) && (V.idfL args && Nat.ble obs.length 90) with
     | true => some ⟨n, l, .ops ol dr os (upd tm t (v.ren (callG nx (some t)))) (upds σ (callD (callG nx (some t)) 0 obs)) nx (ks ++ [(keysD (callD (callG nx (some t)) 0 obs), keysD (callD (callG nx (some t)) 0 obs))]) k, [(.a f' as', .a f args)]⟩
     | false => none
    | none => none
   | none => none
  | some _ => none
def opStep : Option (Nx P) := match l with
 | [] => opPlain pm n [] ol dr o os tm σ nx ks k
 | (j, it) :: l' => match j with
  | 0 => opItem pm n l' ol dr o os tm σ nx ks k it
  | j + 1 => opPlain pm n ((j, it) :: l') ol dr o os tm σ nx ks k
end
def stp {P : Program} (pm : Pm) (n : Nat) (l : List (Nat × It P)) : Cfg → Option (Nx P)
 | .done e k s => match k with
  | [] => none
  | .c y :: k => match e with
   | .normal => some ⟨n, l, .code y k s, []⟩
   | e => some ⟨n, l, .done e k s, []⟩
  | .b id :: k => match e with
   | .exit id' => match Nat.beq id' id with
    | true => some ⟨n, l, .done .normal k s, []⟩
    | false => some ⟨n, l, .done (.exit id') k s, []⟩
   | e => some ⟨n, l, .done e k s, []⟩
  | .l y m :: k => match e with
   | .normal => match m with
    | 0 => none
    | m + 1 => some ⟨n, l, .code y (.l y m :: k) s, []⟩
   | e => some ⟨n, l, .done e k s, []⟩
  | .s :: k => match e with
   | .goto _ => none
   | e => some ⟨n, l, .done e k s, []⟩
 | .code c k s => match c with
  | .skip => some ⟨n, l, .done .normal k s, []⟩
  | .label _ => some ⟨n, l, .done .normal k s, []⟩
  | .exit id => some ⟨n, l, .done (.exit id) k s, []⟩
  | .ret => some ⟨n, l, .done .ret k s, []⟩
  | .seq x y => some ⟨n, l, .code x (.c y :: k) s, []⟩
  | .block id x => some ⟨n, l, .code x (.b id :: k) s, []⟩
  | .scope x => some ⟨n, l, .code x (.s :: k) s, []⟩
  | .loop x => match n with
   | 0 => none
   | n + 1 => match pm.u with
    | 0 => none
    | u + 1 => some ⟨n, l, .code x (.l x u :: k) s, []⟩
  | .cond c x y => match n with
   | 0 => none
   | n + 1 => match ev s.tm c with
    | .c (.bool t) => match t with
     | true => some ⟨n, l, .code x k s, []⟩
     | false => some ⟨n, l, .code y k s, []⟩
    | _ => none
  | .region _ ops dr => match n with
   | 0 => none
   | n + 1 => match okReg pm.N ops.toList with
    | true => some ⟨n, l, .ops ops.toList dr ops.toList s.tm s.σ s.nx [] k, []⟩
    | false => none
  | _ => none
 | .ops ol dr rest tm σ nx ks k => match rest with
  | [] => match dr with
   | false => some ⟨n, l, .done .normal k ⟨tm, σ, nx + 1⟩, []⟩
   | true => match okDraw ol ks with
    | true => some ⟨n, l, .done .normal k ⟨tm, σ, nx + 1⟩, []⟩
    | false => none
  | o :: os => match n with
   | 0 => none
   | n + 1 => opStep pm n l ol dr o os tm σ nx ks k
def runC {P : Program} (pm : Pm) : Nat → Nat → List (Nat × It P) → Cfg → Cfg
 | 0, _, _, g => g
 | m + 1, n, l, g => match stp pm n l g with
  | some r => runC pm m r.n r.l r.g
  | none => g
def runW {P : Program} (pm : Pm) : Nat → Nat → List (Nat × It P) → Cfg → List (CE × CE)
 | 0, _, _, _ => []
 | m + 1, n, l, g => match stp pm n l g with
  | some r => r.e ++ runW pm m r.n r.l r.g
  | none => []
section
variable {P : Program} {N : Nat} (C : Cx P N) (Q : Exit → S → Prop)
def Wk : List Fr → Exit → S → Prop
 | [] => Q
 | .c y :: k => XThen (fun s' => AW C y (Wk k) s') (Wk k)
 | .b id :: k => XBlock id (Wk k)
 | .l y m :: k => XThen (AWR C y (Wk k) m) (Wk k)
 | .s :: k => XScope (Wk k)
def HdW : Cfg → Prop
 | .code c k s => AW C c (Wk C Q k) s
 | .ops ol dr rest tm σ nx ks k => AOps C ol.toArray nx rest tm σ ks fun tm' σ' ks' => (dr = true → okDraw ol ks' = true) ∧ Wk C Q k .normal ⟨tm', σ', nx + 1⟩
 | .done e k s => Wk C Q k e s
end
abbrev KT : Type := List Oper → Bool → Nat → List Fr → (Nat → V) → (Nat → Option Ob) → List (List Nat × List Nat) → Prop
def HG {P : Program} {N : Nat} (C : Cx P N) (KK : KT) (R : Cfg → Prop) : Cfg → Prop
 | .ops ol dr rest tm σ nx ks k => AOps C ol.toArray nx rest tm σ ks (KK ol dr nx k)
 | .code c k s => R (.code c k s)
 | .done e k s => R (.done e k s)
section
variable {P : Program} {N : Nat} {C : Cx P N} {Q : Exit → S → Prop} {KK : KT} {R : Cfg → Prop} {pm : Pm} {n : Nat} {l : List (Nat × It P)}
section
variable {ol : List Oper} {dr : Bool} {o : Oper} {os : List Oper} {tm : Nat → V} {σ : Nat → Option Ob} {nx : Nat} {ks : List (List Nat × List Nat)} {k : List Fr} {r : Nx P}
theorem AOps.mono {ops : Array Oper} {K K' : (Nat → V) → (Nat → Option Ob) → List (List Nat × List Nat) → Prop} : ∀ {os : List Oper} {tm : Nat → V} {σ : Nat → Option Ob} {ks : List (List Nat × List Nat)}, AOps C ops nx os tm σ ks K → (∀ a b c, K a b c → K' a b c) → AOps C ops nx os tm σ ks K'
 | [], _, _, _, h, hk => hk _ _ _ h
 | _ :: _, _, _, _, ⟨e, h1, h2⟩, hk => ⟨e, h1, AOps.mono h2 hk⟩
theorem hd_z (hT : TabOk pm.T P) {wr : Bool} {z : ZR} (hz : sstep pm.T wr pm.M nx (ol.map (·.dst)) tm σ o = some z) (hp : EqB z.ps) (hc : gcond z.g z.c) (h : HG C KK R (nxZ ol dr o os tm σ nx ks k z)) : HG C KK R (.ops ol dr (o :: os) tm σ nx ks k) := by
 obtain ⟨q, hq, e1, e2, e3, hqc⟩ := sstep_g hz
 have h1 := hqc hp hc
 unfold HG
 refine aops_gs hT (wr := wr) (M := pm.M) (r := q) (by simpa using hq) h1 ?_
 rw [e1, e2, e3]
 exact h
theorem hd_f {t : Nat} (hg : guardV (ol.map (·.dst)) tm o = some (some false)) (ht : o.dst = some t) (h : HG C KK R (.ops ol dr os (upd tm t (.gd false (.b false))) σ nx (ks ++ [([], [])]) k)) : HG C KK R (.ops ol dr (o :: os) tm σ nx ks k) := by
 unfold HG
 exact aops_gfb (by simpa using hg) ht h
theorem hd_lit (hT : TabOk pm.T P) (h : opLit pm n l ol dr o os tm σ nx ks k = some r) (he : EqE r.e) (hk : HG C KK R r.g) : HG C KK R (.ops ol dr (o :: os) tm σ nx ks k) := by
 unfold opLit at h
 split at h
 ·
  rename_i z hz
  split at h
  ·
   rename_i hd
   injection h with h; subst h
   refine hd_z hT hz he.tl.ps ?_ hk
   have h1 := he.hd
   injection h1 with h1
   have h2 := PQ.ok hd
   rw [← h1] at h2
   unfold gcond
   split
   ·
    exact h2
   ·
    exact fun _ => h2
  ·
   cases h
 ·
  cases h
theorem gcond_of {g : Option Bool} {c p : Prop} (h : CE.p c = CE.p p) (hp : p) : gcond g c := by
 injection h with h
 rw [← h] at hp
 unfold gcond
 split
 ·
  exact hp
 ·
  exact fun _ => hp
theorem hd_plain (hT : TabOk pm.T P) (h : opPlain pm n l ol dr o os tm σ nx ks k = some r) (he : EqE r.e) (hk : HG C KK R r.g) : HG C KK R (.ops ol dr (o :: os) tm σ nx ks k) := by
 unfold opPlain at h
 split at h
 ·
  split at h
  ·
   rename_i z hz
   injection h with h; subst h
   exact hd_z hT hz he.tl.ps (gcond_of he.hd trivial) hk
  ·
   cases h
 ·
  split at h
  ·
   rename_i g hg
   split at h
   ·
    split at h
    ·
     rename_i t ht
     injection h with h; subst h
     exact hd_f hg ht hk
    ·
     cases h
   ·
    exact hd_lit hT h he hk
  ·
   exact hd_lit hT h he hk
theorem callQ_spec {e : Operand → V} {f : FuncId} {as0 : List V} (h : callQ e o = some (f, as0)) : ∃ d fo ar ats ty pos af gd first caps, o = ⟨d, .call { callee := .value fo, args := ar, argTypes := ats }, ty, pos, af, gd⟩ ∧ e fo = .fn (.func f) first caps ∧ first ++ ar.toList.map e ++ caps = as0 := by
 obtain ⟨d, op, ty, pos, af, gd⟩ := o
 unfold callQ at h
 simp only at h
 split at h
 ·
  rename_i c
  obtain ⟨callee, args, ats⟩ := c
  simp only at h
  split at h
  ·
   rename_i fo
   split at h
   ·
    rename_i f' first caps hf
    injection h with h
    injection h with h1 h2
    subst h1
    exact ⟨d, fo, args, ats, ty, pos, af, gd, first, caps, rfl, hf, h2⟩
   ·
    cases h
  ·
   cases h
 ·
  cases h
theorem hd_item (hT : TabOk pm.T P) {it : It P} (h : opItem pm n l ol dr o os tm σ nx ks k it = some r) (he : EqE r.e) (hk : HG C KK R r.g) : HG C KK R (.ops ol dr (o :: os) tm σ nx ks k) := by
 unfold opItem at h
 split at h
 ·
  rename_i p hp
  split at h
  ·
   rename_i z hz
   injection h with h; subst h
   exact hd_z hT hz he.tl.ps (gcond_of he.hd hp) hk
  ·
   cases h
 ·
  rename_i g p hp
  split at h
  ·
   rename_i z hz
   split at h
   ·
    rename_i g0 hg0
    injection h with h; subst h
    refine hd_z hT hz he.tl.tl.ps ?_ hk
    have h1 := he.hd
    have h2 := he.tl.hd
    injection h1 with h1
    injection h2 with h2
    rw [hg0, h1, h2]
    exact hp
   ·
    cases h
  ·
   cases h
 ·
  split at h
  ·
   rename_i z hz
   injection h with h; subst h
   have h1 := he.hd
   injection h1 with h1
   exact hd_z hT hz he.tl.tl.ps (gcond_of he.tl.hd (PQ.ok h1)) hk
  ·
   cases h
 ·
  split at h
  ·
   rename_i z hz
   injection h with h; subst h
   exact hd_z hT hz he.tl.ps (gcond_of he.hd trivial) hk
  ·
   cases h
 ·
  rename_i p hp
  split at h
  ·
   rename_i z hz
   injection h with h; subst h
   exact hd_z hT hz he.tl.ps (gcond_of he.hd hp) hk
  ·
   cases h
 ·
  rename_i p hp
  split at h
  ·
   rename_i z hz
   injection h with h; subst h
   have h1 := he.hd
   injection h1 with h1
   unfold HG
   exact aops_gs hT (wr := false) (M := pm.M) (r := z) (by simpa using hz) (by rw [h1]; exact hp) hk
  ·
   cases h
 ·
  split at h
  ·
   rename_i g hg
   split at h
   ·
    rename_i t ht
    injection h with h; subst h
    have h1 := he.hd
    injection h1 with h1
    subst h1
    exact hd_f hg ht hk
   ·
    cases h
  ·
   cases h
 ·
  rename_i f args v hc
  split at h
  ·
   rename_i hg
   split at h
   ·
    rename_i t ht
    split at h
    ·
     rename_i f' as' hq
     split at h
     ·
      rename_i hb
      injection h with h; subst h
      obtain ⟨d, fo, ar, ats, ty, pos, af, gd, first, caps, rfl, hf, ha⟩ := callQ_spec hq
      simp only at ht hg
      subst ht hg
      have h1 := he.hd
      injection h1 with h1 h2
      subst h1 h2
      simp only [Bool.and_eq_true] at hb
      unfold HG
      exact e_call hc hf ha hb.2.1 hb.2.2 hb.1 hk
     ·
      cases h
    ·
     cases h
   ·
    cases h
  ·
   cases h
 ·
  rename_i g f args v hc
  split at h
  ·
   rename_i g0 hg
   split at h
   ·
    rename_i t ht
    split at h
    ·
     rename_i f' as' hq
     split at h
     ·
      rename_i hb
      injection h with h; subst h
      have hps := he.tl.tl.ps
      obtain ⟨d, fo, ar, ats, ty, pos, af, gd, first, caps, rfl, hf, ha⟩ := callQ_spec hq
      simp only at ht
      subst ht
      have h0 := he.hd
      have h1 := he.tl.hd
      injection h0 with h0
      injection h1 with h1 h2
      subst h0 h1 h2
      simp only [Bool.and_eq_true, decide_eq_true_eq] at hb
      unfold HG
      refine aops_guard (pre := []) (by simpa using hg) (fun x hx => ugL_spec (gdsP_ug hps) _ (opsV_mem hx)) (fun hg' => ?_) hk
      have := as_call (W := C.W) (LB := C.LB) (d := some t) (ty := ty) (pos := pos) (af := af) (gd := gd) (ats := ats) (ev := fun x => ug (ev tm x)) (hc hg') hf ha hb.2.1 nx (by simpa using hb.1) (by simp)
      rw [V.ren_idf _ _ hb.2.2] at this
      exact ⟨this, by simp⟩
     ·
      cases h
    ·
     cases h
   ·
    cases h
  ·
   cases h
 ·
  rename_i f args v obs hc
  split at h
  ·
   rename_i hg
   split at h
   ·
    rename_i t ht
    split at h
    ·
     rename_i f' as' hq
     split at h
     ·
      rename_i hb
      injection h with h; subst h
      obtain ⟨d, fo, ar, ats, ty, pos, af, gd, first, caps, rfl, hf, ha⟩ := callQ_spec hq
      simp only at ht hg
      subst ht hg
      have h1 := he.hd
      injection h1 with h1 h2
      subst h1 h2
      simp only [Bool.and_eq_true, decide_eq_true_eq] at hb
      unfold HG
      exact aops_call hc hf ha hb.2.1 (by simpa using hb.1) rfl (Nat.le_of_ble_eq_true hb.2.2) hk
     ·
      cases h
    ·
     cases h
   ·
    cases h
  ·
   cases h
theorem hd_step (hT : TabOk pm.T P) (h : opStep pm n l ol dr o os tm σ nx ks k = some r) (he : EqE r.e) (hk : HG C KK R r.g) : HG C KK R (.ops ol dr (o :: os) tm σ nx ks k) := by
 unfold opStep at h
 split at h
 ·
  exact hd_plain hT h he hk
 ·
  split at h
  ·
   exact hd_item hT h he hk
  ·
   exact hd_plain hT h he hk
end
theorem hg_hd {g : Cfg} (h : HdW C Q g) : HG C (fun ol dr nx k tm' σ' ks' => (dr = true → okDraw ol ks' = true) ∧ Wk C Q k .normal ⟨tm', σ', nx + 1⟩) (HdW C Q) g := by
 cases g <;> exact h
theorem wk_c {y : Code} {k : List Fr} {e : Exit} {s : S} (hne : e ≠ .normal) (h : Wk C Q k e s) : Wk C Q (.c y :: k) e s := by
 cases e <;> first | exact absurd rfl hne | exact h
theorem wk_l {y : Code} {m : Nat} {k : List Fr} {e : Exit} {s : S} (hne : e ≠ .normal) (h : Wk C Q k e s) : Wk C Q (.l y m :: k) e s := by
 cases e <;> first | exact absurd rfl hne | exact h
theorem wk_b {id : Nat} {k : List Fr} {e : Exit} {s : S} (hne : ∀ i, e ≠ .exit i) (h : Wk C Q k e s) : Wk C Q (.b id :: k) e s := by
 cases e <;> first | exact absurd rfl (hne _) | exact h
theorem wk_s {k : List Fr} {e : Exit} {s : S} (hne : ∀ i, e ≠ .goto i) (h : Wk C Q k e s) : Wk C Q (.s :: k) e s := by
 cases e <;> first | exact absurd rfl (hne _) | exact h
theorem stp_sound {g : Cfg} {r : Nx P} (hT : TabOk pm.T P) (hN : pm.N = N) (h : stp pm n l g = some r) (he : EqE r.e) (hk : HdW C Q r.g) : HdW C Q g := by
 unfold stp at h
 split at h
 ·
  rename_i e k s
  split at h
  ·
   cases h
  ·
   split at h
   ·
    injection h with h; subst h
    exact hk
   ·
    rename_i hne
    injection h with h; subst h
    exact wk_c hne hk
  ·
   split at h
   ·
    split at h
    ·
     rename_i hb
     injection h with h; subst h
     have hb := Nat.eq_of_beq_eq_true hb
     subst hb
     exact xb_same hk
    ·
     rename_i hb
     injection h with h; subst h
     exact xb_ne (by simpa using Nat.ne_of_beq_eq_false hb) hk
   ·
    rename_i hne
    injection h with h; subst h
    exact wk_b hne hk
  ·
   split at h
   ·
    split at h
    ·
     cases h
    ·
     injection h with h; subst h
     exact hk
   ·
    rename_i hne
    injection h with h; subst h
    exact wk_l hne hk
  ·
   split at h
   ·
    cases h
   ·
    rename_i hne
    injection h with h; subst h
    exact wk_s hne hk
 ·
  rename_i c k s
  split at h
  ·
   injection h with h; subst h; exact aw_skip hk
  ·
   injection h with h; subst h; exact aw_label hk
  ·
   injection h with h; subst h; exact aw_exit hk
  ·
   injection h with h; subst h; exact aw_ret hk
  ·
   injection h with h; subst h; exact aw_seq hk
  ·
   injection h with h; subst h; exact aw_block hk
  ·
   injection h with h; subst h; exact aw_scope hk
  ·
   split at h
   ·
    cases h
   ·
    split at h
    ·
     cases h
    ·
     injection h with h; subst h
     rename_i u hu
     exact aw_rounds (u + 1) hk
  ·
   split at h
   ·
    cases h
   ·
    split at h
    ·
     rename_i t ht
     split at h
     ·
      injection h with h; subst h
      exact aw_cond ht (fun _ => hk) fun h => by cases h
     ·
      injection h with h; subst h
      exact aw_cond ht (fun h => by cases h) fun _ => hk
    ·
     cases h
  ·
   rename_i id ops dr
   split at h
   ·
    cases h
   ·
    split at h
    ·
     rename_i hok
     injection h with h; subst h
     rw [hN] at hok
     have e : ops = ops.toList.toArray := by simp
     unfold HdW at hk ⊢
     cases dr with
     | false =>
      rw [e]
      refine aw_region (s := s) hok ?_
      refine AOps.mono hk fun tm' σ' ks' h => h.2
     | true =>
      rw [e]
      refine aw_regionD (s := s) hok ?_
      refine AOps.mono hk fun tm' σ' ks' h => ⟨h.1 rfl, h.2⟩
    ·
     cases h
  ·
   cases h
 ·
  rename_i ol dr rest tm σ nx ks k
  split at h
  ·
   split at h
   ·
    injection h with h; subst h
    exact ⟨(fun h => nomatch h), hk⟩
   ·
    split at h
    ·
     rename_i hok
     injection h with h; subst h
     exact ⟨fun _ => hok, hk⟩
    ·
     cases h
  ·
   split at h
   ·
    cases h
   ·
    exact hd_step (C := C) (KK := fun ol dr nx k tm' σ' ks' => (dr = true → okDraw ol ks' = true) ∧ Wk C Q k .normal ⟨tm', σ', nx + 1⟩) (R := HdW C Q) hT h he (hg_hd hk)
theorem run_sound (hT : TabOk pm.T P) (hN : pm.N = N) : ∀ {m n : Nat} {l : List (Nat × It P)} {g : Cfg}, EqE (runW pm m n l g) → HdW C Q (runC pm m n l g) → HdW C Q g
 | 0, _, _, _, _, h => h
 | m + 1, n, l, g, he, h => by
  unfold runW at he
  unfold runC at h
  split at h
  ·
   rename_i r hr
   rw [hr] at he
   exact stp_sound hT hN hr he.l (run_sound hT hN he.r h)
  ·
   exact h
theorem eqE_of : ∀ {l : List (CE × CE)}, l.map Prod.fst = l.map Prod.snd → EqE l
 | [], _ => fun p hp => by cases hp
 | x :: l, h => by
  simp only [List.map_cons, List.cons.injEq] at h
  intro p hp
  rcases List.mem_cons.1 hp with rfl | hp
  ·
   exact h.1
  ·
   exact eqE_of h.2 p hp
def opC (pm : Pm) : Nat → List (Nat × It P) → Cfg → Cfg
 | 0, _, g => g
 | n + 1, l, g => match g with
  | .ops ol dr (o :: os) tm σ nx ks k => match opStep pm n l ol dr o os tm σ nx ks k with
   | some r => opC pm n r.l r.g
   | none => .ops ol dr (o :: os) tm σ nx ks k
  | g => g
def opE (pm : Pm) : Nat → List (Nat × It P) → Cfg → List (CE × CE)
 | 0, _, _ => []
 | n + 1, l, g => match g with
  | .ops ol dr (o :: os) tm σ nx ks k => match opStep pm n l ol dr o os tm σ nx ks k with
   | some r => r.e ++ opE pm n r.l r.g
   | none => []
  | _ => []
theorem op_sound (hT : TabOk pm.T P) : ∀ {n : Nat} {l : List (Nat × It P)} {g : Cfg}, EqE (opE pm n l g) → HG C KK R (opC pm n l g) → HG C KK R g
 | 0, _, _, _, h => h
 | n + 1, l, g, he, h => by
  unfold opE at he
  unfold opC at h
  split at h
  ·
   split at h
   ·
    rename_i r hr
    simp only [hr] at he
    exact hd_step hT hr he.l (op_sound hT he.r h)
   ·
    exact h
  ·
   exact h
end
def stO : Cfg → S
 | .code _ _ s => s
 | .ops _ _ _ tm σ nx _ _ => ⟨tm, σ, nx⟩
 | .done _ _ s => s
def ksO : Cfg → List (List Nat × List Nat)
 | .ops _ _ _ _ _ _ ks _ => ks
 | _ => []
def opO : Cfg → Option (List Oper × Nat × List Oper)
 | .ops ol _ rest _ _ nx _ _ => some (ol, nx, rest)
 | _ => none
def codO : Cfg → Option Code
 | .code c [] _ => some c
 | _ => none
def exO : Cfg → Option Exit
 | .done e [] _ => some e
 | _ => none
def tl : Nat → Code → Code
 | 0, c => c
 | j + 1, .seq _ y => tl j y
 | _ + 1, c => c
section
variable {P : Program} {N : Nat} {C : Cx P N} {T : List TI} {Q : Exit → S → Prop} {c : Code} {tm : Nat → V} {σ : Nat → Option Ob} {nx : Nat}
theorem sJ (hT : TabOk T P) (j n : Nat) (l : List (Nat × It P))
  (hk : AW C (tl j c) Q ⟨(stO (runC ⟨T, N, [], 0, false⟩ 100000 n l (.code c [] ⟨tm, σ, nx⟩))).tm, (stO (runC ⟨T, N, [], 0, false⟩ 100000 n l (.code c [] ⟨tm, σ, nx⟩))).σ, (stO (runC ⟨T, N, [], 0, false⟩ 100000 n l (.code c [] ⟨tm, σ, nx⟩))).nx⟩)
  (he : (runW ⟨T, N, [], 0, false⟩ 100000 n l (.code c [] ⟨tm, σ, nx⟩)).map Prod.fst = (runW ⟨T, N, [], 0, false⟩ 100000 n l (.code c [] ⟨tm, σ, nx⟩)).map Prod.snd := by kernel_rfl)
  (hc : codO (runC ⟨T, N, [], 0, false⟩ 100000 n l (.code c [] ⟨tm, σ, nx⟩)) = some (tl j c) := by kernel_rfl) : AW C c Q ⟨tm, σ, nx⟩ := by
 refine run_sound (C := C) (Q := Q) (g := .code c [] ⟨tm, σ, nx⟩) hT rfl (eqE_of he) ?_
 revert hc hk
 generalize runC _ _ _ _ _ = g
 intro hk hc
 unfold codO at hc
 split at hc
 ·
  injection hc with hc
  subst hc
  exact hk
 ·
  cases hc
theorem sZ (hT : TabOk T P) (e : Exit) (n : Nat) (l : List (Nat × It P))
  (hk : Q e ⟨(stO (runC ⟨T, N, [], 0, false⟩ 100000 n l (.code c [] ⟨tm, σ, nx⟩))).tm, (stO (runC ⟨T, N, [], 0, false⟩ 100000 n l (.code c [] ⟨tm, σ, nx⟩))).σ, (stO (runC ⟨T, N, [], 0, false⟩ 100000 n l (.code c [] ⟨tm, σ, nx⟩))).nx⟩)
  (he : (runW ⟨T, N, [], 0, false⟩ 100000 n l (.code c [] ⟨tm, σ, nx⟩)).map Prod.fst = (runW ⟨T, N, [], 0, false⟩ 100000 n l (.code c [] ⟨tm, σ, nx⟩)).map Prod.snd := by kernel_rfl)
  (hc : exO (runC ⟨T, N, [], 0, false⟩ 100000 n l (.code c [] ⟨tm, σ, nx⟩)) = some e := by kernel_rfl) : AW C c Q ⟨tm, σ, nx⟩ := by
 refine run_sound (C := C) (Q := Q) (g := .code c [] ⟨tm, σ, nx⟩) hT rfl (eqE_of he) ?_
 revert hc hk
 generalize runC _ _ _ _ _ = g
 intro hk hc
 unfold exO at hc
 split at hc
 ·
  injection hc with hc
  subst hc
  exact hk
 ·
  cases hc
theorem aY (hT : TabOk T P) (n : Nat) (l : List (Nat × It P)) {ol os : List Oper} {ks : List (List Nat × List Nat)} {K : (Nat → V) → (Nat → Option Ob) → List (List Nat × List Nat) → Prop}
  (hk : AOps C ol.toArray nx (os.drop n) (stO (opC ⟨T, N, [], 0, false⟩ n l (.ops ol false os tm σ nx ks []))).tm (stO (opC ⟨T, N, [], 0, false⟩ n l (.ops ol false os tm σ nx ks []))).σ (ksO (opC ⟨T, N, [], 0, false⟩ n l (.ops ol false os tm σ nx ks []))) K)
  (he : (opE ⟨T, N, [], 0, false⟩ n l (.ops ol false os tm σ nx ks [])).map Prod.fst = (opE ⟨T, N, [], 0, false⟩ n l (.ops ol false os tm σ nx ks [])).map Prod.snd := by kernel_rfl)
  (hc : opO (opC ⟨T, N, [], 0, false⟩ n l (.ops ol false os tm σ nx ks [])) = some (ol, nx, os.drop n) := by kernel_rfl) : AOps C ol.toArray nx os tm σ ks K := by
 refine op_sound (C := C) (KK := fun _ _ _ _ => K) (R := fun _ => False) (g := .ops ol false os tm σ nx ks []) hT (eqE_of he) ?_
 revert hc hk
 generalize opC _ _ _ _ = g
 intro hk hc
 unfold opO at hc
 split at hc
 ·
  injection hc with hc
  injection hc with h1 h2
  injection h2 with h2 h3
  subst h1 h2 h3
  exact hk
 ·
  cases hc
end
theorem sC {P : Program} {N : Nat} {C : Cx P N} {T : List TI} {c : Code} {tm : Nat → V} {σ : Nat → Option Ob} {nx : Nat} {fn : Func} {v : V} (hT : TabOk T P) (l : List (Nat × It P))
  (he : (runW ⟨T, N, [], 10000, true⟩ 1000000 1000000 l (.code c [] ⟨tm, σ, nx⟩)).map Prod.fst = (runW ⟨T, N, [], 10000, true⟩ 1000000 1000000 l (.code c [] ⟨tm, σ, nx⟩)).map Prod.snd := by kernel_rfl)
  (hc : exO (runC ⟨T, N, [], 10000, true⟩ 1000000 1000000 l (.code c [] ⟨tm, σ, nx⟩)) = some .ret := by kernel_rfl)
  (hres : resV T (stO (runC ⟨T, N, [], 10000, true⟩ 1000000 1000000 l (.code c [] ⟨tm, σ, nx⟩))) fn.results.toList = some v := by kernel_rfl) (hi : v.idf = true := by kernel_rfl) : AW C c (RetPost T fn v []) ⟨tm, σ, nx⟩ := by
 refine run_sound (C := C) (Q := RetPost T fn v []) (g := .code c [] ⟨tm, σ, nx⟩) hT rfl (eqE_of he) ?_
 revert hc hres
 generalize runC _ _ _ _ _ = g
 intro hc hres
 unfold exO at hc
 split at hc
 ·
  injection hc with hc
  subst hc
  exact ret_pure (.inr rfl) hres rfl hi
 ·
  cases hc
end Go.Ab

namespace Go.Ab
open Go.RowKit Go.Dw
def kExtract (v : V) (i : Nat) : Option SR := match v with
 | .tup cs => match cs[i]? with
  | some v => some (resSR True v)
  | none => none
 | _ => none
def kBin (T : List TI) (wr : Bool) (op : BinOp) (t : Nat) (u v : V) : Option SR := match binV wr op u v with
 | some (c, v) => some (resSR c v)
 | none => eqSR T op t u v
def kUn (wr : Bool) (op : UnOp) (v : V) : Option SR := match op with
 | .not => match v with
  | .c (.bool b) => some (resSR True (.b (!b)))
  | _ => none
 | .neg => match v with
  | .c (.int k a) => if wr then some (resSR True (.c (.int k (k.wrap (0 - a))))) else some (resSR (inR k (-a)) (.c (.int k (-a))))
  | _ => none
 | _ => none
def kConv (T : List TI) (wr : Bool) (s t : Nat) (v : V) : Option SR := match v with
 | .c (.int _ a) => match (T.getD t ti0).kind with
  | some k => if (T.getD s ti0).some' = true then (if wr then some (resSR True (.c (.int k (k.wrap a)))) else some (resSR (inR k a) (.c (.int k a)))) else none
  | none => none
 | _ => none
def kFld (T : List TI) (s f : Nat) (v : V) : Option SR := match ((T.getD s ti0).fld[f]?).join with
 | some off => match v with
  | .ptr cs => some (resSR True (.ptr (cs.drop off)))
  | .ref id o => some (resSR True (.ref id (o + off)))
  | .oel id sz i o => some (resSR True (.oel id sz i (o + off)))
  | _ => none
 | none => none
def kIdx (T : List TI) (t : Nat) (σ : Nat → Option Ob) (u v : V) : Option SR := match v with
 | .c (.int _ i) => indexSR T t σ u i
 | _ => none
def kSlice (T : List TI) (M : List Nat) (nx : Nat) (d : Option Tmp) (e : Operand → V) (σ : Nat → Option Ob) (t : Nat) (x : Operand) (lo hi mx : Option Operand) : Option SR := match mx with
 | none => sliceSR T M nx d e σ t x lo hi
 | some _ => none
def kAlloc (T : List TI) (nx : Nat) (d : Option Tmp) (t : Nat) : Option SR := match (T.getD t ti0).zero with
 | some zs => some ⟨True, .ref (nx * 100000 + d.getD 0) 0, [], [nx * 100000 + d.getD 0], [(nx * 100000 + d.getD 0, some (.box t zs))]⟩
 | none => none
def kBox (M : List Nat) (nx : Nat) (d : Option Tmp) (t : Nat) (v : V) : Option SR := match cellsV v with
 | some us => if M.contains (d.getD 0) then some ⟨True, .ref (nx * 100000 + d.getD 0) 0, [], [nx * 100000 + d.getD 0], [(nx * 100000 + d.getD 0, some (.box t us))]⟩
  else if V.idfL us = true then some (resSR True (.ptr us)) else none
 | none => none
def kBuild (T : List TI) (t : Nat) (parts : List (Nat × V)) : Option SR := match (T.getD t ti0).zero, (T.getD t ti0).pl with
 | some zs, some pl => match fillV (pl[·]?) zs parts with
  | some us => some (resSR True (.agg us))
  | none => none
 | _, _ => none
def kBuildS (T : List TI) (M : List Nat) (nx : Nat) (d : Option Tmp) (t n : Nat) (parts : List (Nat × V)) : Option SR := match (T.getD t ti0).elem with
 | some el => match (T.getD el ti0).zero, (T.getD el ti0).size with
  | some zs, some sz => match fillV (fun i => some (i * sz, sz)) (repV n zs) parts with
   | some cs => if zs.length = sz ∧ 0 < sz ∧ n * sz ≤ 4096 ∧ cs.length = n * sz then (if M.contains (d.getD 0) then
     some ⟨True, .own (nx * 100000 + d.getD 0), [], [nx * 100000 + d.getD 0], [(nx * 100000 + d.getD 0, some (.row el sz n fun i => (cs.drop (i * sz)).take sz))]⟩
    else if V.idfL cs = true then some (resSR True (.sl sz n fun i => (cs.drop (i * sz)).take sz)) else none) else none
   | none => none
  | _, _ => none
 | none => none
def kMake (T : List TI) (nx : Nat) (d : Option Tmp) (t : Nat) (u v : V) : Option SR := match u, v with
 | .c (.int _ l), .c (.int _ c) => match (T.getD t ti0).elem with
  | some el => match (T.getD el ti0).zero, (T.getD el ti0).size with
   | some zs, some sz => if elemOk T el sz zs then some ⟨0 ≤ l ∧ l ≤ c ∧ c ≤ 1099511627776, .own (nx * 100000 + d.getD 0), [], [nx * 100000 + d.getD 0], [(nx * 100000 + d.getD 0, some (.row el sz l.toNat fun _ => zs))]⟩ else none
   | _, _ => none
  | none => none
 | _, _ => none
def kLen (T : List TI) (σ : Nat → Option Ob) (e : Operand → V) (c : Call) : Option SR := match c.args, c.argTypes with
 | ⟨[x]⟩, ⟨[t]⟩ => lenSR T t σ (e x)
 | _, _ => none
def kApp (T : List TI) (nx : Nat) (d : Option Tmp) (ty : Nat) (σ : Nat → Option Ob) (e : Operand → V) (c : Call) : Option SR := match c.args, c.argTypes with
 | ⟨[s, x]⟩, ⟨[t, t']⟩ => match appendSR T t (nx * 100000 + d.getD 0) σ (e s) (e x) with
  | some r => if t' = t ∧ ty = t then some r else none
  | none => none
 | _, _ => none
def kMax (e : Operand → V) (c : Call) : Option SR := match c.args with
 | ⟨[x, y]⟩ => match e x, e y with
  | .c (.int k a), .c (.int k' b) => if k = k' then some (resSR True (.c (.int k (max a b)))) else none
  | _, _ => none
 | ⟨[x, y, z]⟩ => match e x, e y, e z with
  | .c (.int k a), .c (.int k' b), .c (.int k'' q) => if k = k' ∧ k = k'' then some (resSR True (.c (.int k (max (max a b) q)))) else none
  | _, _, _ => none
 | ⟨[x, y, z, u]⟩ => match e x, e y, e z, e u with
  | .c (.int k a), .c (.int k' b), .c (.int k'' q), .c (.int k3 p) => if k = k' ∧ k = k'' ∧ k = k3 then some (resSR True (.c (.int k (max (max (max a b) q) p)))) else none
  | _, _, _, _ => none
 | _ => none
def kMin (e : Operand → V) (c : Call) : Option SR := match c.args with
 | ⟨[x, y]⟩ => match e x, e y with
  | .c (.int k a), .c (.int k' b) => if k = k' then some (resSR True (.c (.int k (min a b)))) else none
  | _, _ => none
 | _ => none
def kCall (T : List TI) (nx : Nat) (d : Option Tmp) (ty : Nat) (σ : Nat → Option Ob) (e : Operand → V) (c : Call) : Option SR := match c.callee with
 | .builtin .len => kLen T σ e c
 | .builtin .append => kApp T nx d ty σ e c
 | .builtin .max => kMax e c
 | .builtin .min => kMin e c
 | _ => none
def kstep1 (T : List TI) (wr : Bool) (M : List Nat) (nx : Nat) (o : Oper) (e : Operand → V) (σ : Nat → Option Ob) : Option SR :=
 match o.op with
 | .move x => some (resSR True (e x))
 | .assign x => some (resSR True (e x))
 | .extract x i => kExtract (e x) i
 | .binOp op t x y _ => kBin T wr op t (e x) (e y)
 | .unOp op _ x => kUn wr op (e x)
 | .convert s t x => kConv T wr s t (e x)
 | .fieldAddr s x f => kFld T s f (e x)
 | .indexAddr t x ix => kIdx T t σ (e x) (e ix)
 | .load t x => loadSR T t σ (e x)
 | .store t x y => storeSR T t σ (e x) (e y)
 | .slice t x lo hi mx => kSlice T M nx o.dst e σ t x lo hi mx
 | .alloc t => kAlloc T nx o.dst t
 | .box t y => kBox M nx o.dst t (e y)
 | .build t parts => kBuild T t (parts.toList.map fun p => (p.1, e p.2))
 | .buildSlice t n parts => kBuildS T M nx o.dst t n (parts.toList.map fun p => (p.1, e p.2))
 | .makeSlice t x y => kMake T nx o.dst t (e x) (e y)
 | .makeFunc f first caps => some (resSR True (.fn f (first.toList.map e) (caps.toList.map e)))
 | .call c => kCall T nx o.dst o.type σ e c
 | _ => none
theorem kUn_eq {wr : Bool} {op : UnOp} {v : V} : kUn wr op v = (match op with
  | .not => match v with
   | .c (.bool b) => some (resSR True (.b (!b)))
   | _ => none
  | .neg => match v with
   | .c (.int k a) => if wr then some (resSR True (.c (.int k (k.wrap (0 - a))))) else some (resSR (inR k (-a)) (.c (.int k (-a))))
   | _ => none
  | _ => none) := rfl
theorem kstep1_eq (T : List TI) (wr : Bool) (M : List Nat) (nx : Nat) (o : Oper) (e : Operand → V) (σ : Nat → Option Ob) : kstep1 T wr M nx o e σ = astep T wr M nx o e σ := by
 obtain ⟨d, op, ty, pos, af, gd⟩ := o
 cases op <;> try rfl
 case unOp op t x => cases op <;> rfl
def k2Idx (T : List TI) (t : Nat) (u v : V) : Option SR := match u, v with
 | .agg cs, .c (.int _ i) => match (T.getD t ti0).arr with
  | some (n, el) => match (T.getD el ti0).size with
   | some sz => match loadV T el (cs.drop (i.toNat * sz)) with
    | some v => some (resSR (0 ≤ i ∧ i < n) v)
    | none => none
   | none => none
  | none => none
 | _, _ => none
def k2Build (T : List TI) (t : Nat) (parts : List (Nat × V)) : Option SR := match (T.getD t ti0).zero, (T.getD t ti0).arr with
 | some zs, some (_, el) => match (T.getD el ti0).size with
  | some sz => match fillV (fun i => some (i * sz, sz)) zs parts with
   | some us => some (resSR True (.agg us))
   | none => none
  | none => none
 | _, _ => none
def k2Slice (T : List TI) (t : Nat) (v : V) (lo hi mx : Option Operand) : Option SR := match lo, hi, mx with
 | none, none, none => match v, (T.getD t ti0).arr with
  | .ptr cs, some (n, el) => match (T.getD el ti0).size with
   | some sz => if cs.length = n * sz then some (resSR True (.sl sz n fun i => (cs.drop (i * sz)).take sz)) else none
   | none => none
  | _, _ => none
 | _, _, _ => none
def k2Copy (T : List TI) (σ : Nat → Option Ob) (e : Operand → V) (c : Call) : Option SR := match c.args, c.argTypes with
 | ⟨[x, y]⟩, ⟨[t, _]⟩ => match (T.getD t ti0).elem with
  | some el => if (T.getD el ti0).size = some 1 then (match e x, e y with
   | .own id, .sl sz m row' => match σ id with
    | some (.row e' sz' n row) => if sz = 1 ∧ sz' = 1 then some ⟨0 < n ∧ 0 < m, .i ((min m n : Nat) : Int), [(id, .row e' sz' n row)], [], [(id, some (.row e' sz' n fun j => if j < min m n then row' j else row j))]⟩ else none
    | _ => none
   | _, _ => none) else none
  | none => none
 | _, _ => none
def k2Eq (T : List TI) (t : Nat) (u v : V) : Option SR := match u, v with
 | .c (.bool a), .c (.bool b) => if (T.getD t ti0).eqn = some 1000000 then some (resSR True (.b (a == b))) else none
 | .c (.string a), .c (.string b) => some (resSR True (.b (a.toList == b.toList)))
 | u, .c (.pointer none) => match ptrNil u with
  | some b => if (T.getD t ti0).eqn = some 1000002 then some (resSR True (.b b)) else none
  | none => none
 | _, _ => match (T.getD t ti0).elem with
  | some _ => match nilV u v with
   | some (c, b) => some (resSR c (.b (b)))
   | none => none
  | none => none
def k2Ne (T : List TI) (t : Nat) (u v : V) : Option SR := match u, v with
 | .c (.bool a), .c (.bool b) => if (T.getD t ti0).eqn = some 1000000 then some (resSR True (.b (!(a == b)))) else none
 | .c (.string a), .c (.string b) => some (resSR True (.b (!(a.toList == b.toList))))
 | u, .c (.pointer none) => match ptrNil u with
  | some b => if (T.getD t ti0).eqn = some 1000002 then some (resSR True (.b (!b))) else none
  | none => none
 | _, _ => match (T.getD t ti0).elem with
  | some _ => match nilV u v with
   | some (c, b) => some (resSR c (.b (!b)))
   | none => none
  | none => none
def k2Bin (T : List TI) (op : BinOp) (t : Nat) (u v : V) : Option SR := match op with
 | .eql => k2Eq T t u v
 | .neq => k2Ne T t u v
 | _ => none
def k2Call (T : List TI) (σ : Nat → Option Ob) (e : Operand → V) (c : Call) : Option SR := match c.callee with
 | .builtin .copy => k2Copy T σ e c
 | _ => none
def k2Nil (v : V) : Option SR := match v.isPtr with
 | true => some (resSR True v)
 | false => none
def kstep2 (T : List TI) (o : Oper) (e : Operand → V) (σ : Nat → Option Ob) : Option SR :=
 match o.op with
 | .index t x ix => k2Idx T t (e x) (e ix)
 | .build t parts => k2Build T t (parts.toList.map fun p => (p.1, e p.2))
 | .slice t x lo hi mx => k2Slice T t (e x) lo hi mx
 | .call c => k2Call T σ e c
 | .nilCheck x => k2Nil (e x)
 | .binOp op t x y _ => k2Bin T op t (e x) (e y)
 | _ => none
theorem kstep2_eq (T : List TI) (o : Oper) (e : Operand → V) (σ : Nat → Option Ob) : kstep2 T o e σ = astep2 T o e σ := by
 obtain ⟨d, op, ty, pos, af, gd⟩ := o
 cases op <;> try rfl
 case binOp op t x y t' => cases op <;> rfl
 case slice t x lo hi mx => cases lo <;> cases hi <;> cases mx <;> rfl
 case nilCheck x =>
  show k2Nil (e x) = if (e x).isPtr = true then some (resSR True (e x)) else none
  unfold k2Nil
  cases (e x).isPtr <;> rfl
def kstep (T : List TI) (wr : Bool) (M : List Nat) (nx : Nat) (o : Oper) (e : Operand → V) (σ : Nat → Option Ob) : Option SR :=
 match kstep1 T wr M nx o e σ with
 | some r => some r
 | none => match kstep2 T o e σ with
  | some r => some r
  | none => match astep3 T nx o e σ with
   | some r => some r
   | none => astep4 T o e
theorem kstep_eq (T : List TI) (wr : Bool) (M : List Nat) (nx : Nat) (o : Oper) (e : Operand → V) (σ : Nat → Option Ob) : kstep T wr M nx o e σ = astepX T wr M nx o e σ := by
 unfold kstep astepX
 rw [kstep1_eq, kstep2_eq]
 rfl
def qAr (wr : Bool) (op : BinOp) (k : IntKind) (a b : Int) : PQ := match op with
 | .add => match wr with | true => .tt | false => inQ k (a + b)
 | .sub => match wr with | true => .tt | false => inQ k (a - b)
 | .mul => match wr with | true => .tt | false => inQ k (a * b)
 | .quo => match wr with | true => .ne b 0 | false => .and (.lt 0 b) (inQ k a)
 | .rem => .ne b 0
 | .shl => match wr with | true => .le 0 b | false => .and (.le 0 b) (.and (.le b k.bits) (inQ k (a * 2 ^ b.toNat)))
 | .shr => .le 0 b
 | _ => .tt
def qBin (wr : Bool) (op : BinOp) (u v : V) : PQ := match u, v with
 | .c (.int k a), .c (.int _ b) => qAr wr op k a b
 | .sl _ n _, .nil => .nlt 0 n
 | .nil, .sl _ n _ => .nlt 0 n
 | _, _ => .tt
def qNeg (wr : Bool) (v : V) : PQ := match v with
 | .c (.int k a) => match wr with | true => .tt | false => inQ k (-a)
 | _ => .tt
def qConv (T : List TI) (wr : Bool) (t : Nat) (v : V) : PQ := match v with
 | .c (.int _ a) => match (T.getD t ti0).kind with
  | some k => match wr with | true => .tt | false => inQ k a
  | none => .tt
 | _ => .tt
def qArr (T : List TI) (t : Nat) (i : Int) : PQ := match (T.getD t ti0).arr with
 | some (n, _) => ixQ i n
 | none => .tt
def qIdx (T : List TI) (t : Nat) (σ : Nat → Option Ob) (u v : V) : PQ := match v with
 | .c (.int _ i) => match u with
  | .sl _ n _ => ixQ i n
  | .own id => match σ id with
   | some (.row _ _ n _) => ixQ i n
   | _ => .tt
  | _ => qArr T t i
 | _ => .tt
def qIx2 (T : List TI) (t : Nat) (u v : V) : PQ := match v with
 | .c (.int _ i) => match u with
  | .c (.string b) => ixQ i b.size
  | _ => qArr T t i
 | _ => .tt
def qLoad (σ : Nat → Option Ob) (v : V) : PQ := match v with
 | .ref id o => match σ id with
  | some (.box _ cs) => .nle o cs.length
  | _ => .tt
 | .oel id _ i o => match σ id with
  | some (.row _ _ n row) => .and (.nlt i n) (.nle o (row i).length)
  | _ => .tt
 | _ => .tt
def qStore (σ : Nat → Option Ob) (u v : V) : PQ := match cellsV v with
 | some us => match u with
  | .ref id o => match σ id with
   | some (.box _ cs) => .nle (o + us.length) cs.length
   | _ => .tt
  | .oel id _ i o => match σ id with
   | some (.row _ _ n row) => .and (.nlt i n) (.nle (o + us.length) (row i).length)
   | _ => .tt
  | _ => .tt
 | none => .tt
def qSlice (σ : Nat → Option Ob) (e : Operand → V) (v : V) (lo hi : Option Operand) : PQ := match v with
 | .sl _ n _ => slQ e lo hi n false
 | .own id => match σ id with
  | some (.row _ _ n _) => slQ e lo hi n true
  | _ => .tt
 | .c (.string b) => slQ e lo hi b.size false
 | _ => .tt
def qMake (u v : V) : PQ := match u, v with
 | .c (.int _ l), .c (.int _ c) => .and (.le 0 l) (.and (.le l c) (.le c 1099511627776))
 | _, _ => .tt
def qApp (σ : Nat → Option Ob) (e : Operand → V) (c : Call) : PQ := match c.args with
 | ⟨[s, x]⟩ => match e x with
  | .sl _ m _ => match e s with
   | .nil => .nle m 1099511627776
   | .own id => match σ id with
    | some (.row _ _ n _) => .nle (n + m) 1099511627776
    | _ => .tt
   | _ => .tt
  | .own id1 => match σ id1 with
   | some (.row _ _ m _) => match e s with
    | .nil => .nle m 1099511627776
    | .own id => match σ id with
     | some (.row _ _ n _) => .nle (n + m) 1099511627776
     | _ => .tt
    | _ => .tt
   | _ => .tt
  | _ => .tt
 | _ => .tt
def qCopy (σ : Nat → Option Ob) (e : Operand → V) (c : Call) : PQ := match c.args with
 | ⟨[x, y]⟩ => match e x, e y with
  | .own id, .sl _ m _ => match σ id with
   | some (.row _ _ n _) => .and (.nlt 0 n) (.nlt 0 m)
   | _ => .tt
  | _, _ => .tt
 | _ => .tt
def qCall (σ : Nat → Option Ob) (e : Operand → V) (c : Call) : PQ := match c.callee with
 | .builtin .append => qApp σ e c
 | .builtin .copy => qCopy σ e c
 | _ => .tt
def qLook (T : List TI) (t : Nat) (σ : Nat → Option Ob) (u v : V) : PQ := match mcode T t, u, mkOf v with
 | some (_, et), .own id, some key => match σ id with
  | some (.mp _ f) => match vzOf T et with
   | some vz => match (T.getD et ti0).kind with
    | some _ => .re (mget f key vz)
    | none => .tt
   | none => .tt
  | _ => .tt
 | _, _, _ => .tt
def qStep (T : List TI) (wr : Bool) (o : Oper) (e : Operand → V) (σ : Nat → Option Ob) : PQ :=
 match o.op with
 | .binOp op _ x y _ => qBin wr op (e x) (e y)
 | .unOp .neg _ x => qNeg wr (e x)
 | .convert _ t x => qConv T wr t (e x)
 | .indexAddr t x ix => qIdx T t σ (e x) (e ix)
 | .index t x ix => qIx2 T t (e x) (e ix)
 | .load _ x => qLoad σ (e x)
 | .store _ x y => qStore σ (e x) (e y)
 | .slice _ x lo hi none => qSlice σ e (e x) lo hi
 | .makeSlice _ x y => qMake (e x) (e y)
 | .lookup t m k _ => qLook T t σ (e m) (e k)
 | .call c => qCall σ e c
 | _ => .tt
end Go.Ab

namespace Go.Ab
open Go.RowKit Go.Dw
theorem Real.ptr {W : Nat → Prop} {w : World} {L : Nat → Prop} {ρ : Nat → Option Value} {id t : Nat} {cs : List V} (h : Real W w L ρ id (.box t cs)) (hi : V.idfL cs = true) :
  ∃ v, ρ id = some v ∧ (∀ k, blk v = some k → k < w.heap.size ∧ W k ∧ ¬ L k) ∧ R w (fun b => L b ∨ blk v = some b) ρ (.ptr cs) v := by
 obtain ⟨v', hv', hlt⟩ := h.lt
 obtain ⟨b, xs, h1, h2, h3, h4, h5⟩ := h
 rw [h1] at hv'; injection hv' with hv'; subst hv'
 refine ⟨_, h1, hlt, ?_⟩
 refine .ptr _ _ _ _ (fun j => xs.toList.getD j undef) (.inr rfl) (fun j u hu => ?_) fun j u hu => ?_
 ·
  obtain ⟨y, hy, hr, hone⟩ := h5.get hu
  have hg : xs.toList.getD j undef = y := by simp [List.getD_eq_getElem?_getD, hy]
  rw [hg]
  refine ⟨?_, hone⟩
  rw [Nat.zero_add]
  rw [cell_of_row w b j xs t (0, 0) h4]
  simpa using hy
 ·
  obtain ⟨y, hy, hr, hone⟩ := h5.get hu
  have hg : xs.toList.getD j undef = y := by simp [List.getD_eq_getElem?_getD, hy]
  rw [hg]
  exact (hr.free (V.idfL_get hi hu) ρ0).ext ⟨fun b hb => ⟨.inl hb, rfl⟩, fun _ _ h => h⟩
def V.flatT : V → Bool
 | .tup cs => V.flatL cs
 | v => v.flat
theorem R.flatT {w w' : World} {L L' : Nat → Prop} {ρ ρ' : Nat → Option Value} {u : V} {x : Value} (h : R w L ρ u x) (hf : u.flatT = true) : R w' L' ρ' u x := by
 cases u with
 | tup cs =>
  obtain ⟨xs, rfl, hx⟩ := h.tup_inv
  exact .tup' ⟨hx.1, fun i v y hv hy => (hx.2 i v y hv hy).flat (V.flatL_get hf hv)⟩
 | _ => exact h.flat hf
theorem AC.box {P : Program} {f : FuncId} {args args' : List V} {v : V} (h : AC P f args' v []) (t : TypeId) {cs : List V} (ha : V.fzL 500 (.ptr cs) args = args') (hi : V.idfL args' = true) (hi2 : V.idfL cs = true) (hv : v.flatT = true) :
  AM P f args [.box t cs] v [some (.box t cs)] [] := by
 refine ⟨h.1, fun W LB L w ρ vs hwl hWL hG hρ hvs => ?_⟩
 have hσ : insF [.box t cs] 500 = some (.box t cs) := rfl
 obtain ⟨v0, hv0, hlt, hs⟩ := (hG.ob 500 _ hσ).ptr hi2
 have ex : Ext w L ρ w (fun b => L b ∨ blk v0 = some b) ρ := ⟨fun b hb => ⟨.inl hb, rfl⟩, fun _ _ h => h⟩
 have hrv : RV w (fun b => L b ∨ blk v0 = some b) ρ0 args' vs.toList := by
  refine RV.free (ρ := ρ) ?_ hi
  rw [← ha]
  refine ⟨by rw [V.fzL_len]; exact hvs.1, fun i u x hu hx => ?_⟩
  rw [V.fzL_get] at hu
  cases hc : args[i]? with
  | none => rw [hc] at hu; cases hu
  | some a =>
   rw [hc] at hu
   simp only [Option.map_some, Option.some.injEq] at hu
   subst hu
   refine R_fz (fun y hy => ?_) _ _ ((hvs.2 i a x hc hx).ext ex)
   rw [hv0] at hy; injection hy with hy; subst hy; exact hs
 refine (h.2 (fun b => L b ∨ blk v0 = some b) w vs (fun b hb => ?_) (hG.glE ex) hrv).mono ?_
 ·
  rcases hb with hb | hb
  ·
   exact (hG.ll b hb).1
  ·
   exact (hlt b hb).1
 rintro ee w' ⟨x, rfl, hbel, L', ρ', hG', hL', hx, hnn⟩
 obtain ⟨hG2, ex2⟩ := hG.quiet hbel (L' := L) (fun _ h => h) (fun _ h => .inl h)
 have e : outF [some (.box t cs)] [] = insF [.box t cs] := by
  funext id
  unfold outF insF
  by_cases h5 : 500 ≤ id
  ·
   rw [if_pos h5, if_pos h5]
   cases hk : id - 500 with
   | zero => rfl
   | succ n => simp
  ·
   rw [if_neg h5, if_neg h5]; simp
 refine ⟨x, rfl, Tch.of_below hbel fun k _ hk => (hG.new k hk).1, L, ρ, ?_, ex2, hx.flatT hv, fun j _ hj => hρ j hj⟩
 rw [e]; exact hG2
end Go.Ab

namespace Go.Ab
open Go.RowKit Go.Dw
def ObZ (id : Nat) (v0 : V) : Ob → Ob → Prop
 | .box t cs, .box t' cs' => t = t' ∧ (cs' = V.fzL id v0 cs ∨ cs' = cs)
 | .row e sz n f, .row e' sz' n' f' => e = e' ∧ sz = sz' ∧ n = n' ∧ ∀ i, i < n → f' i = V.fzL id v0 (f i) ∨ f' i = f i
 | .mp s f, .mp s' f' => s = s' ∧ (f' = f.map (V.fz id v0) ∨ f' = f)
 | _, _ => False
theorem RL_fz {w : World} {L : Nat → Prop} {ρ : Nat → Option Value} {id : Nat} {v0 : V} (h0 : ∀ y, ρ id = some y → R w L ρ v0 y) {us : List V} {xs : List Value} (h : RL w L ρ us xs) : RL w L ρ (V.fzL id v0 us) xs := by
 refine ⟨by rw [← h.1, V.fzL_len], fun i u x hu hx => ?_⟩
 rw [V.fzL_get] at hu
 cases hc : us[i]? with
 | none => rw [hc] at hu; cases hu
 | some u' =>
  rw [hc] at hu
  injection hu with hu
  subst hu
  obtain ⟨q1, q2⟩ := h.2 i u' x hc hx
  exact ⟨R_fz h0 _ _ q1, q2⟩
theorem Real.z {W L : Nat → Prop} {w : World} {ρ : Nat → Option Value} {id j : Nat} {v0 : V} {o o' : Ob} (h0 : ∀ y, ρ id = some y → R w L ρ v0 y) (h : Real W w L ρ j o) (hz : ObZ id v0 o o') : Real W w L ρ j o' := by
 cases o with
 | box t cs =>
  cases o' with
  | box t' cs' =>
   obtain ⟨rfl, rfl | rfl⟩ := hz
   ·
    obtain ⟨b, xs, h1, h2, h3, h4, h5⟩ := h
    exact ⟨b, xs, h1, h2, h3, h4, RL_fz h0 h5⟩
   ·
    exact h
  | row _ _ _ _ => exact hz.elim
  | mp _ _ => exact hz.elim
 | row e sz n f =>
  cases o' with
  | row e' sz' n' f' =>
   obtain ⟨rfl, rfl, rfl, hf⟩ := hz
   obtain ⟨v, xs, h1, h2, h3, h4, h5⟩ := h
   have hlen : ∀ i, i < n → (f' i).length = (f i).length := fun i hi => by
    rcases hf i hi with e | e <;> rw [e]
    exact V.fzL_len _ _ _
   refine ⟨v, xs, h1, h2, fun i hi => (hlen i hi).trans (h3 i hi), ?_, h5⟩
   have key : ∀ (m : Nat), m ≤ n → ∀ xs, RL w L ρ (slRows m f).flatten xs → RL w L ρ (slRows m f').flatten xs := by
    intro m
    induction m with
    | zero => intro _ xs h; exact h
    | succ m ih =>
     intro hm xs h
     have e1 : ∀ g : Nat → List V, (slRows (m + 1) g).flatten = (slRows m g).flatten ++ g m := fun g => by
      simp [slRows, List.range_succ]
     rw [e1] at h ⊢
     have hl := h.1
     rw [List.length_append] at hl
     have ex : xs = xs.take (slRows m f).flatten.length ++ xs.drop (slRows m f).flatten.length := by simp
     have ha : RL w L ρ (slRows m f).flatten (xs.take (slRows m f).flatten.length) := by
      have := h.sub 0 (slRows m f).flatten.length
      simpa using this
     have hb : RL w L ρ (f m) (xs.drop (slRows m f).flatten.length) := by
      have := h.sub (slRows m f).flatten.length (f m).length
      rw [List.drop_left, List.take_length, List.take_of_length_le (by rw [List.length_drop]; omega)] at this
      exact this
     rw [ex]
     refine (ih oM _ ha).append ?_
     rcases hf m oM with e | e <;> rw [e]
     ·
      exact RL_fz h0 hb
     ·
      exact hb
   exact key n (Nat.le_refl _) xs h4
  | box _ _ => exact hz.elim
  | mp _ _ => exact hz.elim
 | mp s f =>
  cases o' with
  | mp s' f' =>
   obtain ⟨rfl, rfl | rfl⟩ := hz
   ·
    obtain ⟨B, es, cl, hv', hBW, hBL, hh, hl⟩ := h
    exact ⟨B, es, cl, hv', hBW, hBL, hh, hl.mapF (fun v => by rw [V.fz]) fun i u x _ hr => R_fz h0 _ _ hr⟩
   ·
    exact h
  | box _ _ => exact hz.elim
  | row _ _ _ _ => exact hz.elim
theorem Le.fzG {s : S} (id : Nat) {ob : Ob} (hσ : s.σ id = some ob) (v0 : V) {σ' : Nat → Option Ob} (hs : ∀ i o', σ' i = some o' → i ≠ id ∧ ∃ o, s.σ i = some o ∧ ObZ id v0 o o')
  (h0 : ∀ (W : Nat → Prop) (w : World) (L : Nat → Prop) (ρ : Nat → Option Value), Real W w L ρ id ob → ∀ y, ρ id = some y → R w (fun b => L b ∨ blk y = some b) ρ v0 y) : Le s ⟨fun t => V.fz id v0 (s.tm t), σ', s.nx⟩ := by
 intro P N C a w ⟨L, ρ, h⟩
 have hr := h.g.ob id _ hσ
 obtain ⟨v, hv, hlt⟩ := hr.lt
 have ex : Ext w L ρ w (fun b => L b ∨ blk v = some b) ρ := ⟨fun b hb => ⟨.inl hb, rfl⟩, fun _ _ h => h⟩
 have h0' : ∀ y, ρ id = some y → R w (fun b => L b ∨ blk v = some b) ρ v0 y := fun y hy => by
  have hy' := hy
  rw [hv] at hy'; injection hy' with hy'; subst hy'
  exact h0 _ _ _ _ hr _ hy
 refine ⟨fun b => L b ∨ blk v = some b, ρ, ⟨⟨fun b hbl => ?_, h.g.new, fun id' o' (ho : σ' id' = some o') => ?_, fun i j x y k hij (hi : σ' i ≠ none) (hj : σ' j ≠ none) => ?_, h.g.glE ex⟩, h.fr, fun t => R_fz h0' _ _ ((h.tm t).ext ex), h.size, ?_, h.pin⟩⟩
 ·
  rcases hbl with hbl | hbl
  ·
   exact h.g.ll b hbl
  ·
   exact ⟨(hlt b hbl).1, C.wl b (hlt b hbl).2.1⟩
 ·
  obtain ⟨hne, o, ho', hz⟩ := hs id' o' ho
  have k := (h.g.ob id' o ho').keep ex fun x k hx hk => ⟨rfl, by
   rintro (hL | hL)
   ·
    obtain ⟨y, hy, hy2⟩ := (h.g.ob id' o ho').lt
    rw [hx] at hy; injection hy with hy; subst hy
    exact (hy2 k hk).2.2 hL
   ·
    exact h.g.sep id' id x v k hne (by rw [ho']; simp) (by rw [hσ]; simp) hx hv hk hL⟩
  exact k.z h0' hz
 ·
  obtain ⟨o1, ho1⟩ := Option.ne_none_iff_exists'.1 hi
  obtain ⟨o2, ho2⟩ := Option.ne_none_iff_exists'.1 hj
  obtain ⟨_, p1, hp1, _⟩ := hs i o1 ho1
  obtain ⟨_, p2, hp2, _⟩ := hs j o2 ho2
  exact h.g.sep i j x y k hij (by rw [hp1]; simp) (by rw [hp2]; simp)
 ·
  obtain ⟨Ds, h4, h5, h6⟩ := h.defers
  refine ⟨Ds, h4, h5, fun D hD => ?_⟩
  obtain ⟨h7, h8, h9⟩ := h6 D hD
  refine ⟨h7, h8, ?_⟩
  rintro (hL | hL)
  ·
   exact h9 hL
  ·
   exact hr.no_deferred hv hL h7
theorem as_eqO {P : Program} {W LB : Nat → Prop} {d : Option Tmp} {ty : TypeId} {pos : String} {af : Array Edge} {gd : Option (Nat × Bool)} {ev : Operand → V} (t t' : TypeId) (x y : Operand) {e0 sz n id el : Nat} {row : Nat → List V} (he : tElem P t = some el) (hx : ev x = .own id) (hy : ev y = .nil) (hn : 0 < n) :
  AStep P W LB ⟨d, .binOp .eql t x y t', ty, pos, af, gd⟩ ev (.b false) [(id, .row e0 sz n row)] [] [] ∧ AStep P W LB ⟨d, .binOp .neq t x y t', ty, pos, af, gd⟩ ev (.b true) [(id, .row e0 sz n row)] [] [] := by
 have hu := tElem_some he
 have run : ∀ w A c', (Op.equalIn Op.maxDepth t (.slice (some A) n c') (.slice none 0 0)).run P w = .ok false w := by
  intro w A c'
  show (Op.equalIn (_ + 1) t _ _).run P w = _
  unfold Op.equalIn
  simp [run_underlying' hu]
 have key : ∀ {σ : Nat → Option Ob} {w : World} {L : Nat → Prop} {ρ : Nat → Option Value} {g : Operand → Value}, G W LB σ w L ρ → R w L ρ (ev x) (g x) → R w L ρ (ev y) (g y) → σ id = some (.row e0 sz n row) → ∃ A c', g x = .slice (some A) n c' ∧ g y = .slice none 0 0 := by
  intro σ w L ρ g hG h1 h2 hσ
  rw [hx] at h1
  rw [hy] at h2
  have hρ := h1.own_inv
  obtain ⟨v, xs, hv, hown, _⟩ := hG.ob id _ hσ
  rw [hρ] at hv; injection hv with hv
  rcases hown.2 with ⟨_, h0⟩ | ⟨g', cap, cur, h3, _⟩
  ·
   omega
  ·
   refine ⟨_, _, hv.trans h3, ?_⟩
   generalize g y = Y at h2
   cases h2; rfl
 constructor
 ·
  intro σ w L ρ g hG hr hpre _
  obtain ⟨A, c', e1, e2⟩ := key hG (hr x (by simp [Op.operands])) (hr y (by simp [Op.operands])) (hpre _ (List.mem_cons_self ..))
  exact OpDoes.value (v := .bool false) (w' := w) rfl (by simp [execOp, e1, e2, eqGuard, binOp, Op.equal, run w A c']) ⟨L, ρ, hG, .c _ _, Tch.refl _ _, Ext.refl _ _ _, fun _ _ => rfl, DefK.refl _ _⟩
 ·
  intro σ w L ρ g hG hr hpre _
  obtain ⟨A, c', e1, e2⟩ := key hG (hr x (by simp [Op.operands])) (hr y (by simp [Op.operands])) (hpre _ (List.mem_cons_self ..))
  exact OpDoes.value (v := .bool true) (w' := w) rfl (by simp [execOp, e1, e2, eqGuard, binOp, Op.equal, run w A c']) ⟨L, ρ, hG, .c _ _, Tch.refl _ _, Ext.refl _ _ _, fun _ _ => rfl, DefK.refl _ _⟩
theorem ap_mkIfc {P : Program} {d : Option Tmp} {ty : TypeId} {pos : String} {af : Array Edge} {gd : Option (Nat × Bool)} {ev : Operand → V} (t : Nat) (x : Operand) (h : tAgg P t = some true) : APure P ⟨d, .makeInterface t x, ty, pos, af, gd⟩ ev (.ifc t (ev x)) :=
 APure.same rfl fun w L ρ g hr => by
  have h1 := hr x (by simp [Op.operands])
  refine ⟨.iface t (g x), ?_, .ifc _ _ _ _ h1⟩
  unfold tAgg at h
  cases hu : P.underlying t with
  | none => rw [hu] at h; cases h
  | some u =>
   rw [hu] at h
   have hr' := fun w => run_underlying' (w := w) hu
   cases u <;> first
    | (simp at h; done)
    | simp [execOp, Instr.makeInterface, hr']
theorem ap_nilIfc {P : Program} {d : Option Tmp} {ty : TypeId} {pos : String} {af : Array Edge} {gd : Option (Nat × Bool)} {ev : Operand → V} (x : Operand) {t : Nat} {v : V} (hx : ev x = .ifc t v) : APure P ⟨d, .nilCheck x, ty, pos, af, gd⟩ ev (.ifc t v) :=
 APure.same rfl fun w L ρ g hr => by
  have h1 := hr x (by simp [Op.operands])
  rw [hx] at h1
  have h2 : ∃ y, g x = .iface t y := by
   generalize g x = y at h1
   cases h1
   exact ⟨_, rfl⟩
  refine ⟨g x, ?_, h1⟩
  obtain ⟨y, hy⟩ := h2
  simp [execOp, hy]
def MethSpec (P : Program) (name : String) (t : Nat) (f : FuncId) : Prop := ∀ (v : Value) (w : World), (method (P.types.size + Made.depth) t v name).run P w = .ok (f, v) w
def methQ (P : Program) (name : String) (t : Nat) : Option FuncId := match P.info? t with
 | some i => match i.methods.find? (·.name == name) with
  | some m => match m.path.toList with
   | [] => match m.func with
    | some (f, false) => match tAgg P t with
     | some true => some f
     | _ => none
    | _ => none
   | _ :: _ => none
  | none => none
 | none => none
theorem methQ_ok {P : Program} {name : String} {t : Nat} {f : FuncId} (h : methQ P name t = some f) : MethSpec P name t f := by
 intro v w
 unfold methQ at h
 split at h
 ·
  rename_i i hi
  split at h
  ·
   rename_i m hm
   split at h
   ·
    rename_i hp
    split at h
    ·
     rename_i f' hf
     split at h
     ·
      rename_i ha
      injection h with h; subst h
      have hti : (typeInfo t).run P w = .ok i w := by simp [typeInfo, go_sem, hi]
      unfold tAgg at ha
      cases hu : P.underlying t with
      | none => rw [hu] at ha; cases ha
      | some u =>
       rw [hu] at ha
       have hr' := fun w => run_underlying' (w := w) hu
       show (method ((P.types.size + 99) + 1) t v name).run P w = _
       unfold method
       cases u <;> first
        | (simp at ha; done)
        | simp [hti, hm, hp, hf, follow, receiverAt, hr', Place.get]
     ·
      cases h
    ·
     cases h
   ·
    cases h
  ·
   cases h
 ·
  cases h
end Go.Ab

namespace Go.Ab
open Go.RowKit Go.Dw
theorem AC.shut1 {P : Program} {f : FuncId} {args : List V} {v v' : V} {e : TypeId} {sz n n' : Nat} {row row' : Nat → List V} (h : AC P f args v [.row e sz n row]) (hn : n = n') (hr : ∀ i, i < n → row i = row' i) (hi : ∀ i, V.idfL (row' i) = true) (hv : V.fz 0 (.sl sz n' row') v = v') (hidf : v'.idf = true) : AC P f args v' [] := by
 subst hn
 refine ⟨h.1, fun L w vs hL hgl hvs => (h.2 L w vs hL hgl hvs).mono ?_⟩
 rintro ee w' ⟨x, rfl, hb, L', ρ', hG, hL', hx, hnn⟩
 have hre : Real (fun b => w.heap.size ≤ b) w' L' ρ' 0 (.row e sz n row') := (hG.ob 0 _ rfl).eq ⟨rfl, rfl, rfl, hr⟩
 obtain ⟨v0, hv0, hlt, hs⟩ := hre.slice fun i _ => hi i
 have ex : Ext w' L' ρ' w' (fun b => L' b ∨ blk v0 = some b) ρ' := ⟨fun b hb => ⟨.inl hb, rfl⟩, fun _ _ h => h⟩
 refine ⟨x, rfl, hb, fun b => L' b ∨ blk v0 = some b, ρ0, ⟨fun b hbl => ?_, hG.new, (fun id o ho => by cases ho), fun i j y z k _ hi => absurd rfl hi, hG.glE ex⟩, fun b hbl => .inl (hL' b hbl), ?_, fun _ _ => rfl⟩
 ·
  rcases hbl with h1 | h1
  ·
   exact hG.ll b h1
  ·
   exact ⟨(hlt b h1).1, .inr (hlt b h1).2.1⟩
 ·
  subst hv
  refine (R_fz (fun y hy => ?_) v x (hx.ext ex)).free hidf ρ0
  rw [hv0] at hy; injection hy with hy; subst hy; exact hs
end Go.Ab

namespace Go.Ab
open Go.RowKit Go.Dw
def selK (c G : List Int) (k n : Nat) : List Int := ((List.range n).filter fun i => decide (gi G i = (k : Int))).map (gi c)
theorem selK_succ (c G : List Int) (k n : Nat) : selK c G k (n + 1) = if gi G n = (k : Int) then selK c G k n ++ [gi c n] else selK c G k n := by
 unfold selK
 rw [List.range_succ, List.filter_append, List.map_append]
 by_cases h : gi G n = (k : Int) <;> simp [h]
theorem selK_len (c G : List Int) (k n : Nat) : (selK c G k n).length ≤ n := by
 unfold selK
 rw [List.length_map]
 exact Nat.le_trans (List.length_filter_le _ _) (by simp)
theorem selK_co {c G : List Int} (h : CO c) {k n : Nat} (hn : n ≤ c.length) : CO (selK c G k n) := by
 intro x hx
 simp only [selK, List.mem_map, List.mem_filter, List.mem_range] at hx
 obtain ⟨i, ⟨hi, _⟩, rfl⟩ := hx
 exact h.gi oM
theorem selK_gi {c G : List Int} {k n : Nat} (h : gi G n = (k : Int)) {i : Nat} (hi : i < (selK c G k n).length + 1) : appRow (selK c G k n).length (fun j => [V.i (gi (selK c G k n) j)]) (fun i => List.take 1 (List.drop (i * 1) [V.i (gi c n)])) i = [V.i (gi (selK c G k (n + 1)) i)] := by
 rw [selK_succ, if_pos h, appRow]
 simp only [gi, List.getD_eq_getElem?_getD, List.getElem?_append]
 by_cases hl : i < (selK c G k n).length
 ·
  rw [if_pos hl, if_pos hl]
 ·
  rw [if_neg hl, if_neg hl, show i - (selK c G k n).length = 0 by omega]
  rfl
theorem appI_row (g : List Int) (k : Int) {f0 : Nat → List V} {i : Nat} (hi : i < 0 + g.length + 1) : appRow (0 + g.length) (appRow 0 f0 (fun k => [V.i (gi g k)])) (fun i => List.take 1 (List.drop (i * 1) [V.i k])) i = [V.i (gi (g ++ [k]) i)] := by
 rw [Nat.zero_add] at hi ⊢
 rw [appRow]
 simp only [gi, List.getD_eq_getElem?_getD, List.getElem?_append]
 by_cases h2 : i < g.length
 ·
  rw [if_pos h2, if_pos h2, appRow, if_neg (Nat.not_lt_zero _), Nat.sub_zero]
 ·
  rw [if_neg h2, if_neg h2, show i - g.length = 0 by omega]; rfl
def rsumL (c : List Int) (slots plate : Int) (G : List Int) : List Nat → Int → Int × Bool
 | [], a => (a, true)
 | k :: l, a => if (selK c G k G.length).length = 0 then rsumL c slots plate G l a else if slots < ((selK c G k G.length).length : Int) then (0, false) else rsumL c slots plate G l (a + plate + fewN (selK c G k G.length) slots)
def rcostV (c : List Int) (slots plate : Int) (G : List Int) : Int × Bool := rsumL c slots plate G (List.range G.length) 0
theorem range_drop {n k : Nat} (h : k < n) : (List.range n).drop k = k :: (List.range n).drop (k + 1) := by
 rw [List.drop_eq_getElem_cons (by simpa using h)]
 simp
def isGN : List Int → Int → Bool
 | [], _ => true
 | x :: g, n => if x < 0 ∨ n < x then false else isGN g (if x = n then n + 1 else n)
theorem isGN_drop {g : List Int} {k : Nat} (hk : k < g.length) (n : Int) : isGN (g.drop k) n = if gi g k < 0 ∨ n < gi g k then false else isGN (g.drop (k + 1)) (if gi g k = n then n + 1 else n) := by
 rw [List.drop_eq_getElem_cons hk, isGN]
 simp [gi, List.getD_eq_getElem?_getD, List.getElem?_eq_getElem hk]
def cmbR (a r : List Int × Int × Bool) : List Int × Int × Bool := if r.2.2 = true ∧ (a.2.2 = false ∨ r.2.1 < a.2.1) then r else a
def bestR (c : List Int) (slots plate : Int) : Nat → List Int → Nat → List Int × Int × Bool
 | 0, g, _ => (g, (rcostV c slots plate g).1, (rcostV c slots plate g).2)
 | d + 1, g, u => (List.range (u + 1)).foldl (fun a (k : Nat) => cmbR a (bestR c slots plate d (g ++ [(k : Int)]) (max u (k + 1)))) ([], 0, false)
def bestF (c : List Int) (slots plate : Int) (d : Nat) (g : List Int) (u k : Nat) : List Int × Int × Bool := (List.range k).foldl (fun a (k : Nat) => cmbR a (bestR c slots plate d (g ++ [(k : Int)]) (max u (k + 1)))) ([], 0, false)
theorem bestF_succ (c : List Int) (slots plate : Int) (d : Nat) (g : List Int) (u k : Nat) : bestF c slots plate d g u (k + 1) = cmbR (bestF c slots plate d g u k) (bestR c slots plate d (g ++ [(k : Int)]) (max u (k + 1))) := by
 unfold bestF
 rw [List.range_succ, List.foldl_append]
 rfl
theorem bestR_len (c : List Int) (slots plate : Int) : ∀ (d : Nat) (g : List Int) (u : Nat), (bestR c slots plate d g u).1.length ≤ g.length + d := by
 intro d
 induction d with
 | zero => intro g u; exact Nat.le_refl _
 | succ d ih =>
  intro g u
  show (bestF c slots plate d g u (u + 1)).1.length ≤ _
  generalize u + 1 = n
  induction n with
  | zero => simp [bestF]
  | succ n ihn =>
   rw [bestF_succ, cmbR]
   split
   ·
    have := ih (g ++ [(n : Int)]) (max u (n + 1))
    simp at this
    omega
   ·
    exact ihn
def rgangV (c : List Int) (slots plate : Int) : List Int × Int := if chkC c slots plate ≠ 0 then ([], 0) else ((bestR c slots plate c.length [] 0).1, (bestR c slots plate c.length [] 0).2.1)
def natI (l : List Nat) : List Int := l.map fun (n : Nat) => (n : Int)
def gangV (c : List Int) (slots plate : Int) : List Int × Int := if chkC c slots plate ≠ 0 then ([], 0) else if c.length = 0 then ([], 0) else (natI (nextG c slots plate c.length [] [] ([], -1, [])).1, (nextG c slots plate c.length [] [] ([], -1, [])).2.1)
theorem natI_row {l : List Nat} {i : Nat} (hi : i < l.length) : [V.i (gn l i : Nat)] = [V.i (gi (natI l) i)] := by
 simp [natI, gn, gi, List.getD_eq_getElem?_getD, List.getElem?_map, List.getElem?_eq_getElem hi]
end Go.Ab
