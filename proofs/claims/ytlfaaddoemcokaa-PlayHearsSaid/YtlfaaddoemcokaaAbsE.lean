/-
  Equality of structs of whole numbers. No condition.
-/
import Derived.Test.YtlfaaddoemcokaaBase
import Derived.DeepKeys
import Derived.ChangeKeysEq
namespace Go.Ab
open Go.RowKit Go.Dw

def eqZ : List Value → List Value → Bool
  | [], [] => true
  | .int _ a :: l, .int _ b :: m => (a == b) && eqZ l m
  | _, _ => false
def Ints2 : List Value → List Value → Prop
  | [], [] => True
  | .int k _ :: l, .int k' _ :: m => k = k' ∧ Ints2 l m
  | _, _ => False
theorem Ints2.len : ∀ {cs ds : List Value}, Ints2 cs ds → cs.length = ds.length
  | [], [], _ => rfl
  | .int _ _ :: l, .int _ _ :: m, h => by simp [Ints2.len h.2]
theorem Ints2.drop : ∀ (n : Nat) {cs ds : List Value}, Ints2 cs ds → Ints2 (cs.drop n) (ds.drop n)
  | 0, _, _, h => h
  | n + 1, [], [], _ => trivial
  | n + 1, .int _ _ :: l, .int _ _ :: m, h => Ints2.drop n h.2
theorem Ints2.take : ∀ (n : Nat) {cs ds : List Value}, Ints2 cs ds → Ints2 (cs.take n) (ds.take n)
  | 0, _, _, _ => trivial
  | n + 1, [], [], _ => trivial
  | n + 1, .int _ _ :: l, .int _ _ :: m, h => ⟨h.1, Ints2.take n h.2⟩
theorem eqZ_split : ∀ (n : Nat) {cs ds : List Value}, Ints2 cs ds → eqZ cs ds = (eqZ (cs.take n) (ds.take n) && eqZ (cs.drop n) (ds.drop n))
  | 0, _, _, _ => by simp [eqZ]
  | n + 1, [], [], _ => by simp [eqZ]
  | n + 1, .int _ _ :: l, .int _ _ :: m, h => by simp [eqZ, eqZ_split n h.2, Bool.and_assoc]
theorem Ints2.head : ∀ {cs ds : List Value}, Ints2 cs ds → cs.length = 1 → ∃ k a b, cs = [.int k a] ∧ ds = [.int k b]
  | [.int k a], [.int k' b], h, _ => by obtain ⟨rfl, _⟩ := h; exact ⟨k, a, b, rfl, rfl⟩
  | [], [], _, h => by simp at h
  | .int _ _ :: .int _ _ :: _, .int _ _ :: .int _ _ :: _, _, h => by simp at h

section
variable (P : Program)
def eqFs (r : Nat → Option Nat) : List Field → Nat → Option Nat
  | [], off => some off
  | f :: fs, off => if (f.name != "_" && f.offset == off) = true then match r f.type with
      | some n => if P.cellsOf f.type = n ∧ (P.info? f.type).isSome = true then eqFs r fs (off + n) else none
      | none => none
    else none
def eqFlat : Nat → Nat → Option Nat
  | 0, _ => none
  | d + 1, t => match P.underlying t with
    | some (.int _) => some 1
    | some (.struct fs) => if P.stoodInHeld t = true then none else eqFs P (eqFlat d) fs.toList 0
    | _ => none
def valF (t : Nat) (cs : List Value) : Value := match P.underlying t with
  | some (.int _) => cs.headD .nilFunc
  | _ => .agg cs.toArray
end
section
variable {P : Program}
theorem eqFs_le {r : Nat → Option Nat} : ∀ {fs : List Field} {off n : Nat}, eqFs P r fs off = some n → off ≤ n
  | [], off, n, h => by simp [eqFs] at h; omega
  | f :: fs, off, n, h => by
    simp only [eqFs] at h
    split at h
    · split at h
      · split at h
        · have := eqFs_le h; omega
        · cases h
      · cases h
    · cases h
theorem run_partF {d t m off : Nat} {cs : List Value} (h : eqFlat P d t = some m) (hc : P.cellsOf t = m) (hi : (P.info? t).isSome = true) (hl : off + m ≤ cs.length) (w : World) :
    (part t cs.toArray off).run P w = .ok (valF P t ((cs.drop off).take m)) w := by
  cases d with
  | zero => simp [eqFlat] at h
  | succ d =>
    simp only [eqFlat] at h
    cases hu : P.underlying t with
    | none => simp [hu] at h
    | some kd =>
      cases kd <;> simp only [hu] at h <;> try (cases h; done)
      case int k =>
        injection h with h
        subst h
        have hx : cs.toArray[off]? = some cs[off] := by simp [List.getElem?_eq_getElem (show off < cs.length by omega)]
        rw [run_part_plain (w := w) (by simp [Program.plainKey, hu]) hx]
        simp only [valF, hu]
        rw [List.drop_eq_getElem_cons (by omega)]
        rfl
      case struct fs =>
        obtain ⟨i, hi⟩ := Option.isSome_iff_exists.1 hi
        simp only [valF, hu]
        simp [part, isAgg, run_underlying hu, run_sizeOf w hi, hc]
theorem eqFields_run {d k : Nat} (ih : ∀ t n, eqFlat P d t = some n → ∀ (cs ds : List Value) (w : World), Ints2 cs ds → cs.length = n → (Op.equalIn (k + d) t (valF P t cs) (valF P t ds)).run P w = .ok (eqZ cs ds) w) :
    ∀ (fs : List Field) (off n : Nat), eqFs P (eqFlat P d) fs off = some n → ∀ (cs ds : List Value) (w : World), Ints2 cs ds → cs.length = n → (Op.eqFields (k + d) cs.toArray ds.toArray fs).run P w = .ok (eqZ (cs.drop off) (ds.drop off)) w
  | [], off, n, h, cs, ds, w, hi, hl => by
    simp only [eqFs, Option.some.injEq] at h
    subst h
    rw [List.drop_eq_nil_of_le (by omega), List.drop_eq_nil_of_le (by rw [← hi.len]; omega)]
    simp [Op.eqFields, eqZ]
  | f :: fs, off, n, h, cs, ds, w, hi, hl => by
    simp only [eqFs] at h
    split at h
    case isFalse => cases h
    rename_i hn
    simp only [Bool.and_eq_true, bne_iff_ne, ne_eq, beq_iff_eq] at hn
    split at h
    case h_2 => cases h
    rename_i m hm
    split at h
    case isFalse => cases h
    rename_i hs
    have hle := eqFs_le h
    have p1 := run_partF hm hs.1 hs.2 (off := off) (cs := cs) (by omega) w
    have p2 := run_partF hm hs.1 hs.2 (off := off) (cs := ds) (by rw [← hi.len]; omega) w
    have e1 := ih f.type m hm ((cs.drop off).take m) ((ds.drop off).take m) w ((hi.drop off).take m) (by simp; omega)
    have e2 := eqFields_run ih fs (off + m) n h cs ds w hi hl
    rw [Op.eqFields, if_pos hn.1]
    simp only [hn.2, Sem.run_bind, p1, p2, e1, Result.andThen_ok]
    rw [eqZ_split m (hi.drop off), List.drop_drop, List.drop_drop]
    cases eqZ ((cs.drop off).take m) ((ds.drop off).take m)
    · simp
    · simpa using e2
theorem eqFlat_run {k : Nat} : ∀ (d t n : Nat), eqFlat P d t = some n → ∀ (cs ds : List Value) (w : World), Ints2 cs ds → cs.length = n → (Op.equalIn (k + d) t (valF P t cs) (valF P t ds)).run P w = .ok (eqZ cs ds) w
  | 0, t, n, h, cs, ds, w, hi, hl => by simp [eqFlat] at h
  | d + 1, t, n, h, cs, ds, w, hi, hl => by
    simp only [eqFlat] at h
    cases hu : P.underlying t with
    | none => simp [hu] at h
    | some kd =>
      cases kd <;> simp only [hu] at h <;> try (cases h; done)
      case int q =>
        injection h with h
        obtain ⟨k', a, b, rfl, rfl⟩ := hi.head (by omega)
        simp only [valF, hu, List.headD_cons]
        rw [show k + (d + 1) = (k + d) + 1 from rfl, run_equalIn_int w (k + d) t k' q a b hu]
        simp [eqZ]
      case struct fs =>
        split at h
        · cases h
        · rename_i hp
          simp only [valF, hu]
          have hf : P.fieldsOf t = fs := by simp [Program.fieldsOf, hu]
          rw [show k + (d + 1) = (k + d) + 1 from rfl, run_equalIn_struct w (k + d) t _ _ (by rw [hf]; exact hu) (by simpa using hp), hf]
          have := eqFields_run (k := k) (eqFlat_run d) fs.toList 0 n h cs ds w hi hl
          simpa using this
/-- what the table of types says of it -/
def tEq (P : Program) (t : Nat) : Option Nat := match P.underlying t with
  | some (.struct _) => if P.eqGuardType P.depth t = true then none else eqFlat P 8 t
  | _ => none
theorem tEq_eql {t n : Nat} (h : tEq P t = some n) {x y : Operand} {xs ys : Array Value} (hi : Ints2 xs.toList ys.toList) (hl : xs.size = n) (w : World) :
    (eqGuard .eql t x y (.agg xs) (.agg ys)).run P w = .ok () w ∧ (binOp .eql t (.agg xs) (.agg ys)).run P w = .ok (.bool (eqZ xs.toList ys.toList)) w ∧
    (eqGuard .neq t x y (.agg xs) (.agg ys)).run P w = .ok () w ∧ (binOp .neq t (.agg xs) (.agg ys)).run P w = .ok (.bool (!eqZ xs.toList ys.toList)) w := by
  unfold tEq at h
  split at h
  case h_2 => cases h
  rename_i fs hu
  split at h
  · cases h
  rename_i hg
  have hg : P.eqGuardType P.depth t = false := by simpa using hg
  have key := eqFlat_run (P := P) (k := 9992) 8 t n h xs.toList ys.toList w hi (by simpa using hl)
  simp only [valF, hu] at key
  have key' : (Op.equalIn 10000 t (.agg xs) (.agg ys)).run P w = .ok (eqZ xs.toList ys.toList) w := by simpa using key
  refine ⟨run_eqGuard_agg w _ _ _ _ _ _ hg, ?_, run_eqGuard_agg w _ _ _ _ _ _ hg, ?_⟩
  · rw [run_eql_struct, key']; rfl
  · rw [run_neq_struct, key']; rfl
end
end Go.Ab
