/-
  From a contract of a law's function to its statement: how each shape of argument is opened, and how the answer is shut. No condition.
-/
import Derived.Test.YtlfaaddoemcokaaBase
import Derived.Test.YtlfaaddoemcokaaRows
import Derived.ProofKit
import Derived.SizedLaws
import Derived.Deep.SlicePairs
import Derived.Lib.SmallJoins
namespace Go.Dw
open Go.RowKit Go.ChangeShapes Go.WideShapes Go.ChangeAt Go.Deep

section
variable {H : Type} {enc : TypeId × Value → H} {P : Program}

theorem trodAll_below (hl : laidOutB P = true) {W W' : World} (hb : Below W.heap.size W W') : ∀ {ts : List TypeId} {vs : List Value} {ds : List (DataW H)} {ps : List MemPlace}
    (_ : ts.all (fun t => P.readableRec t && decide (t < P.types.size)) = true) (_ : DataW.TrodAll enc P W 0 (fun _ => true) true ts vs ds ps) (_ : ∀ x ∈ ps, x.block < W.heap.size),
    DataW.TrodAll enc P W' 0 (fun b => decide (b < W.heap.size)) true ts vs ds ps
  | [], _, _, _, _, h, _ => by
    obtain ⟨rfl, rfl, rfl⟩ := trodAll_nil h
    exact rfl
  | t :: ts, _, _, _, ht, h, hlt => by
    obtain ⟨v, vs1, d, ds1, a, b, rfl, rfl, rfl, h1, h2⟩ := trodAll_cons h
    simp only [List.all_cons, Bool.and_eq_true, decide_eq_true_eq] at ht
    exact trodAll_cons_mk (Below.trod hl ht.1.1 ht.1.2 h1 hb (fun x hx => hlt x (by simp [hx]))) (trodAll_below hl hb ht.2 h2 (fun x hx => hlt x (by simp [hx])))

/-- A law's answer is shut: it is true, and what came in reads as it did. -/
theorem post_true {f : Func} {s : ChangeSpec} {W W' : World} {args : Array Value} {ds : List (DataW H)} {before : List MemPlace} {tb : TypeId}
    (hv : s.vars = []) (hW : DataW.Whole enc P f.params.toList s.vars false W args.toList ds [] before) (hl : laidOutB P = true)
    (hrec : f.params.toList.all (fun t => P.readableRec t && decide (t < P.types.size)) = true) (hfn : s.fn H ds = { results := [.lit (.bool true)], args := ds })
    (hres : f.resultTypes = #[tb]) (htb : P.underlying tb = some .bool) (hb : Below W.heap.size W W') :
    s.post enc P f false true false false W args (.bool true) W' := by
  have hlt := hW.lt
  have hW' := hW
  obtain ⟨p, q, hA, hV, rfl, hfz, hnd⟩ := hW
  rw [hv] at hV
  obtain ⟨_, rfl⟩ := trodVars_none hV
  refine ⟨ds, [], _, [], p, [], hW', ?_, ?_, ?_, hb.frame _, fun h => by cases h⟩
  · rw [List.append_nil, hfn, hres]
    exact trodAll_mk1 (shut_bool htb true)
  · rw [List.append_nil, hfn]
    exact trodAll_below hl hb hrec hA (fun x hx => hlt x (by simp [hx]))
  · rw [List.append_nil, hfn, hv]
    exact rfl

theorem block_lt {w : World} {p : Addr} {v : Value} (h : w.cell? p = some v) : p.block < w.heap.size := by
  rcases Nat.lt_or_ge p.block w.heap.size with h1 | h1
  · exact h1
  · have : w.heap[p.block]? = none := by simp [h1]
    unfold World.cell? at h
    simp [this] at h

def encK (k : IntKind) (x : Int) : List Value := [.int k x]
theorem encI_eq : encI = encK .i64 := rfl

/-- A slice of numbers, as a cell. -/
theorem openIntsC {W : World} {t e : TypeId} {k : IntKind} {v : Value} {d : DataW H} {ps : List MemPlace} {fuel : Nat} (ht : P.underlying t = some (.slice e)) (he : P.underlying e = some (.int k)) (hc : P.cellsOf e = 1) (hby : 1 ≤ P.bytesOf e)
    (hf : DataW.trod enc P W 0 (fun _ => true) true fuel t [v] = some (d, ps)) (hsz : ∀ n ∈ d.weights P t, n ≤ reachBytes) :
    ∃ A n c l, v = .slice A n c ∧ n ≤ c ∧ c ≤ reachBytes ∧ SlAt (encK k) 1 W A n l ∧ ∀ x ∈ l, (Lit.int k x).wf = true := by
  rcases open_ints ht he hc hf with ⟨h1, h2⟩ | ⟨a, len, cap, zs, h1, _, hlc, _, hzl, h2, hcell, hwf⟩
  · simp only [List.cons.injEq, and_true] at h1
    subst h1
    exact ⟨_, _, _, [], rfl, Nat.le_refl _, Nat.zero_le _, SlAt.nil (encK k) 1 (fun _ => rfl) _ _, by simp⟩
  · simp only [List.cons.injEq, and_true] at h1
    subst h1
    simp only [if_true] at hzl
    simp only [Prod.mk.injEq] at h2
    obtain ⟨rfl, rfl⟩ := h2
    have hw := hsz ((((lits (H := H) k (zs.take len)).length + (lits (H := H) k (zs.drop len)).length) * P.bytesOf e)) (by simp [DataW.weights, ht])
    have hl : (lits (H := H) k (zs.take len)).length + (lits (H := H) k (zs.drop len)).length = cap := by simp [lits]; omega
    rw [hl] at hw
    have hc0 : cap ≤ reachBytes := Nat.le_trans (Nat.le_mul_of_pos_right _ hby) hw
    refine ⟨_, _, _, zs.take len, rfl, hlc, hc0, ⟨by simp; omega, fun _ => rfl, fun hn => ?_⟩, fun x hx => hwf x (List.mem_of_mem_take hx)⟩
    have hc1 := hcell 0 (by omega)
    have hs : a.spot = none := by simpa [Addr.add] using World.cell?_spot hc1
    obtain ⟨b, o, s⟩ := a
    simp only at hs
    subst hs
    refine ⟨b, o, rfl, by simpa [Addr.add] using block_lt hc1, fun i hi j hj => ?_⟩
    simp at hi
    have := hcell i (by omega)
    have hj0 : j = 0 := by omega
    subst hj0
    rw [add_plain] at this
    simp only [Nat.mul_one, Nat.add_zero, encK, List.getElem?_cons_zero, List.getElem_take]
    rw [this, List.getD_eq_getElem?_getD, List.getElem?_eq_getElem (by omega)]
    rfl
/-- A slice of numbers. -/
theorem openInts {W : World} {r : Reach} {b0 : Nat} {t e : TypeId} {k : IntKind} {v : Value} {d : DataW H} {ps : List MemPlace} (ht : P.underlying t = some (.slice e)) (he : P.underlying e = some (.int k)) (hc : P.cellsOf e = 1) (hby : 1 ≤ P.bytesOf e)
    (hval : Value.okWide P W r b0 t v) (h : DataW.Trod enc P W 0 (fun _ => true) true t v d ps) (hsz : ∀ n ∈ d.weights P t, n ≤ reachBytes) :
    ∃ A n c l, v = .slice A n c ∧ n ≤ c ∧ c ≤ reachBytes ∧ SlAt (encK k) 1 W A n l ∧ ∀ x ∈ l, (Lit.int k x).wf = true := by
  obtain ⟨a0, n0, c0, rfl⟩ := okWide_slice ht hval
  obtain ⟨fuel, hf⟩ := h
  exact openIntsC ht he hc hby hf hsz
/-- A struct whose one field is a slice of numbers. -/
theorem openBoxed {W : World} {r : Reach} {b0 : Nat} {t e : TypeId} {f0 : Field} {k : IntKind} {v : Value} {d : DataW H} {ps : List MemPlace} (hs : P.underlying t = some (.struct #[f0])) (o0 : f0.offset = 0) (ct : P.cellsOf t = 1) (c0 : P.cellsOf f0.type = 1)
    (ht : P.underlying f0.type = some (.slice e)) (he : P.underlying e = some (.int k)) (hc : P.cellsOf e = 1) (hby : 1 ≤ P.bytesOf e)
    (hval : Value.okWide P W r b0 t v) (h : DataW.Trod enc P W 0 (fun _ => true) true t v d ps) (hsz : ∀ n ∈ d.weights P t, n ≤ reachBytes) :
    ∃ A n c l, v = .agg #[.slice A n c] ∧ n ≤ c ∧ c ≤ reachBytes ∧ SlAt (encK k) 1 W A n l ∧ ∀ x ∈ l, (Lit.int k x).wf = true := by
  obtain ⟨cs, rfl, hcs⟩ := okWide_struct hs hval
  obtain ⟨cs⟩ := cs
  match cs, hcs.trans ct with
  | [v0], _ =>
    obtain ⟨fuel, hf⟩ := h
    obtain ⟨y0, n, hx, _, h0⟩ := trod_struct1 hs hf
    simp only [Prod.mk.injEq] at hx
    obtain ⟨rfl, rfl⟩ := hx
    simp only [Value.cells, o0, c0, List.drop_zero, List.take_succ_cons, List.take_zero] at h0
    obtain ⟨A, n, c, l, rfl, h1, h2, h3, h4⟩ := openIntsC ht he hc hby h0 (fun n hn => hsz n (by simp [DataW.weights, hs, DataW.weightsEach, hn]))
    exact ⟨A, n, c, l, rfl, h1, h2, h3, h4⟩

/-- A slice of structs of two numbers. -/
theorem openPairs {W : World} {r : Reach} {b0 : Nat} {t e : TypeId} {f0 f1 : Field} {v : Value} {d : DataW H} {ps : List MemPlace} (ht : P.underlying t = some (.slice e)) (he : P.underlying e = some (.struct #[f0, f1]))
    (ce : P.cellsOf e = 2) (o0 : f0.offset = 0) (o1 : f1.offset = 1) (c0 : P.cellsOf f0.type = 1) (c1 : P.cellsOf f1.type = 1) (k0 : P.underlying f0.type = some (.int .i64)) (k1 : P.underlying f1.type = some (.int .i64)) (hby : 1 ≤ P.bytesOf e)
    (hval : Value.okWide P W r b0 t v) (h : DataW.Trod enc P W 0 (fun _ => true) true t v d ps) (hsz : ∀ n ∈ d.weights P t, n ≤ reachBytes) :
    ∃ A n c l, v = .slice A n c ∧ n ≤ c ∧ c ≤ reachBytes ∧ PtsAt W A n l ∧ ∀ x ∈ l, (Lit.int .i64 x.1).wf = true ∧ (Lit.int .i64 x.2).wf = true := by
  obtain ⟨a0, n0, c0', rfl⟩ := okWide_slice ht hval
  obtain ⟨fuel, hf⟩ := h
  rcases open_slice_pairs ht he ce o0 o1 c0 c1 hf with ⟨h1, h2⟩ | ⟨a, len, cap, m, nn, V0, V1, D0, D1, P0, P1, h1, _, hlc, _, hm, h2, hcell⟩
  · simp only [Value.cells, List.cons.injEq, and_true, Value.slice.injEq] at h1
    obtain ⟨rfl, rfl, rfl⟩ := h1
    exact ⟨_, _, _, [], rfl, Nat.le_refl _, Nat.zero_le _, SlAt.nil _ _ encP_len _ _, by simp⟩
  · simp only [Value.cells, List.cons.injEq, and_true, Value.slice.injEq] at h1
    obtain ⟨rfl, rfl, rfl⟩ := h1
    simp only [if_true] at hm
    subst hm
    simp only [Prod.mk.injEq] at h2
    obtain ⟨rfl, rfl⟩ := h2
    have hw := hsz _ (by simp only [DataW.weights, ht]; exact List.mem_cons_self ..)
    simp only [List.length_map, List.length_range] at hw
    rw [show n0 + (m - n0) = m by omega] at hw
    have hc0 : m ≤ reachBytes := Nat.le_trans (Nat.le_mul_of_pos_right _ hby) hw
    have each : ∀ i, i < n0 → ∃ q : Pt, W.cell? (a.add (i * 2)) = some (.int .i64 q.1) ∧ W.cell? (a.add (i * 2 + 1)) = some (.int .i64 q.2) ∧ (Lit.int .i64 q.1).wf = true ∧ (Lit.int .i64 q.2).wf = true := by
      intro i hi
      obtain ⟨g0, g1, g2, g3⟩ := hcell i (by omega)
      obtain ⟨x, hx, _, wx⟩ := DataW.trod_int k0 g2
      obtain ⟨y, hy, _, wy⟩ := DataW.trod_int k1 g3
      simp only [List.cons.injEq, and_true] at hx hy
      exact ⟨(x, y), by rw [g0, hx], by rw [g1, hy], wx, wy⟩
    obtain ⟨q, hq⟩ := choose_lt each
    refine ⟨_, _, _, (List.range n0).map q, rfl, hlc, hc0, ⟨by simp, encP_len, fun hn => ?_⟩, fun x hx => ?_⟩
    · have hc1 := (hq 0 hn).1
      have hs : a.spot = none := by simpa [Addr.add] using World.cell?_spot hc1
      obtain ⟨b, o, s⟩ := a
      simp only at hs
      subst hs
      refine ⟨b, o, rfl, by simpa [Addr.add] using block_lt hc1, fun i hi j hj => ?_⟩
      simp at hi
      obtain ⟨g0, g1, _, _⟩ := hq i hi
      rw [add_plain] at g0 g1
      simp only [List.getElem_map, List.getElem_range, encP]
      match j, hj with
      | 0, _ => simpa using g0
      | 1, _ => simpa [Nat.add_assoc] using g1
    · simp only [List.mem_map, List.mem_range] at hx
      obtain ⟨i, hi, rfl⟩ := hx
      exact (hq i hi).2.2
end
end Go.Dw
namespace Go.Proofs.Ytlfaaddoemcokaa
open Go.ChangeShapes Go.WideShapes Go.ChangeAt Go.RowKit Go.Dw
theorem wf_i64 {x : Int} (h : (Lit.int .i64 x).wf = true) : -9223372036854775808 ≤ x ∧ x ≤ 9223372036854775807 := by
  simp [Lit.wf, IntKind.min, IntKind.max, IntKind.signed, IntKind.bits] at h; omega
theorem wf_u8 {x : Int} (h : (Lit.int .u8 x).wf = true) : 0 ≤ x ∧ x ≤ 255 := by
  simp [Lit.wf, IntKind.min, IntKind.max, IntKind.signed, IntKind.bits] at h; omega
theorem wf_u16 {x : Int} (h : (Lit.int .u16 x).wf = true) : 0 ≤ x ∧ x ≤ 65535 := by
  simp [Lit.wf, IntKind.min, IntKind.max, IntKind.signed, IntKind.bits] at h; omega
theorem wf_i8 {x : Int} (h : (Lit.int .i8 x).wf = true) : -128 ≤ x ∧ x ≤ 127 := by
  simp [Lit.wf, IntKind.min, IntKind.max, IntKind.signed, IntKind.bits] at h; omega
theorem reach_le {n : Nat} (h : n ≤ reachBytes) : n ≤ 4611686018427387904 := Nat.le_trans h (by decide)
theorem weights_at {H : Type} {P : Program} {ts : List TypeId} {ds : List (DataW H)} {j : Nat} {t : TypeId} {d : DataW H} (h : (DataW.weightsEach P ts ds).all (· ≤ reachBytes) = true) (ht : ts[j]? = some t) (hd : ds[j]? = some d) : ∀ n ∈ d.weights P t, n ≤ reachBytes :=
  fun n hn => by simpa using List.all_eq_true.1 h n (DataW.weights_mem_each ht hd n hn)
theorem Try.own : ownKnob Try.prog.godebug = none := by kernel_rfl
theorem Try.laidOut : laidOutB Try.prog = true := by kernel_rfl
end Go.Proofs.Ytlfaaddoemcokaa
