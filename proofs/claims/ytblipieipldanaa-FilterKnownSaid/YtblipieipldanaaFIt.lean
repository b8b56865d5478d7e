/-
  The indexes of a list, from the first one to the last and back: what the iterator hands out. Condition: a length of at most 65536.
-/
import Derived.Test.YtblipieipldanaaMC
import Derived.Test.YtblipieipldanaaAbs26
import Derived.Test.YtblipieipldanaaStill
namespace Go.Proofs.Ytblipieipldanaa
open Go.Ab Go.RowKit Go.Dw Go.Shelf
attribute [local go_sem] Oper.semAt_some

def wayAt (n k : Nat) : Nat := if k + 1 < n then k + 1 else 2 * n - 3 - k
def wayB (n k : Nat) : Nat := if k + 1 < n then k else 2 * n - 2 - k
def wayE (n k : Nat) : Array Value := #[.int .i64 (wayAt n k : Nat), .int .i64 (wayB n k : Nat)]
def wayEs (n : Nat) : List (Array Value) := (List.range (2 * n - 2)).map (wayE n)
def wayV (n : Nat) : List (List V) := (List.range (2 * n - 2)).map fun k : Nat => [V.i (wayAt n k : Nat), V.i (wayB n k : Nat)]
set_option maxRecDepth 100000 in
set_option maxHeartbeats 1000000 in
theorem ways_iter (p : Addr) (n : Nat) (hn : n ≤ 65536) (w : World) (R : Nat → Prop) (l1 : p.block < w.heap.size) (h1 : w.cell? p = some (.int .i64 n)) (r1 : ¬ R p.block) :
    Iter Try.prog 93 #[.pointer (some p)] (wayEs n) R w := by
  intro l J Jx W hT hl hlW hJ hJx hY h0
  have hb : ∀ wr, Tch (fun k => R k ∨ k = l) W wr → wr.cell? p = some (.int .i64 n) := fun wr ht =>
    ((ht.cell (Nat.lt_of_lt_of_le l1 hT.size) (by rintro (e | e); exact r1 e; omega)).trans (hT.cell l1 r1)).trans h1
  have c1 := hb W (Tch.refl _ _)
  refine callsIn_of_wp Try.func93 rfl trivial ?_ rfl
  simp only [Try.ntmps93, List.size_toArray, List.length_cons, List.length_nil, Nat.reduceAdd, Nat.reduceSub, Array.replicate_succ, Array.replicate_zero, List.push_toArray, List.append_toArray, List.nil_append, List.cons_append]
  gi_wp2
  gi_loopw [3] (fun u wr => ∃ k : Nat, k ≤ n - 1 ∧ u = .int .i64 ((k : Int) + 1) ∧ J k wr ∧ Tch (fun k => R k ∨ k = l) W wr) (fun u wr => n + 1 - (intOf u).toNat)
  case atStart => exact ⟨0, Nat.zero_le _, rfl, h0, Tch.refl _ _⟩
  case round =>
    obtain ⟨k, hk, rfl, hJk, hTk⟩ := hrel
    have d1 := hb wr hTk
    by_cases hlt : k + 1 < n
    · have hkl : k < (wayEs n).length := by simp only [wayEs, List.length_map, List.length_range]; omega
      obtain ⟨fn, tmps, assign, body, hy, hR⟩ := hY k (wayE n k) wr (by simp only [wayEs, List.length_map, List.length_range] at hkl; simp [wayEs, hkl]) hTk.size hJk
      rw [show wayE n k = #[.int .i64 ((k : Int) + 1), .int .i64 (k : Int)] by simp [wayE, wayAt, wayB, hlt]] at hy
      have e1 : (k : Int) + 1 - 1 = k := by omega
      gi_wp2
      refine hR.mono ?_
      rintro e W2 ⟨bb, rfl, hT2, hJ2, hJ3⟩
      cases bb
      rotate_left
      · gi_wp2
        go_roundw
        case rel => exact ⟨k + 1, by omega, by go_num, hJ2 (by simp), hTk.trans hT2⟩
        case measure => simp [intOf]; omega
      · gi_wp2
        refine bodyPost_ret (results_none rfl _ _ _) rfl ?_
        exact ⟨⟨_, rfl⟩, .inr ⟨k, hkl, hJ3 (by simp)⟩⟩
    · obtain rfl : k = n - 1 := by omega
      gi_wp2
      gi_loopw [4] (fun u wr => ∃ j : Nat, j ≤ n - 1 ∧ u = .int .i64 ((n : Int) - 2 - (j : Int)) ∧ J (n - 1 + j) wr ∧ Tch (fun k => R k ∨ k = l) W wr) (fun u wr => (intOf u + 2).toNat)
      case atStart => exact ⟨0, by omega, by go_num, by rw [Nat.add_zero]; exact hJk, hTk⟩
      case round =>
        obtain ⟨j, hj, rfl, hJj, hTj⟩ := hrel
        have d2 := hb wr hTj
        by_cases hlt2 : 2 + j ≤ n
        · have hkl : n - 1 + j < (wayEs n).length := by simp only [wayEs, List.length_map, List.length_range]; omega
          obtain ⟨fn, tmps, assign, body, hy, hR⟩ := hY (n - 1 + j) (wayE n (n - 1 + j)) wr (by simp only [wayEs, List.length_map, List.length_range] at hkl; simp [wayEs, hkl]) hTj.size hJj
          rw [show wayE n (n - 1 + j) = #[.int .i64 ((n : Int) - 2 - (j : Int)), .int .i64 ((n : Int) - 2 - (j : Int) + 1)] by
            have e1 : wayAt n (n - 1 + j) = n - 2 - j := by unfold wayAt; rw [if_neg (by omega)]; omega
            have e2 : wayB n (n - 1 + j) = n - 1 - j := by unfold wayB; rw [if_neg (by omega)]; omega
            rw [wayE, e1, e2, show ((n - 2 - j : Nat) : Int) = (n : Int) - 2 - (j : Int) by omega, show ((n - 1 - j : Nat) : Int) = (n : Int) - 2 - (j : Int) + 1 by omega]] at hy
          gi_wp2
          refine hR.mono ?_
          rintro e W2 ⟨bb, rfl, hT2, hJ2, hJ3⟩
          cases bb
          rotate_left
          · gi_wp2
            go_roundw
            case rel => exact ⟨j + 1, by omega, by go_num, by rw [← Nat.add_assoc]; exact hJ2 (by simp), hTj.trans hT2⟩
            case measure => simp [intOf]; omega
          · gi_wp2
            refine bodyPost_ret (results_none rfl _ _ _) rfl ?_
            exact ⟨⟨_, rfl⟩, .inr ⟨n - 1 + j, hkl, hJ3 (by simp)⟩⟩
        · have he : n - 1 + j = (wayEs n).length := by simp only [wayEs, List.length_map, List.length_range]; omega
          gi_wp2
          go_end0
          exact ⟨⟨_, rfl⟩, .inl (by rw [← he]; exact hJj)⟩
set_option maxRecDepth 100000 in
theorem ways_ac (n : Int) : AC Try.prog 69 [.i n] (.fn (.func 93) [] [.ptr [.i n]]) [] := by
  refine ac_intro hTT hMX (fn := Try.f69) (N := _) ⟨Try.func69, rfl, Try.ntmps69, by kernel_rfl⟩ (by simp) fun C hC hF => ?_
  refine aw_seq_k fun K hK => ?_
  refine w_region (n' := 2) (by kernel_rfl) (by kernel_rfl) ?_
  refine aops_n hTT (M := []) (n := 2) [pv (1 : Nat) (V.ptr [V.i n]), pv (2 : Nat) (V.c Value.nilFunc)] (by kernel_rfl) (by kernel_rfl) True.intro ?_
  refine aops_nil ?_
  refine xt_n ?_
  refine hK _ ?_
  clear hK K
  refine aw_seq_k fun K hK => ?_
  refine w_region (n' := 3) (by kernel_rfl) (by kernel_rfl) ?_
  refine aops_n hTT (M := []) (n := 2) [pv (3 : Nat) (V.fn (Fn.func (93 : Nat)) [] [V.ptr [V.i n]]), pv (2 : Nat) (V.fn (Fn.func (93 : Nat)) [] [V.ptr [V.i n]])] (by kernel_rfl) (by kernel_rfl) True.intro ?_
  refine aops_nil ?_
  refine xt_n ?_
  refine hK _ ?_
  clear hK K
  refine aw_ret ?_
  refine ret_pure (v' := V.fn (Fn.func (93 : Nat)) [] [V.ptr [V.i n]]) (.inr rfl) (by kernel_rfl) (by kernel_rfl) (by kernel_rfl)
theorem ways_aiter (n : Nat) (hn : n ≤ 65536) : AIter Try.prog 93 [.ptr [.i n]] (wayV n) := by
  refine ⟨enters_of Try.func93 (by kernel_rfl) rfl, fun L w lb hL hlb => ?_⟩
  refine ⟨wayEs n, by simp [wayEs, wayV], fun k v x hv hx => ?_, fun R hR => ?_⟩
  · simp only [wayV, wayEs, List.getElem?_map, Option.map_eq_some_iff] at hv hx
    obtain ⟨k1, h1, rfl⟩ := hv
    obtain ⟨k2, h2, rfl⟩ := hx
    rw [h1] at h2; injection h2 with h2; subst h2
    exact .cons (.c _ _) (.cons (.c _ _) .nil)
  · obtain ⟨lb⟩ := lb
    obtain ⟨x1, e1, q1⟩ := hlb.get (i := 0) rfl
    obtain ⟨b1, o1, rfl, hb1, hc1⟩ := q1.ptr_inv
    obtain ⟨y1, g1, _, t1⟩ := hc1 0 _ rfl
    rw [t1.c_inv] at g1
    have hlen := hlb.1
    obtain rfl : lb = [.pointer (some ⟨b1, o1, none⟩)] := by
      match lb, hlen with
      | [a], _ => simp at e1; subst e1; rfl
    exact ways_iter _ n hn w R (hL b1 hb1) (by simpa using g1) (fun h => (hR _ h).2 hb1)
end Go.Proofs.Ytblipieipldanaa
