/-
  Loops, and states seen otherwise, for values without addresses. No condition.
-/
import Derived.Test.YtlfaaddoemcokaaAbs15
namespace Go.Ab
open Go.RowKit Go.Dw

def All {α : Type} (p : α → Prop) : List α → Prop
  | [] => True
  | x :: l => p x ∧ All p l
theorem All.nil {α : Type} {p : α → Prop} : All p [] := trivial
theorem All.cons {α : Type} {p : α → Prop} {x : α} {l : List α} (h : p x) (k : All p l) : All p (x :: l) := ⟨h, k⟩
theorem All.mem {α : Type} {p : α → Prop} : ∀ {l : List α}, All p l → ∀ x ∈ l, p x
  | [], _, x, hx => by simp at hx
  | y :: l, h, x, hx => by
    rcases List.mem_cons.1 hx with rfl | hx
    · exact h.1
    · exact h.2.mem x hx
theorem ObEq.row {e sz n n' : Nat} {r r' : Nat → List V} (hn : n = n') (h : ∀ i, i < n → r i = r' i) : ObEq (.row e sz n r) (.row e sz n' r') := ⟨rfl, rfl, hn, h⟩
theorem ObEq.box {t : Nat} {cs cs' : List V} (h : cs = cs') : ObEq (.box t cs) (.box t cs') := ⟨rfl, h⟩
def mkT (tl : List (Nat × V)) : Nat → V := tl.foldr (fun p f => upd f p.1 p.2) (fun _ => .any)
def mkS (sl : List (Nat × Ob)) : Nat → Option Ob := sl.foldr (fun p f => upd f p.1 (some p.2)) (fun _ => none)
/-- forget all but some values and objects, and give the objects other names -/
theorem le_ren {tm : Nat → V} {σ : Nat → Option Ob} {nx : Nat} (gl : List (Nat × Nat)) {tl : List (Nat × V)} {sl : List (Nat × Ob)}
    (htm : All (fun p => tm p.1 = p.2.ren (lookG gl nx)) tl) (hσ : All (fun p => ∃ ob, σ (lookG gl nx p.1) = some ob ∧ ObEq ob (p.2.ren (lookG gl nx))) sl)
    (hinj : decide ((sl.map fun p => lookG gl nx p.1).Nodup) = true) (hid : gl.all (fun p => decide (p.1 < 500)) = true) :
    Le ⟨tm, σ, nx⟩ ⟨mkT tl, mkS sl, 1⟩ :=
  Le.ren (s := ⟨tm, σ, nx⟩) tl sl gl htm.mem hσ.mem (of_decide_eq_true hinj) (by simpa using hid)
/-- an empty row where there is none yet -/
theorem le_open {tm : Nat → V} {σ : Nat → Option Ob} {nx : Nat} (t e sz : Nat) (row : Nat → List V) (h : tm t = .nil) (ht : decide (t < 100000) = true) :
    Le ⟨tm, σ, nx⟩ ⟨upd tm t (.own (nx * 100000 + t)), upd σ (nx * 100000 + t) (some (.row e sz 0 row)), nx + 1⟩ := by
  intro P N C a w ⟨L, ρ, g⟩
  have ht := of_decide_eq_true ht
  have hn : ρ (nx * 100000 + t) = none := g.fr _ (Nat.le_add_right _ _)
  have hx : a.tmps.getD t undef = .slice none 0 0 := by
    have this : R w L ρ (tm t) (a.tmps.getD t undef) := g.tm t
    rw [h] at this
    generalize a.tmps.getD t undef = q at this
    cases this; rfl
  obtain ⟨hG, ex⟩ := g.g.put (w' := w) (σ1 := σ) (ρ' := upd ρ (nx * 100000 + t) (some (.slice none 0 0))) (World.grownBy.refl w none) (by simp) (nx * 100000 + t) _ (.row e sz 0 row) (fun i o hi ho => ⟨ho, by simp⟩) (fun i hi => upd_ne _ _ hi) (upd_same _ _ _) (.inl hn) (fun k hk => by simp [blk] at hk)
    (fun ex => ⟨_, [], upd_same _ _ _, World.ownsRow_nil _ _ _ _, fun i hi => by omega, by simp [slRows]; exact .nil, fun k hk => by simp [blk] at hk⟩)
  refine ⟨L, _, ⟨hG, fun id hid => ?_, fun t' => ?_, g.size, g.defers, fun id x hp => ex.r id x (g.pin id x hp)⟩⟩
  · have hid' : (nx + 1) * 100000 ≤ id := hid
    rw [upd_ne _ _ (by omega)]
    exact g.fr id (Nat.le_trans (Nat.mul_le_mul_right _ (Nat.le_succ nx)) hid')
  · by_cases he : t' = t
    · subst he
      show R _ _ _ (upd tm t' _ t') _
      rw [upd_same, hx]
      exact .own _ _ _ (upd_same _ _ _) rfl
    · show R _ _ _ (upd tm t _ t') _
      rw [upd_ne _ _ he]
      exact (g.tm t').ext ex
/-- a row that is not written any more -/
theorem le_freeze {tm : Nat → V} {σ : Nat → Option Ob} {nx : Nat} (id : Nat) {e sz n : Nat} {row : Nat → List V} (hσ : σ id = some (.row e sz n row)) (hi : ∀ i, i < n → V.idfL (row i) = true) :
    Le ⟨tm, σ, nx⟩ ⟨fun t => V.fz id (.sl sz n row) (tm t), upd σ id none, nx⟩ := Le.freeze (s := ⟨tm, σ, nx⟩) id hσ hi
theorem pickV_or (t y : Bool) : pickV t (.c (.bool true)) (.c (.bool y)) = some (.b (t || y)) := rfl
theorem pickV_and (t x : Bool) : pickV t (.c (.bool x)) (.c (.bool false)) = some (.b (t && x)) := by cases x <;> cases t <;> rfl
/-- a cell that is not written any more -/
theorem le_freezeBox {tm : Nat → V} {σ : Nat → Option Ob} {nx : Nat} (id : Nat) {t : Nat} {cs : List V} (hσ : σ id = some (.box t cs)) (hi : V.idfL cs = true) :
    Le ⟨tm, σ, nx⟩ ⟨fun t => V.fz id (.ptr cs) (tm t), upd σ id none, nx⟩ := Le.freezeBox (s := ⟨tm, σ, nx⟩) id hσ hi

section
variable {P : Program} {N : Nat} {C : Cx P N} {tm : Nat → V} {σ : Nat → Option Ob} {nx : Nat} {Q : Exit → S → Prop}
theorem w_loop {ι : Type} {c : Code} (tl : ι → List (Nat × V)) (sl : ι → List (Nat × Ob)) (ok : ι → Prop) (μ : ι → Nat) (x0 : ι) (hx : ok x0) (h0 : Le ⟨tm, σ, nx⟩ ⟨mkT (tl x0), mkS (sl x0), 1⟩)
    (round : ∀ x, ok x → AW C c (XThen (fun s' => ∃ y, ok y ∧ Le s' ⟨mkT (tl y), mkS (sl y), 1⟩ ∧ μ y < μ x) Q) ⟨mkT (tl x), mkS (sl x), 1⟩) : AW C (.loop c) Q ⟨tm, σ, nx⟩ :=
  aw_loop (fun x => ⟨mkT (tl x), mkS (sl x), 1⟩) ok μ x0 hx h0 round
theorem w_le {c : Code} {s' : S} (h : Le ⟨tm, σ, nx⟩ s') (k : AW C c Q s') : AW C c Q ⟨tm, σ, nx⟩ := aw_le h k
end
/-- what is handed back, out of a state seen otherwise -/
theorem ret_le {T : List TI} {fn : Func} {v v' : V} {e : Exit} {s s' : S} {obs : List Ob} (he : e = .normal ∨ e = .ret) (hle : Le s s') (hres : resV T s' fn.results.toList = some v') (hv : v' = v) (hob : ∀ i ob, obs[i]? = some ob → s'.σ i = some ob) (hi : v'.ren (clamp obs.length s'.nx) = v') (ho : ∀ ob ∈ obs, ob.ren (clamp obs.length s'.nx) = ob) : RetPost T fn v obs e s := by
  subst hv
  exact ⟨he, s', hle, hres, hob, hi, ho⟩
theorem ret_le0 {T : List TI} {fn : Func} {v v' : V} {e : Exit} {s s' : S} (he : e = .normal ∨ e = .ret) (hle : Le s s') (hres : resV T s' fn.results.toList = some v') (hv : v' = v) (hi : v'.idf = true) : RetPost T fn v [] e s := by
  subst hv
  exact ⟨he, s', hle, hres, by simp, V.ren_idf _ _ hi, by simp⟩
/-- what is handed back: one object of the call's own, and numbers beside it -/
theorem ret_own {T : List TI} {fn : Func} {v : V} {e : Exit} {tm : Nat → V} {σ : Nat → Option Ob} {nx : Nat} {ob : Ob} (gl : List (Nat × Nat)) (tl : List (Nat × V)) (he : e = .normal ∨ e = .ret)
    (htm : All (fun p => tm p.1 = p.2.ren (lookG gl nx)) tl) (hσ : All (fun p => ∃ ob, σ (lookG gl nx p.1) = some ob ∧ ObEq ob (p.2.ren (lookG gl nx))) [(0, ob)])
    (hid : gl.all (fun p => decide (p.1 < 500)) = true) (hres : resV T ⟨mkT tl, mkS [(0, ob)], 1⟩ fn.results.toList = some v) (hi : v.ren (clamp 1 1) = v) (ho : ob.ren (clamp 1 1) = ob) : RetPost T fn v [ob] e ⟨tm, σ, nx⟩ := by
  refine ⟨he, _, le_ren gl (tl := tl) (sl := [(0, ob)]) htm hσ (by simp) hid, hres, fun i o ho => ?_, hi, fun o hm => ?_⟩
  · cases i with
    | zero => simp at ho; subst ho; rfl
    | succ i => simp at ho
  · simp only [List.mem_singleton] at hm
    subst hm
    exact ho
theorem vi {a b : Int} (h : a = b) : V.i a = V.i b := by rw [h]
theorem vb {a b : Bool} (h : a = b) : V.b a = V.b b := by rw [h]
end Go.Ab
