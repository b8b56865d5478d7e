/-
  The rules of walks with objects of the caller's: calls, and what is handed back. No condition.
-/
import Derived.Test.YtblipieipldanaaAbs25
namespace Go.Ab
open Go.RowKit Go.Dw

/-- the objects that are handed are those of the contract -/
inductive InsOk (g : Nat → Nat) (n : Nat) : List Ob → List Ob → Prop
  | nil : InsOk g n [] []
  | box {t : TypeId} {cs cs' : List V} {l l' : List Ob} (h : cs' = V.renL g cs) (hi : V.inNL n cs = true) (k : InsOk g n l l') : InsOk g n (.box t cs :: l) (.box t cs' :: l')
  | row {e sz m m' : Nat} {f f' : Nat → List V} {l l' : List Ob} (hm : m' = m) (h : ∀ i, i < m' → f' i = V.renL g (f i)) (hi : ∀ i, i < m → V.inNL n (f i) = true) (k : InsOk g n l l') : InsOk g n (.row e sz m f :: l) (.row e sz m' f' :: l')
  | mp {s : Bool × Nat} {f f' : MF} {l l' : List Ob} (h : ∀ k, f'.look k = (f.map (V.ren g)).look k) (hi : ∀ k u, f.look k = some u → V.inN n u = true) (k : InsOk g n l l') : InsOk g n (.mp s f :: l) (.mp s f' :: l')
theorem InsOk.get {g : Nat → Nat} {n : Nat} {l l' : List Ob} (h : InsOk g n l l') : l'.length = l.length ∧ ∀ (i : Nat) (o o' : Ob), l[i]? = some o → l'[i]? = some o' → ObEq o' (o.ren g) ∧ o.inN n := by
  induction h with
  | nil => exact ⟨rfl, fun i o o' h => by simp at h⟩
  | box h hi k ih =>
    refine ⟨by simp [ih.1], fun i o o' h1 h2 => ?_⟩
    cases i with
    | zero => simp at h1 h2; subst h1 h2; exact ⟨⟨rfl, h⟩, hi⟩
    | succ i => exact ih.2 i o o' (by simpa using h1) (by simpa using h2)
  | row hm h hi k ih =>
    refine ⟨by simp [ih.1], fun i o o' h1 h2 => ?_⟩
    cases i with
    | zero => simp at h1 h2; subst h1 h2; exact ⟨⟨rfl, rfl, hm, h⟩, hi⟩
    | succ i => exact ih.2 i o o' (by simpa using h1) (by simpa using h2)
  | mp h hi k ih =>
    refine ⟨by simp [ih.1], fun i o o' h1 h2 => ?_⟩
    cases i with
    | zero => simp at h1 h2; subst h1 h2; exact ⟨⟨rfl, h⟩, hi⟩
    | succ i => exact ih.2 i o o' (by simpa using h1) (by simpa using h2)
def lookS (σ : Nat → Option Ob) : List Nat → List (Option Ob)
  | [] => []
  | n :: ns => σ n :: lookS σ ns
theorem lookS_pre {σ : Nat → Option Ob} : ∀ {ns : List Nat} {l : List Ob}, lookS σ ns = l.map some → ∀ p ∈ preD ns l, σ p.1 = some p.2
  | [], l, _, p, hp => by simp [preD] at hp
  | n :: ns, [], h, p, hp => by simp [lookS] at h
  | n :: ns, o :: l, h, p, hp => by
    simp only [lookS, List.map_cons, List.cons.injEq] at h
    rcases List.mem_cons.1 hp with rfl | hp
    · exact h.1
    · exact lookS_pre h.2 p hp
section
variable {P : Program} {N : Nat} {C : Cx P N} {T : List TI} {ops : Array Oper} {nx : Nat} {o : Oper} {os : List Oper} {tm : Nat → V} {σ : Nat → Option Ob} {ks : List (List Nat × List Nat)} {K : (Nat → V) → (Nat → Option Ob) → List (List Nat × List Nat) → Prop} {ty : TypeId} {pos : String} {af : Array Edge}
theorem aops_callM {d : Nat} {fo : Operand} {ar : Array Operand} {ats : Array TypeId} {f : FuncId} {first caps args : List V} {ins ins' : List Ob} {v v' : V} {outs : List (Option Ob)} {obs : List Ob} {δ : List (Nat × Option Ob)} {kp : List Nat} (ns : List Nat) (hc : AM P f args ins v outs obs) (hf : ev tm fo = .fn (.func f) first caps)
    (hargs : first ++ ar.toList.map (ev tm) ++ caps = V.renL (nameG nx (some d) ns) args) (hin : V.inNL ins.length args = true) (hd : decide (d < 1000) = true) (hobs : decide (obs.length ≤ 90) = true) (hns : decide ns.Nodup = true) (hnl : ns.length = ins.length) (hol : outs.length = ins.length)
    (hσ : lookS σ ns = ins'.map some) (hins : InsOk (nameG nx (some d) ns) ins.length ins ins') (hv : v.ren (nameG nx (some d) ns) = v') (hδ : outD (nameG nx (some d) ns) ns outs ++ callD (nameG nx (some d) ns) 0 obs = δ) (hkp : keysP (preD ns ins') = kp)
    (hk : AOps C ops nx os (upd tm d v') (upds σ δ) (ks ++ [(keysD δ, kp ++ keysD δ)]) K) : AOps C ops nx (⟨some d, .call { callee := .value fo, args := ar, argTypes := ats }, ty, pos, af, none⟩ :: os) tm σ ks K := by
  subst hv hδ hkp
  have hd' : d < 1000 := of_decide_eq_true hd
  refine aops_step rfl (as_callM (d := some d) hc C.wl ns hf nx hargs hin (by simpa using hd') (of_decide_eq_true hobs) (of_decide_eq_true hns) hnl hol hins.get.1 hins.get.2) (lookS_pre hσ) ?_ hk
  intro id hid
  have hob : obs.length ≤ 90 := of_decide_eq_true hobs
  obtain ⟨j, hj, rfl⟩ := List.mem_map.1 hid
  have hj' : j < obs.length := by simpa using hj
  refine ⟨d, rfl, ?_, ?_, ?_⟩ <;> simp only [callG, Option.getD_some] <;> omega
theorem upds_same : ∀ (l : List (Nat × Option Ob)) (σ : Nat → Option Ob), (∀ p ∈ l, σ p.1 = p.2) → upds σ l = σ
  | [], σ, _ => rfl
  | (k, o) :: l, σ, h => by
    have e : upd σ k o = σ := by
      funext i
      by_cases hi : i = k
      · subst hi; rw [upd_same]; exact (h (i, o) (by simp)).symm
      · rw [upd_ne _ _ hi]
    rw [upds, e]
    exact upds_same l σ fun p hp => h p (by simp [hp])
theorem outD_pre {g : Nat → Nat} {σ : Nat → Option Ob} : ∀ {ns : List Nat} {ins ins' : List Ob}, ins.map (Ob.ren g) = ins' → (∀ p ∈ preD ns ins', σ p.1 = some p.2) → ∀ p ∈ outD g ns (ins.map some), σ p.1 = p.2
  | [], ins, _, _, _, p, hp => by simp [outD] at hp
  | n :: ns, [], _, _, _, p, hp => by simp [outD] at hp
  | n :: ns, o :: ins, [], h, _, p, hp => by simp at h
  | n :: ns, o :: ins, o' :: ins', h, k, p, hp => by
    simp only [List.map_cons, List.cons.injEq] at h
    simp only [List.map_cons, outD, List.mem_cons] at hp
    rcases hp with rfl | hp
    · have := k (n, o') (by simp [preD])
      simpa [h.1] using this
    · exact outD_pre h.2 (fun q hq => k q (by simp [preD, hq])) p hp
theorem InsOk.of_map {g : Nat → Nat} {n : Nat} : ∀ {ins ins' : List Ob}, ins.map (Ob.ren g) = ins' → (∀ o ∈ ins, o.inN n) → InsOk g n ins ins'
  | [], _, rfl, _ => .nil
  | .box t cs :: l, _, rfl, h => .box rfl (show V.inNL n cs = true from h (.box t cs) (by simp)) (InsOk.of_map rfl fun o ho => h o (by simp [ho]))
  | .row e sz m f :: l, _, rfl, h => .row rfl (fun _ _ => rfl) (show ∀ i, i < m → V.inNL n (f i) = true from h (.row e sz m f) (by simp)) (InsOk.of_map rfl fun o ho => h o (by simp [ho]))
  | .mp s f :: l, _, rfl, h => .mp (fun _ => rfl) (show ∀ k u, f.look k = some u → V.inN n u = true from h (.mp s f) (by simp)) (InsOk.of_map rfl fun o ho => h o (by simp [ho]))
def allIn (n : Nat) : List Ob → Prop
  | [] => True
  | .box _ cs :: l => V.inNL n cs = true ∧ allIn n l
  | .row _ _ m f :: l => (∀ i, i < m → V.inNL n (f i) = true) ∧ allIn n l
  | .mp _ f :: l => (∀ k u, f.look k = some u → V.inN n u = true) ∧ allIn n l
theorem allIn_mem {n : Nat} : ∀ {l : List Ob}, allIn n l → ∀ o ∈ l, o.inN n
  | .box _ _ :: l, h, o, ho => by
    rcases List.mem_cons.1 ho with rfl | ho
    · exact h.1
    · exact allIn_mem h.2 o ho
  | .row _ _ _ _ :: l, h, o, ho => by
    rcases List.mem_cons.1 ho with rfl | ho
    · exact h.1
    · exact allIn_mem h.2 o ho
  | .mp _ _ :: l, h, o, ho => by
    rcases List.mem_cons.1 ho with rfl | ho
    · exact h.1
    · exact allIn_mem h.2 o ho
/-- a call that leaves the objects that it is handed as they are -/
theorem aops_callR {d : Nat} {fo : Operand} {ar : Array Operand} {ats : Array TypeId} {f : FuncId} {first caps args : List V} {ins ins' : List Ob} {v v' : V} {outs : List (Option Ob)} {obs : List Ob} {δ : List (Nat × Option Ob)} {kp : List Nat} (ns : List Nat) (hc : AM P f args ins v outs obs) (hou : outs = ins.map some) (hf : ev tm fo = .fn (.func f) first caps)
    (hargs : first ++ ar.toList.map (ev tm) ++ caps = V.renL (nameG nx (some d) ns) args) (hin : V.inNL ins.length args = true) (hd : decide (d < 1000) = true) (hobs : decide (obs.length ≤ 90) = true) (hns : decide ns.Nodup = true) (hnl : ns.length = ins.length)
    (hσ : lookS σ ns = ins'.map some) (hins : ins.map (Ob.ren (nameG nx (some d) ns)) = ins') (hi2 : allIn ins.length ins) (hv : v.ren (nameG nx (some d) ns) = v') (hδ : callD (nameG nx (some d) ns) 0 obs = δ) (hkp : keysP (preD ns ins') = kp)
    (hk : AOps C ops nx os (upd tm d v') (upds σ δ) (ks ++ [(keysD δ, kp ++ keysD δ)]) K) : AOps C ops nx (⟨some d, .call { callee := .value fo, args := ar, argTypes := ats }, ty, pos, af, none⟩ :: os) tm σ ks K := by
  subst hv hδ hkp hou
  have hd' : d < 1000 := of_decide_eq_true hd
  have hI := InsOk.of_map (n := ins.length) hins (allIn_mem hi2)
  have st := as_callM (W := C.W) (LB := C.LB) (ty := ty) (pos := pos) (af := af) (gd := none) (ats := ats) (d := some d) hc C.wl ns hf nx hargs hin (by simpa using hd') (of_decide_eq_true hobs) (of_decide_eq_true hns) hnl (by simp) hI.get.1 hI.get.2
  refine aops_step rfl (pre := preD ns ins') (nw := (List.range obs.length).map (callG nx (some d))) (δ := callD (nameG nx (some d) ns) 0 obs) ?_ (lookS_pre hσ) ?_ hk
  · intro σ' w L ρ q hG hr hp hn
    have := st σ' w L ρ q hG hr hp hn
    rwa [upds_append, upds_same _ σ' (outD_pre hins hp)] at this
  · intro id hid
    have hob : obs.length ≤ 90 := of_decide_eq_true hobs
    obtain ⟨j, hj, rfl⟩ := List.mem_map.1 hid
    have hj' : j < obs.length := by simpa using hj
    refine ⟨d, rfl, ?_, ?_, ?_⟩ <;> simp only [callG, Option.getD_some] <;> omega
/-- any call, with as many objects as it makes -/
theorem aops_callN {d : Nat} {fo : Operand} {ar : Array Operand} {ats : Array TypeId} {f : FuncId} {first caps args : List V} {v v' : V} {obs : List Ob} {δ : List (Nat × Option Ob)} (hc : AC P f args v obs) (hf : ev tm fo = .fn (.func f) first caps) (hargs : first ++ ar.toList.map (ev tm) ++ caps = args) (hidf : V.idfL args = true) (hd : decide (d < 1000) = true) (hobs : decide (obs.length ≤ 90) = true)
    (hv : v.ren (callG nx (some d)) = v') (hδ : callD (callG nx (some d)) 0 obs = δ) (hk : AOps C ops nx os (upd tm d v') (upds σ δ) (ks ++ [(keysD δ, keysD δ)]) K) : AOps C ops nx (⟨some d, .call { callee := .value fo, args := ar, argTypes := ats }, ty, pos, af, none⟩ :: os) tm σ ks K := by
  subst hv hδ
  exact aops_call hc hf hargs hidf hd rfl (of_decide_eq_true hobs) hk
end

/-! ### Guards that are told -/
section
variable {P : Program} {N : Nat} {C : Cx P N} {T : List TI} {M : List Nat} {ops : Array Oper} {nx : Nat} {o : Oper} {os : List Oper} {tm : Nat → V} {σ : Nat → Option Ob} {ks : List (List Nat × List Nat)} {K : (Nat → V) → (Nat → Option Ob) → List (List Nat × List Nat) → Prop}
end

/-! ### What is handed back -/
def slO : Nat → List (Option Ob) → List (Nat × Ob)
  | _, [] => []
  | k, none :: os => slO (k + 1) os
  | k, some o :: os => (k, o) :: slO (k + 1) os
theorem mkS_slO : ∀ (os : List (Option Ob)) (k : Nat) (l : List (Nat × Ob)) (i : Nat), (i < k ∨ k + os.length ≤ i → mkS (slO k os ++ l) i = mkS l i) ∧ ∀ (j : Nat) (ob : Ob), os[j]? = some (some ob) → mkS (slO k os ++ l) (k + j) = some ob
  | [], k, l, i => ⟨fun _ => rfl, fun j ob h => by simp at h⟩
  | none :: os, k, l, i => by
    refine ⟨fun h => (mkS_slO os (k + 1) l i).1 (by simp at h; omega), fun j ob h => ?_⟩
    cases j with
    | zero => simp at h
    | succ j =>
      have := (mkS_slO os (k + 1) l i).2 j ob (by simpa using h)
      rwa [show k + (j + 1) = k + 1 + j by omega]
  | some o :: os, k, l, i => by
    have e : ∀ i, i ≠ k → mkS (slO k (some o :: os) ++ l) i = mkS (slO (k + 1) os ++ l) i := fun i hi => by
      show upd (mkS (slO (k + 1) os ++ l)) k (some o) i = _
      rw [upd_ne _ _ hi]
    refine ⟨fun h => ?_, fun j ob h => ?_⟩
    · rw [e i (by simp at h; omega)]
      exact (mkS_slO os (k + 1) l i).1 (by simp at h; omega)
    · cases j with
      | zero =>
        simp at h; subst h
        show upd (mkS (slO (k + 1) os ++ l)) k (some o) k = _
        exact upd_same _ _ _
      | succ j =>
        rw [e _ (by omega), show k + (j + 1) = k + 1 + j by omega]
        exact (mkS_slO os (k + 1) l i).2 j ob (by simpa using h)
def okR (g : Nat → Nat) : List (Option Ob) → List (Option Ob) := List.map fun o => o.map (Ob.ren g)
theorem retM {T : List TI} {fn : Func} {n : Nat} {v v' : V} {outs : List (Option Ob)} {obs : List Ob} {e : Exit} {tm : Nat → V} {σ : Nat → Option Ob} {nx : Nat} (gl : List (Nat × Nat)) (tl : List (Nat × V)) (he : e = .normal ∨ e = .ret)
    (htm : All (fun p => tm p.1 = p.2.ren (lookG gl nx)) tl) (hσ : All (fun p => ∃ ob, σ (lookG gl nx p.1) = some ob ∧ ObEq ob (p.2.ren (lookG gl nx))) (slO 0 (obs.map some) ++ slO 500 outs))
    (hinj : decide (((slO 0 (obs.map some) ++ slO 500 outs).map fun p => lookG gl nx p.1).Nodup) = true) (hid : gl.all (fun p => decide (p.1 < 500)) = true) (hob : decide (obs.length ≤ 90) = true)
    (hres : resV T ⟨mkT tl, mkS (slO 0 (obs.map some) ++ slO 500 outs), 1⟩ fn.results.toList = some v') (hv : v' = v) (hcv : v'.ren (clampM obs.length n 1) = v') (hco : okR (clampM obs.length n 1) (obs.map some ++ outs) = obs.map some ++ outs) : RetPostM T fn n v outs obs e ⟨tm, σ, nx⟩ := by
  subst hv
  have hob := of_decide_eq_true hob
  have hren : ∀ o : Ob, some o ∈ obs.map some ++ outs → o.ren (clampM obs.length n 1) = o := by
    intro o ho
    obtain ⟨i, hi⟩ := List.getElem?_of_mem ho
    have h1 : (okR (clampM obs.length n 1) (obs.map some ++ outs))[i]? = some (some (o.ren (clampM obs.length n 1))) := by
      unfold okR; rw [List.getElem?_map, hi]; rfl
    rw [hco, hi] at h1
    injection h1 with h1; injection h1 with h1; exact h1.symm
  refine ⟨he, _, le_ren gl (tl := tl) (sl := slO 0 (obs.map some) ++ slO 500 outs) htm hσ hinj hid, hres, fun i ob hi => ?_, fun i ob hi => ?_, hcv, fun ob hm => hren ob (by simp [hm]), fun ob hm => hren ob (by simp [hm])⟩
  · have := (mkS_slO (obs.map some) 0 (slO 500 outs) 0).2 i ob (by simp [hi])
    simpa using this
  · have hi' := (List.getElem?_eq_some_iff.1 hi).1
    show mkS (slO 0 (obs.map some) ++ slO 500 outs) (500 + i) = some ob
    rw [(mkS_slO (obs.map some) 0 (slO 500 outs) (500 + i)).1 (by right; simp; omega)]
    have := (mkS_slO outs 500 [] 0).2 i ob hi
    simpa using this
theorem retM_of_le {T : List TI} {fn : Func} {n : Nat} {v : V} {outs : List (Option Ob)} {obs : List Ob} {e : Exit} {s s' : S} (hle : Le s s') (h : RetPostM T fn n v outs obs e s') : RetPostM T fn n v outs obs e s := by
  obtain ⟨he, s'', hle', h1⟩ := h
  exact ⟨he, s'', Le.trans hle hle', h1⟩
theorem ret_of_M {T : List TI} {fn : Func} {v : V} {obs : List Ob} {e : Exit} {s : S} (h : RetPostM T fn 0 v [] obs e s) : RetPost T fn v obs e s := by
  obtain ⟨he, s'', hle', hres, hob, _, hcv, hco, _⟩ := h
  have e : ∀ nx, clampM obs.length 0 nx = clamp obs.length nx := by
    intro nx
    funext i
    unfold clampM clamp
    by_cases h : i < obs.length
    · rw [if_pos (.inl h), if_pos h]
    · rw [if_neg (by omega), if_neg h]
  rw [e] at hcv
  exact ⟨he, s'', hle', hres, hob, hcv, fun ob hm => by have := hco ob hm; rwa [e] at this⟩
theorem AM.conv {P : Program} {f : FuncId} {args : List V} {ins : List Ob} {v v' : V} {outs outs' : List (Option Ob)} {obs : List Ob} (h : AM P f args ins v outs obs) (hv : v = v') (ho : outs = outs') : AM P f args ins v' outs' obs := by
  subst hv ho; exact h
end Go.Ab
