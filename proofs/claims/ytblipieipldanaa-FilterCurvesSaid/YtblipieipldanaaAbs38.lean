/-
  Contracts that read a slice, called with a row of the caller's that stays: results of numbers and of new rows of numbers. No condition.
-/
import Derived.Test.YtblipieipldanaaAbs32
namespace Go.Ab
open Go.RowKit Go.Dw

/-- numbers and rows by name, or a tuple of such -/
def V.flatPT (pn : List Nat) : V → Bool
  | .tup cs => V.flatPL pn cs
  | v => v.flatP pn
theorem R.flatPT {pn : List Nat} {w w' : World} {L L' : Nat → Prop} {ρ ρ' : Nat → Option Value} {u : V} {x : Value} (h : R w L ρ u x) (hf : u.flatPT pn = true) (hρ : ∀ id ∈ pn, ∀ v, ρ id = some v → ρ' id = some v) : R w' L' ρ' u x := by
  cases u with
  | tup cs =>
    obtain ⟨xs, rfl, hx⟩ := h.tup_inv
    exact .tup' ⟨hx.1, fun i v y hv hy => (hx.2 i v y hv hy).flatP (V.flatPL_get hf hv) hρ⟩
  | _ => exact h.flatP hf hρ
/-- a row of numbers -/
def Ob.isC : Ob → Prop
  | .row _ _ n r => ∀ i, i < n → ∀ u ∈ r i, u.isC = true
  | _ => False
theorem AC.rowK {P : Program} {f : FuncId} {args args' : List V} {v : V} {obs : List Ob} (h : AC P f args' v obs) (e : TypeId) {sz n : Nat} {row : Nat → List V} (ha : V.fzL 500 (.sl sz n row) args = args') (hi : V.idfL args' = true) (ho : obs.length ≤ 90) (hi2 : ∀ i, V.idfL (row i) = true)
    (hv : v.flatPT (List.range obs.length) = true) (hC : ∀ o ∈ obs, o.isC) : AM P f args [.row e sz n row] v [some (.row e sz n row)] obs := by
  refine ⟨h.1, fun W LB L w ρ vs hwl hWL hG hρ hvs => ?_⟩
  have hσ : insF [.row e sz n row] 500 = some (.row e sz n row) := rfl
  have hre : Real W w L ρ 500 (.row e sz n row) := hG.ob 500 _ hσ
  obtain ⟨v0, hv0, hlt, hs⟩ := hre.slice fun i _ => hi2 i
  have ex : Ext w L ρ w (fun b => L b ∨ blk v0 = some b) ρ := ⟨fun b hb => ⟨.inl hb, rfl⟩, fun _ _ h => h⟩
  have hrv : RV w (fun b => L b ∨ blk v0 = some b) ρ0 args' vs.toList := by
    refine RV.free (ρ := ρ) ?_ hi
    rw [← ha]
    refine ⟨by rw [V.fzL_len]; exact hvs.1, fun i u x hu hx => ?_⟩
    rw [V.fzL_get] at hu
    cases hc : args[i]? with
    | none => rw [hc] at hu; cases hu
    | some a =>
      rw [hc] at hu
      simp only [Option.map_some, Option.some.injEq] at hu
      subst hu
      refine R_fz (fun y hy => ?_) _ _ ((hvs.2 i a x hc hx).ext ex)
      rw [hv0] at hy; injection hy with hy; subst hy; exact hs
  refine (h.2 (fun b => L b ∨ blk v0 = some b) w vs (fun b hb => ?_) (hG.glE ex) hrv).mono ?_
  · rcases hb with hb | hb
    · exact (hG.ll b hb).1
    · exact (hlt b hb).1
  rintro ee w' ⟨x, rfl, hbel, L', ρ', hG', hL', hx, hnn⟩
  obtain ⟨hG2, ex2⟩ := hG.quiet hbel (L' := L) (fun _ h => h) (fun _ h => .inl h)
  obtain ⟨ρ2, hρ2⟩ : ∃ ρ2 : Nat → Option Value, ∀ id, ρ2 id = if id < obs.length then ρ' id else ρ id := ⟨_, fun _ => rfl⟩
  have h1 : ∀ id, id < obs.length → ρ2 id = ρ' id := fun id h => by rw [hρ2, if_pos h]
  have h2 : ∀ id, ¬ id < obs.length → ρ2 id = ρ id := fun id h => by rw [hρ2, if_neg h]
  have hout : ∀ id o, outF [some (.row e sz n row)] obs id = some o → (id < obs.length ∧ obsF obs id = some o) ∨ (id = 500 ∧ o = .row e sz n row) := fun id o hio => by
    unfold outF at hio
    split at hio
    · rename_i h5
      refine .inr ?_
      cases hk : id - 500 with
      | zero => rw [hk] at hio; simp at hio; exact ⟨by omega, hio.symm⟩
      | succ m => rw [hk] at hio; simp at hio
    · refine .inl ⟨?_, hio⟩
      exact (List.getElem?_eq_some_iff.1 hio).1
  have hob : ∀ id o, obsF obs id = some o → id < obs.length → Real W w' L ρ2 id o ∧ ∀ y k, ρ2 id = some y → blk y = some k → w.heap.size ≤ k := fun id o hio hid => by
    have hr := hG'.ob id o hio
    have hc := hC o (List.mem_of_getElem? hio)
    cases o with
    | row t z m r =>
      obtain ⟨y, xs, q1, q2, q3, q4, q5⟩ := hr
      refine ⟨⟨y, xs, by rw [h1 id hid]; exact q1, q2, q3, q4.ofC fun u hu => ?_, fun k hk => ⟨(hG.new k (q5 k hk).1).1, fun hL => by have := (hG.ll k hL).1; have := (q5 k hk).1; omega⟩⟩, fun y' k hy hk => ?_⟩
      · obtain ⟨l, hl, hul⟩ := List.mem_flatten.1 hu
        obtain ⟨i, hi, rfl⟩ := List.mem_iff_getElem.1 hl
        have hi' : i < m := by simpa [slRows_len] using hi
        have := slRows_get (row := r) hi'
        rw [List.getElem?_eq_getElem hi] at this
        injection this with this
        rw [this] at hul
        exact hc i hi' u hul
      · rw [h1 id hid, q1] at hy; injection hy with hy; subst hy
        exact (q5 k hk).1
    | _ => exact hc.elim
  refine ⟨x, rfl, Tch.of_below hbel fun k _ hk => (hG.new k hk).1, L, ρ2, ⟨fun b hb => hG2.ll b hb, fun b hb => hG2.new b hb, fun id o hio => ?_, fun i j y z k hij hi hj hy hz hk => ?_, hG2.gl⟩, ⟨fun b hb => ex2.1 b hb, fun id y hy => ?_⟩, hx.flatPT hv fun id hid y hy => by rw [h1 id (List.mem_range.1 hid)]; exact hy, fun j hj hj5 => ?_⟩
  · rcases hout id o hio with ⟨hid, hio⟩ | ⟨rfl, rfl⟩
    · exact (hob id o hio hid).1
    · obtain ⟨y, xs, q1, q2, q3, q4, q5⟩ := hG2.ob 500 _ hσ
      have hn5 : ¬ 500 < obs.length := by omega
      exact ⟨y, xs, by rw [h2 500 hn5]; exact q1, q2, q3, by
        refine ⟨q4.1, fun i u x hu hx => ⟨?_, (q4.2 i u x hu hx).2⟩⟩
        have hr := (q4.2 i u x hu hx).1
        refine (hr.free ?_ ρ2)
        obtain ⟨l, hl, hul⟩ := List.mem_flatten.1 (List.mem_of_getElem? hu)
        obtain ⟨i', hi', rfl⟩ := List.mem_iff_getElem.1 hl
        have hi'' : i' < n := by simpa [slRows_len] using hi'
        have := slRows_get (row := row) hi''
        rw [List.getElem?_eq_getElem hi'] at this
        injection this with this
        rw [this] at hul
        obtain ⟨p, hp, rfl⟩ := List.mem_iff_getElem.1 hul
        exact V.idfL_get (hi2 i') (List.getElem?_eq_getElem hp), q5⟩
  · cases hio : outF [some (.row e sz n row)] obs i with
    | none => exact absurd hio hi
    | some o =>
      cases hjo : outF [some (.row e sz n row)] obs j with
      | none => exact absurd hjo hj
      | some o' =>
        rcases hout i o hio with ⟨hid, hio'⟩ | ⟨rfl, rfl⟩
        · rcases hout j o' hjo with ⟨hjd, hjo'⟩ | ⟨rfl, rfl⟩
          · rw [h1 i hid] at hy; rw [h1 j hjd] at hz
            exact hG'.sep i j y z k hij (by rw [hio']; simp) (by rw [hjo']; simp) hy hz hk
          · intro hk'
            have a1 := (hob i o hio' hid).2 y k hy hk
            rw [h2 500 (by omega), hv0] at hz; injection hz with hz; subst hz
            have := (hlt k hk').1
            omega
        · rcases hout j o' hjo with ⟨hjd, hjo'⟩ | ⟨rfl, rfl⟩
          · intro hk'
            have a1 := (hob j o' hjo' hjd).2 z k hz hk'
            rw [h2 500 (by omega), hv0] at hy; injection hy with hy; subst hy
            have := (hlt k hk).1
            omega
          · exact absurd rfl hij
  · have : ¬ id < obs.length := fun hlt' => by
      rw [hρ id (.inl (by omega))] at hy; cases hy
    rw [h2 id this]; exact hy
  · rw [h2 j (by omega)]
    exact hρ j hj5

section
variable {P : Program} {N : Nat} {C : Cx P N} {ops : Array Oper} {nx : Nat} {os : List Oper} {tm : Nat → V} {σ : Nat → Option Ob} {ks : List (List Nat × List Nat)} {K : (Nat → V) → (Nat → Option Ob) → List (List Nat × List Nat) → Prop} {ty : TypeId} {pos : String} {af : Array Edge}
/-- a call under a guard that leaves the objects that it is handed as they are -/
theorem aops_callRG (n : Nat) {d : Nat} {gd' : Nat × Bool} {g : Bool} {fo : Operand} {ar : Array Operand} {ats : Array TypeId} {f : FuncId} {first caps args : List V} {ins ins' : List Ob} {v v' : V} {outs : List (Option Ob)} {kp : List Nat} (ns : List Nat)
    (hg : guardV (ops.toList.map (·.dst)) tm ⟨some d, .call { callee := .value fo, args := ar, argTypes := ats }, ty, pos, af, some gd'⟩ = some (some g)) (hc : g = true → AM P f args ins v outs []) (hou : outs = ins.map some) (hf : ug (ev tm fo) = .fn (.func f) first caps)
    (hargs : first ++ ar.toList.map (fun x => ug (ev tm x)) ++ caps = V.renL (nameG nx (some d) ns) args) (hin : V.inNL ins.length args = true) (hd : decide (d < 1000) = true) (hns : decide ns.Nodup = true) (hnl : ns.length = ins.length)
    (hσ : lookS σ ns = ins'.map some) (hins : ins.map (Ob.ren (nameG nx (some d) ns)) = ins') (hi2 : allIn ins.length ins) (hv : v.ren (nameG nx (some d) ns) = v') (hkp : keysP (preD ns ins') = kp)
    (hu : gds (opsV tm ⟨some d, .call { callee := .value fo, args := ar, argTypes := ats }, ty, pos, af, some gd'⟩) = List.replicate n g)
    (hk : AOps C ops nx os (upd tm d (.gd g v')) σ (ks ++ [([], kp)]) K) : AOps C ops nx (⟨some d, .call { callee := .value fo, args := ar, argTypes := ats }, ty, pos, af, some gd'⟩ :: os) tm σ ks K := by
  subst hv hkp hou
  have hd' : d < 1000 := of_decide_eq_true hd
  have hI := InsOk.of_map (n := ins.length) hins (allIn_mem hi2)
  refine aops_guard (pre := preD ns ins') hg (fun x hx => ugL_spec (gds_spec hu) _ (opsV_mem hx)) (fun he => ⟨?_, lookS_pre hσ⟩) hk
  have st := as_callM (W := C.W) (LB := C.LB) (ty := ty) (pos := pos) (af := af) (gd := some gd') (ats := ats) (d := some d) (ev := fun x => ug (ev tm x)) (hc he) C.wl ns hf nx hargs hin (by simpa using hd') (by simp) (of_decide_eq_true hns) hnl (by simp) hI.get.1 hI.get.2
  intro σ' w L ρ q hG hr hp hn
  have := st σ' w L ρ q hG hr hp (by simp)
  simp only [callD, List.append_nil, List.length_nil, List.range_zero, List.map_nil] at this
  rwa [upds_same _ σ' (outD_pre hins hp)] at this
end
end Go.Ab
