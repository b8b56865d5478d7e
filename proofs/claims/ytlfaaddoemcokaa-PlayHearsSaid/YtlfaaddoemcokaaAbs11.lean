/-
  Names changed, rows shut, contracts of functions, for values without addresses. No condition.
-/
import Derived.Test.YtlfaaddoemcokaaAbs10
namespace Go.Ab
open Go.RowKit Go.Dw

mutual
def V.ren (g : Nat → Nat) : V → V
  | .agg cs => .agg (V.renL g cs)
  | .tup cs => .tup (V.renL g cs)
  | .fn f a b => .fn f (V.renL g a) (V.renL g b)
  | .ifc t v => .ifc t (v.ren g)
  | .gd q v => .gd q (v.ren g)
  | .own i => .own (g i)
  | .ref i o => .ref (g i) o
  | .oel i a b q => .oel (g i) a b q
  | .any => .any
  | .c v => .c v
  | .nil => .nil
  | .emp => .emp
  | .sl a b q => .sl a b q
  | .ptr cs => .ptr cs
def V.renL (g : Nat → Nat) : List V → List V
  | [] => []
  | v :: l => v.ren g :: V.renL g l
end
theorem V.renL_get (g : Nat → Nat) : ∀ (l : List V) (i : Nat), (V.renL g l)[i]? = (l[i]?).map (V.ren g)
  | [], i => by simp [V.renL]
  | v :: l, 0 => by simp [V.renL]
  | v :: l, i + 1 => by simp only [V.renL, List.getElem?_cons_succ]; exact V.renL_get g l i
theorem V.renL_len (g : Nat → Nat) : ∀ l : List V, (V.renL g l).length = l.length
  | [] => rfl
  | v :: l => by simp [V.renL, V.renL_len g l]
theorem V.renL_append (g : Nat → Nat) : ∀ l m : List V, V.renL g (l ++ m) = V.renL g l ++ V.renL g m
  | [], m => rfl
  | v :: l, m => by simp [V.renL, V.renL_append g l m]
mutual
theorem R_ren {w : World} {L : Nat → Prop} {ρ : Nat → Option Value} (g : Nat → Nat) : ∀ (v : V) (x : Value), R w L ρ (v.ren g) x → R w L (fun i => ρ (g i)) v x
  | .agg cs, x, h => by
    rw [V.ren] at h
    obtain ⟨xs, rfl, hl⟩ := h.agg_inv
    exact .agg' ⟨by rw [← hl.1, V.renL_len], fun i u x hu hx => by
      have := hl.2 i (u.ren g) x (by rw [V.renL_get, hu]; rfl) hx
      exact ⟨R_renL g cs i u x hu this.1, this.2⟩⟩
  | .tup cs, x, h => by
    rw [V.ren] at h
    obtain ⟨xs, rfl, hl⟩ := h.tup_inv
    exact .tup' ⟨by rw [← hl.1, V.renL_len], fun i u x hu hx => R_renL g cs i u x hu (hl.2 i (u.ren g) x (by rw [V.renL_get, hu]; rfl) hx)⟩
  | .fn f a b, x, h => by
    rw [V.ren] at h
    obtain ⟨xs, ys, rfl, hl, hm⟩ := h.fn_inv
    exact .fn' ⟨by rw [← hl.1, V.renL_len], fun i u x hu hx => R_renL g a i u x hu (hl.2 i (u.ren g) x (by rw [V.renL_get, hu]; rfl) hx)⟩
      ⟨by rw [← hm.1, V.renL_len], fun i u x hu hx => R_renL g b i u x hu (hm.2 i (u.ren g) x (by rw [V.renL_get, hu]; rfl) hx)⟩
  | .ifc t v, x, h => by
    rw [V.ren] at h
    cases h with
    | ifc _ _ _ y h => exact .ifc _ _ _ _ (R_ren g v y h)
  | .gd q v, x, h => by
    rw [V.ren] at h
    cases h with
    | gd _ _ _ _ h h' => exact .gd _ _ _ _ (fun hq => R_ren g v x (h hq)) h'
  | .own i, x, h => by
    rw [V.ren] at h
    cases h with
    | own _ _ _ h h1 => exact .own _ _ _ h h1
  | .ref i o, x, h => by
    rw [V.ren] at h
    cases h with
    | ref _ _ _ b h => exact .ref _ _ _ _ h
  | .oel i a b c, x, h => by
    rw [V.ren] at h
    cases h with
    | oel _ _ _ _ _ b n c h => exact .oel _ _ _ _ _ _ n c h
  | .any, x, h => .any _ _
  | .c v, x, h => by rw [V.ren] at h; cases h; exact .c _ _
  | .nil, x, h => by rw [V.ren] at h; cases h; exact .nil _
  | .emp, x, h => by rw [V.ren] at h; cases h; exact .emp _ _
  | .sl a b c, x, h => by rw [V.ren] at h; exact h.free rfl _
  | .ptr cs, x, h => by rw [V.ren] at h; exact h.free rfl _
theorem R_renL {w : World} {L : Nat → Prop} {ρ : Nat → Option Value} (g : Nat → Nat) : ∀ (l : List V) (i : Nat) (u : V) (x : Value), l[i]? = some u → R w L ρ (u.ren g) x → R w L (fun i => ρ (g i)) u x
  | [], i, u, x, h, _ => by simp at h
  | v :: l, 0, u, x, h, k => by
    simp at h
    exact h ▸ R_ren g v x (h ▸ k)
  | v :: l, i + 1, u, x, h, k => R_renL g l i u x (by simpa using h) k
end
theorem RL_ren {w : World} {L : Nat → Prop} {ρ : Nat → Option Value} (g : Nat → Nat) {us : List V} {xs : List Value} (h : RL w L ρ (V.renL g us) xs) : RL w L (fun i => ρ (g i)) us xs :=
  ⟨by rw [← h.1, V.renL_len], fun i u x hu hx => by
    have := h.2 i (u.ren g) x (by rw [V.renL_get, hu]; rfl) hx
    exact ⟨R_renL g us i u x hu this.1, this.2⟩⟩

/-- a place in a cell that is never written -/
def V.fzAt (v0 : V) (i o : Nat) : V := match v0 with
  | .ptr cs => .ptr (cs.drop o)
  | _ => .ref i o
theorem R_fzAt {w : World} {L : Nat → Prop} {ρ : Nat → Option Value} {id : Nat} {v0 : V} (h0 : ∀ y, ρ id = some y → R w L ρ v0 y) {o : Nat} {x : Value} (h : R w L ρ (.ref id o) x) : R w L ρ (V.fzAt v0 id o) x := by
  unfold V.fzAt
  split
  · rename_i cs
    obtain ⟨b, rfl, hb⟩ := h.ref_inv
    obtain ⟨b', o', e, hL, hc⟩ := (h0 _ hb).ptr_inv
    injection e with e; injection e with e; injection e with e1 e2 e3
    subst e1 e2
    refine .ptr' hL fun j u hu => ?_
    rw [List.getElem?_drop] at hu
    obtain ⟨y, h1, h2, h3⟩ := hc _ u hu
    exact ⟨y, by simpa using h1, h2, h3⟩
  · exact h
mutual
/-- one name seen as a value that is never written -/
def V.fz (id : Nat) (v0 : V) : V → V
  | .agg cs => .agg (V.fzL id v0 cs)
  | .tup cs => .tup (V.fzL id v0 cs)
  | .fn f a b => .fn f (V.fzL id v0 a) (V.fzL id v0 b)
  | .ifc t v => .ifc t (V.fz id v0 v)
  | .gd q v => .gd q (V.fz id v0 v)
  | .own i => if i = id then v0 else .own i
  | .ref i o => if i = id then V.fzAt v0 i o else .ref i o
  | .oel i a b q => .oel i a b q
  | .any => .any
  | .c v => .c v
  | .nil => .nil
  | .emp => .emp
  | .sl a b q => .sl a b q
  | .ptr cs => .ptr cs
def V.fzL (id : Nat) (v0 : V) : List V → List V
  | [] => []
  | v :: l => V.fz id v0 v :: V.fzL id v0 l
end
theorem V.fzL_get (id : Nat) (v0 : V) : ∀ (l : List V) (i : Nat), (V.fzL id v0 l)[i]? = (l[i]?).map (V.fz id v0)
  | [], i => by simp [V.fzL]
  | v :: l, 0 => by simp [V.fzL]
  | v :: l, i + 1 => by simp only [V.fzL, List.getElem?_cons_succ]; exact V.fzL_get id v0 l i
theorem V.fzL_len (id : Nat) (v0 : V) : ∀ l : List V, (V.fzL id v0 l).length = l.length
  | [] => rfl
  | v :: l => by simp [V.fzL, V.fzL_len id v0 l]
mutual
theorem R_fz {w : World} {L : Nat → Prop} {ρ : Nat → Option Value} {id : Nat} {v0 : V} (h0 : ∀ y, ρ id = some y → R w L ρ v0 y) : ∀ (v : V) (x : Value), R w L ρ v x → R w L ρ (V.fz id v0 v) x
  | .agg cs, x, h => by
    obtain ⟨xs, rfl, hl⟩ := h.agg_inv
    rw [V.fz]
    exact .agg' ⟨by rw [← hl.1, V.fzL_len], fun i u x hu hx => by
      rw [V.fzL_get] at hu
      cases hc : cs[i]? with
      | none => rw [hc] at hu; cases hu
      | some c =>
        rw [hc] at hu
        have := hl.2 i c x hc hx
        simp only [Option.map_some, Option.some.injEq] at hu
        subst hu
        exact ⟨R_fzL h0 cs i c x hc this.1, this.2⟩⟩
  | .tup cs, x, h => by
    obtain ⟨xs, rfl, hl⟩ := h.tup_inv
    rw [V.fz]
    exact .tup' ⟨by rw [← hl.1, V.fzL_len], fun i u x hu hx => by
      rw [V.fzL_get] at hu
      cases hc : cs[i]? with
      | none => rw [hc] at hu; cases hu
      | some c =>
        rw [hc] at hu
        simp only [Option.map_some, Option.some.injEq] at hu
        subst hu
        exact R_fzL h0 cs i c x hc (hl.2 i c x hc hx)⟩
  | .fn f a b, x, h => by
    obtain ⟨xs, ys, rfl, hl, hm⟩ := h.fn_inv
    rw [V.fz]
    refine .fn' ⟨by rw [← hl.1, V.fzL_len], fun i u x hu hx => ?_⟩ ⟨by rw [← hm.1, V.fzL_len], fun i u x hu hx => ?_⟩
    · rw [V.fzL_get] at hu
      cases hc : a[i]? with
      | none => rw [hc] at hu; cases hu
      | some c =>
        rw [hc] at hu
        simp only [Option.map_some, Option.some.injEq] at hu
        subst hu
        exact R_fzL h0 a i c x hc (hl.2 i c x hc hx)
    · rw [V.fzL_get] at hu
      cases hc : b[i]? with
      | none => rw [hc] at hu; cases hu
      | some c =>
        rw [hc] at hu
        simp only [Option.map_some, Option.some.injEq] at hu
        subst hu
        exact R_fzL h0 b i c x hc (hm.2 i c x hc hx)
  | .ifc t v, x, h => by
    rw [V.fz]
    cases h with
    | ifc _ _ _ y h => exact .ifc _ _ _ _ (R_fz h0 v y h)
  | .gd q v, x, h => by
    rw [V.fz]
    cases h with
    | gd _ _ _ _ h h' => exact .gd _ _ _ _ (fun hq => R_fz h0 v x (h hq)) h'
  | .own i, x, h => by
    rw [V.fz]
    split
    · rename_i e; subst e; exact h0 x h.own_inv
    · exact h
  | .ref i o, x, h => by
    rw [V.fz]
    split
    · rename_i e; subst e; exact R_fzAt h0 h
    · exact h
  | .oel i a b c, x, h => by rw [V.fz]; exact h
  | .any, x, h => .any _ _
  | .c v, x, h => by rw [V.fz]; exact h
  | .nil, x, h => by rw [V.fz]; exact h
  | .emp, x, h => by rw [V.fz]; exact h
  | .sl a b c, x, h => by rw [V.fz]; exact h
  | .ptr cs, x, h => by rw [V.fz]; exact h
theorem R_fzL {w : World} {L : Nat → Prop} {ρ : Nat → Option Value} {id : Nat} {v0 : V} (h0 : ∀ y, ρ id = some y → R w L ρ v0 y) : ∀ (l : List V) (i : Nat) (u : V) (x : Value), l[i]? = some u → R w L ρ u x → R w L ρ (V.fz id v0 u) x
  | [], i, u, x, h, _ => by simp at h
  | v :: l, 0, u, x, h, k => by
    simp at h
    exact h ▸ R_fz h0 v x (h ▸ k)
  | v :: l, i + 1, u, x, h, k => R_fzL h0 l i u x (by simpa using h) k
end

def Ob.ren (g : Nat → Nat) : Ob → Ob
  | .box t cs => .box t (V.renL g cs)
  | .row e sz n q => .row e sz n fun i => V.renL g (q i)
theorem renL_flatten (g : Nat → Nat) : ∀ rows : List (List V), V.renL g rows.flatten = (rows.map (V.renL g)).flatten
  | [] => rfl
  | r :: rows => by rw [List.flatten_cons, V.renL_append, List.map_cons, List.flatten_cons, renL_flatten g rows]
theorem slRows_ren (g : Nat → Nat) (n : Nat) (row : Nat → List V) : (slRows n fun i => V.renL g (row i)).flatten = V.renL g (slRows n row).flatten := by
  rw [renL_flatten]; simp [slRows, Function.comp_def]
theorem Real.ren {W L : Nat → Prop} {w : World} {ρ : Nat → Option Value} {g : Nat → Nat} {id : Nat} {o : Ob} (h : Real W w L ρ (g id) (o.ren g)) : Real W w L (fun i => ρ (g i)) id o := by
  cases o with
  | box t cs =>
    obtain ⟨b, xs, h1, h2, h3, h4, h5⟩ := h
    exact ⟨b, xs, h1, h2, h3, h4, RL_ren g h5⟩
  | row e sz n row =>
    obtain ⟨v, xs, h1, h2, h3, h4, h5⟩ := h
    refine ⟨v, xs, h1, h2, fun i hi => ?_, RL_ren g (by rw [← slRows_ren]; exact h4), h5⟩
    have := h3 i hi
    rwa [V.renL_len] at this
/-- the same object, said otherwise -/
def ObEq : Ob → Ob → Prop
  | .box t cs, .box t' cs' => t = t' ∧ cs = cs'
  | .row e sz n row, .row e' sz' n' row' => e = e' ∧ sz = sz' ∧ n = n' ∧ ∀ i, i < n → row i = row' i
  | _, _ => False
theorem Real.eq {W L : Nat → Prop} {w : World} {ρ : Nat → Option Value} {id : Nat} {o o' : Ob} (h : Real W w L ρ id o) (e : ObEq o o') : Real W w L ρ id o' := by
  cases o with
  | box t cs =>
    cases o' with
    | box t' cs' => obtain ⟨rfl, rfl⟩ := e; exact h
    | row => exact e.elim
  | row t sz n row =>
    cases o' with
    | box => exact e.elim
    | row t' sz' n' row' =>
      obtain ⟨rfl, rfl, rfl, e⟩ := e
      obtain ⟨v, xs, h1, h2, h3, h4, h5⟩ := h
      have : slRows n row = slRows n row' := by
        unfold slRows
        exact List.map_congr_left fun i hi => e i (by simpa using hi)
      exact ⟨v, xs, h1, h2, fun i hi => by rw [← e i hi]; exact h3 i hi, by rw [← this]; exact h4, h5⟩

/-! ### States seen otherwise -/
def lookG (l : List (Nat × Nat)) (nx : Nat) (i : Nat) : Nat := match l.find? (·.1 == i) with | some p => p.2 | none => if 500 ≤ i ∧ i < 1000 then i else nx * 100000 + i
theorem Gam.ren {P : Program} {N : Nat} {C : Cx P N} {a : Act} {w : World} {s : S} (tl : List (Nat × V)) (sl : List (Nat × Ob)) (gl : List (Nat × Nat))
    (htm : ∀ p ∈ tl, s.tm p.1 = p.2.ren (lookG gl s.nx)) (hσ : ∀ p ∈ sl, ∃ ob, s.σ (lookG gl s.nx p.1) = some ob ∧ ObEq ob (p.2.ren (lookG gl s.nx)))
    (hinj : (sl.map fun p => lookG gl s.nx p.1).Nodup) (hid : ∀ p ∈ gl, p.1 < 1000) (hpin : ∀ p ∈ gl, C.dfs.pin p.1 = none) {L : Nat → Prop} {ρ : Nat → Option Value} (h : Gam C.W C.LB N C.dfs (freshA s.nx) s.tm s.σ a w L ρ) :
    Gam C.W C.LB N C.dfs (freshA 1) (tl.foldr (fun p f => upd f p.1 p.2) (fun _ => .any)) (sl.foldr (fun p f => upd f p.1 (some p.2)) (fun _ => none)) a w L (fun i => ρ (lookG gl s.nx i)) := by
  refine ⟨⟨h.g.ll, h.g.new, fun id o ho => ?_, ?_⟩, fun id hid' => ?_, fun t => ?_, h.size, h.defers, fun id x hp => ?_⟩
  · have key : ∀ (sl : List (Nat × Ob)), (∀ p ∈ sl, ∃ ob, s.σ (lookG gl s.nx p.1) = some ob ∧ ObEq ob (p.2.ren (lookG gl s.nx))) → sl.foldr (fun p f => upd f p.1 (some p.2)) (fun _ => none) id = some o → ∃ ob, s.σ (lookG gl s.nx id) = some ob ∧ ObEq ob (o.ren (lookG gl s.nx)) := by
      intro sl
      induction sl with
      | nil => intro _ ho; cases ho
      | cons p sl ih =>
        intro hp ho
        rw [List.foldr_cons] at ho
        by_cases he : id = p.1
        · subst he
          rw [upd_same] at ho; injection ho with ho; subst ho
          exact hp p (by simp)
        · rw [upd_ne _ _ he] at ho
          exact ih (fun q hq => hp q (by simp [hq])) ho
    obtain ⟨ob, h1, h2⟩ := key sl hσ ho
    exact ((h.g.ob _ _ h1).eq h2).ren
  · intro i j x y k hij hi hj hx hy hk hky
    have mem : ∀ (sl : List (Nat × Ob)) (i : Nat), sl.foldr (fun p f => upd f p.1 (some p.2)) (fun _ => none) i ≠ none → ∃ p ∈ sl, p.1 = i := by
      intro sl i
      induction sl with
      | nil => intro h; exact absurd rfl h
      | cons p sl ih =>
        intro h
        by_cases he : i = p.1
        · exact ⟨p, by simp, he.symm⟩
        · rw [List.foldr_cons, upd_ne _ _ he] at h
          obtain ⟨q, hq, he⟩ := ih h
          exact ⟨q, by simp [hq], he⟩
    obtain ⟨p, hp, rfl⟩ := mem sl i hi
    obtain ⟨q, hq, rfl⟩ := mem sl j hj
    have hne : lookG gl s.nx p.1 ≠ lookG gl s.nx q.1 := by
      intro he
      have inj : ∀ (l : List (Nat × Ob)), (l.map fun p => lookG gl s.nx p.1).Nodup → ∀ p ∈ l, ∀ q ∈ l, lookG gl s.nx p.1 = lookG gl s.nx q.1 → p = q := by
        intro l
        induction l with
        | nil => intro _ p hp; simp at hp
        | cons x l ih =>
          intro hn p hp q hq he
          rw [List.map_cons, List.nodup_cons] at hn
          rcases List.mem_cons.1 hp with rfl | hp'
          · rcases List.mem_cons.1 hq with rfl | hq'
            · rfl
            · exact absurd (List.mem_map.2 ⟨q, hq', he.symm⟩) hn.1
          · rcases List.mem_cons.1 hq with rfl | hq'
            · exact absurd (List.mem_map.2 ⟨p, hp', he⟩) hn.1
            · exact ih hn.2 p hp' q hq' he
      exact hij (by rw [inj sl hinj p hp q hq he])
    exact h.g.sep _ _ x y k hne (by obtain ⟨ob, h1, _⟩ := hσ p hp; rw [h1]; simp) (by obtain ⟨ob, h1, _⟩ := hσ q hq; rw [h1]; simp) hx hy hk hky
  · have hf : gl.find? (·.1 == id) = none := by
      rw [List.find?_eq_none]
      intro p hp hc
      have := hid p hp
      simp at hc
      have hid2 : 1 * 100000 ≤ id := hid'
      omega
    show ρ (lookG gl s.nx id) = none
    have hid2 : 1 * 100000 ≤ id := hid'
    have e : lookG gl s.nx id = s.nx * 100000 + id := by
      unfold lookG
      rw [hf]
      simp only
      rw [if_neg (by omega)]
    rw [e]
    exact h.fr _ (by unfold freshA; simp)
  · have key : ∀ (tl : List (Nat × V)), (∀ p ∈ tl, s.tm p.1 = p.2.ren (lookG gl s.nx)) → R w L (fun i => ρ (lookG gl s.nx i)) (tl.foldr (fun p f => upd f p.1 p.2) (fun _ => .any) t) (a.tmps.getD t undef) := by
      intro tl
      induction tl with
      | nil => intro _; exact .any _ _
      | cons p tl ih =>
        intro hp
        rw [List.foldr_cons]
        by_cases he : t = p.1
        · subst he
          rw [upd_same]
          have := h.tm p.1
          rw [hp p (by simp)] at this
          exact R_ren _ _ _ this
        · rw [upd_ne _ _ he]
          exact ih fun q hq => hp q (by simp [hq])
    exact key tl htm
  · have hl := C.dfs.lo id x hp
    have hf : gl.find? (·.1 == id) = none := by
      rw [List.find?_eq_none]
      intro p hq hc
      have h1 := hpin p hq
      simp at hc
      rw [hc, hp] at h1
      cases h1
    have e : lookG gl s.nx id = id := by
      unfold lookG
      rw [hf]
      simp only
      rw [if_pos hl]
    show ρ (lookG gl s.nx id) = some x
    rw [e]
    exact h.pin id x hp
theorem Le.ren {s : S} (tl : List (Nat × V)) (sl : List (Nat × Ob)) (gl : List (Nat × Nat))
    (htm : ∀ p ∈ tl, s.tm p.1 = p.2.ren (lookG gl s.nx)) (hσ : ∀ p ∈ sl, ∃ ob, s.σ (lookG gl s.nx p.1) = some ob ∧ ObEq ob (p.2.ren (lookG gl s.nx)))
    (hinj : (sl.map fun p => lookG gl s.nx p.1).Nodup) (hid : ∀ p ∈ gl, p.1 < 500) :
    Le s ⟨tl.foldr (fun p f => upd f p.1 p.2) (fun _ => .any), sl.foldr (fun p f => upd f p.1 (some p.2)) (fun _ => none), 1⟩ := by
  intro P N C a w ⟨L, ρ, h⟩
  refine ⟨L, _, Gam.ren tl sl gl htm hσ hinj (fun p hp => Nat.lt_trans (hid p hp) (by decide)) (fun p hp => ?_) h⟩
  cases hc : C.dfs.pin p.1 with
  | none => rfl
  | some x =>
    have h1 := C.dfs.lo _ _ hc
    have h2 := hid p hp
    omega
/-- A row that is not written any more. -/
theorem Le.freeze {s : S} (id : Nat) {e sz n : Nat} {row : Nat → List V} (hσ : s.σ id = some (.row e sz n row)) (hi : ∀ i, i < n → V.idfL (row i) = true) :
    Le s ⟨fun t => V.fz id (.sl sz n row) (s.tm t), upd s.σ id none, s.nx⟩ := by
  intro P N C a w ⟨L, ρ, h⟩
  obtain ⟨v, xs, hv, hown, hsz, hl, hb⟩ := h.g.ob id _ hσ
  have hlt := (h.g.ob id _ hσ).lt
  obtain ⟨v', hv', hlt⟩ := hlt
  rw [hv] at hv'; injection hv' with hv'; subst hv'
  have ex : Ext w L ρ w (fun b => L b ∨ blk v = some b) ρ := ⟨fun b hb => ⟨.inl hb, rfl⟩, fun _ _ h => h⟩
  refine ⟨fun b => L b ∨ blk v = some b, ρ, ⟨⟨fun b hbl => ?_, h.g.new, fun id' o (ho : upd s.σ id none id' = some o) => ?_, ?_⟩, h.fr, fun t => ?_, h.size, ?_, h.pin⟩⟩
  · rcases hbl with hbl | hbl
    · exact h.g.ll b hbl
    · exact ⟨(hlt b hbl).1, C.wl b (hlt b hbl).2.1⟩
  · by_cases he : id' = id
    · subst he; rw [upd_same] at ho; cases ho
    · rw [upd_ne _ _ he] at ho
      refine (h.g.ob id' o ho).keep ex fun x k hx hk => ⟨rfl, ?_⟩
      rintro (hL | hL)
      · obtain ⟨y, hy, hy2⟩ := (h.g.ob id' o ho).lt
        rw [hx] at hy; injection hy with hy; subst hy
        exact (hy2 k hk).2.2 hL
      · exact h.g.sep id' id x v k he (by rw [ho]; simp) (by rw [hσ]; simp) hx hv hk hL
  · intro i j x y k hij hi' hj hx hy hk
    refine h.g.sep i j x y k hij (fun hc => hi' ?_) (fun hc => hj ?_) hx hy hk
    · show upd s.σ id none i = none
      by_cases he : i = id
      · subst he; exact upd_same _ _ _
      · rw [upd_ne _ _ he]; exact hc
    · show upd s.σ id none j = none
      by_cases he : j = id
      · subst he; exact upd_same _ _ _
      · rw [upd_ne _ _ he]; exact hc
  rotate_left
  · obtain ⟨Ds, h4, h5, h6⟩ := h.defers
    refine ⟨Ds, h4, h5, fun D hD => ?_⟩
    obtain ⟨h7, h8, h9⟩ := h6 D hD
    refine ⟨h7, h8, ?_⟩
    rintro (hL | hL)
    · exact h9 hL
    · rcases hown.2 with ⟨h, _⟩ | ⟨g', cap, cur, h, _, hh, _⟩
      · rw [h] at hL; simp [blk] at hL
      · rw [h] at hL; simp [blk] at hL; subst hL; rw [hh] at h7; cases h7
  · refine R_fz (fun y hy => ?_) _ _ ((h.tm t).ext ex)
    rw [hv] at hy; injection hy with hy; subst hy
    obtain ⟨A, c, hA⟩ : ∃ A c, v = .slice A n c := by
      rcases hown.2 with ⟨h1, h2⟩ | ⟨g', cap, cur, h1, _⟩
      · exact ⟨_, _, by rw [h1, h2]⟩
      · exact ⟨_, _, h1⟩
    have hcap : n ≤ c := by
      rcases hown.2 with ⟨h1, h2⟩ | ⟨g', cap, cur, h1, _, _, h3, _⟩
      · omega
      · rw [h1] at hA; injection hA with _ _ hA3; omega
    rw [hA]
    refine .sl' hcap fun hpos => ?_
    rcases hown.2 with ⟨_, h2⟩ | ⟨g', cap, cur, h1, _, hh, hc1, hc2, hc3, hc4⟩
    · omega
    · rw [h1] at hA
      injection hA with hA1 hA2 hA3
      refine ⟨g', 0, hA1.symm, .inr (by rw [← hA1]; rfl), fun i hi => ?_, fun i j u hil hu => ?_⟩
      · exact hsz i hi
      · have hj : j < sz := by rw [← hsz i hil]; exact (List.getElem?_eq_some_iff.1 hu).1
        have hfl : (slRows n row).flatten[i * sz + j]? = some u := by rw [flat_get (slRows_sz hsz) (slRows_get hil) hj, hu]
        obtain ⟨y, hy, hry, hone⟩ := hl.get hfl
        refine ⟨y, ?_, hone, (hry.free (V.idfL_get (hi i hil) hu) ρ0).ext ⟨fun b hb => ⟨.inl hb, rfl⟩, fun _ _ h => h⟩⟩
        rw [cell_of_row w g' _ cur e (0, 0) hh, Nat.zero_add]
        rw [← hc4, List.getElem?_take] at hy
        split at hy
        · simpa using hy
        · cases hy
/-- A cell that is not written any more. -/
theorem Le.freezeBox {s : S} (id : Nat) {t0 : Nat} {cs : List V} (hσ : s.σ id = some (.box t0 cs)) (hi : V.idfL cs = true) :
    Le s ⟨fun t => V.fz id (.ptr cs) (s.tm t), upd s.σ id none, s.nx⟩ := by
  intro P N C a w ⟨L, ρ, h⟩
  obtain ⟨B, xs, hv, hBW, hBL, hh, hl⟩ := h.g.ob id _ hσ
  generalize hvv : Value.pointer (some ⟨B, 0, none⟩) = v at hv
  have hlt := (h.g.ob id _ hσ).lt
  obtain ⟨v', hv', hlt⟩ := hlt
  rw [hv] at hv'; injection hv' with hv'; subst hv'
  have ex : Ext w L ρ w (fun b => L b ∨ blk v = some b) ρ := ⟨fun b hb => ⟨.inl hb, rfl⟩, fun _ _ h => h⟩
  refine ⟨fun b => L b ∨ blk v = some b, ρ, ⟨⟨fun b hbl => ?_, h.g.new, fun id' o (ho : upd s.σ id none id' = some o) => ?_, ?_⟩, h.fr, fun t => ?_, h.size, ?_, h.pin⟩⟩
  · rcases hbl with hbl | hbl
    · exact h.g.ll b hbl
    · exact ⟨(hlt b hbl).1, C.wl b (hlt b hbl).2.1⟩
  · by_cases he : id' = id
    · subst he; rw [upd_same] at ho; cases ho
    · rw [upd_ne _ _ he] at ho
      refine (h.g.ob id' o ho).keep ex fun x k hx hk => ⟨rfl, ?_⟩
      rintro (hL | hL)
      · obtain ⟨y, hy, hy2⟩ := (h.g.ob id' o ho).lt
        rw [hx] at hy; injection hy with hy; subst hy
        exact (hy2 k hk).2.2 hL
      · exact h.g.sep id' id x v k he (by rw [ho]; simp) (by rw [hσ]; simp) hx hv hk hL
  · intro i j x y k hij hi' hj hx hy hk
    refine h.g.sep i j x y k hij (fun hc => hi' ?_) (fun hc => hj ?_) hx hy hk
    · show upd s.σ id none i = none
      by_cases he : i = id
      · subst he; exact upd_same _ _ _
      · rw [upd_ne _ _ he]; exact hc
    · show upd s.σ id none j = none
      by_cases he : j = id
      · subst he; exact upd_same _ _ _
      · rw [upd_ne _ _ he]; exact hc
  rotate_left
  · obtain ⟨Ds, h4, h5, h6⟩ := h.defers
    refine ⟨Ds, h4, h5, fun D hD => ?_⟩
    obtain ⟨h7, h8, h9⟩ := h6 D hD
    refine ⟨h7, h8, ?_⟩
    rintro (hL | hL)
    · exact h9 hL
    · subst hvv
      simp [blk] at hL; subst hL; rw [hh] at h7; cases h7
  · refine R_fz (fun y hy => ?_) _ _ ((h.tm t).ext ex)
    rw [hv] at hy; injection hy with hy; subst hy
    subst hvv
    refine .ptr' (.inr rfl) fun j u hu => ?_
    obtain ⟨y, hy, hry, hone⟩ := hl.get hu
    refine ⟨y, ?_, hone, (hry.free (V.idfL_get hi hu) ρ0).ext ⟨fun b hb => ⟨.inl hb, rfl⟩, fun _ _ h => h⟩⟩
    rw [cell_of_row w B _ xs t0 (0, 0) hh, Nat.zero_add]
    simpa using hy

end Go.Ab
