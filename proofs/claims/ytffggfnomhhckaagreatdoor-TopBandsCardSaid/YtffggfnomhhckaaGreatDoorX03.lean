/-
  Several texts in one: Ranges over functions at numerals: the values that an iterator hands out, and the rounds. No condition. .. Calls whose arguments are numerals, run to their ends: what they call is run, too. No condition.
-/
import Derived.Test.YtffggfnomhhckaaGreatDoorX02
import Derived.Test.YtffggfnomhhckaaGreatDoorX01
namespace Go.Ab
open Go.RowKit Go.Dw Go.Shelf
noncomputable section
def AWJR {P : Program} (N : Nat) {es : List (List V)} (Y : YE4 P es) (c : Code) (Q : Exit → S → Nat → Bool → Prop) : Nat → S → Nat → Bool → Prop
 | 0, _, _, _ => False
 | m + 1, s, k, g => AWJ4 N Y c (XThenJ (AWJR N Y c Q m) Q) s k g
theorem awj4_rounds {P : Program} {N : Nat} {es : List (List V)} {Y : YE4 P es} {Q : Exit → S → Nat → Bool → Prop} {c : Code} {s : S} {k : Nat} {g : Bool} (m : Nat) (h : AWJR N Y c Q m s k g) : AWJ4 N Y (.loop c) Q s k g := by
 intro C A a w yc gm hj
 refine wpIn_loop_rounds m ?_
 have key : ∀ (m : Nat) (s : S) (k : Nat) (g : Bool) (C : Cx P N) (A : Nat → Prop) (a : Act) (w : World), AWJR N Y c Q m s k g → YC4 C Y A w → Gm C s a w → Y.J k g A w → Code.roundsIn Fence.wide 0 P c (fun e a' w' => ∃ (s' : S) (k' : Nat) (g' : Bool) (C' : Cx P N) (A' : Nat → Prop), Q e s' k' g' ∧ YC4 C' Y A' w' ∧ Gm C' s' a' w' ∧ Y.J k' g' A' w') m a w := by
  intro m
  induction m with
  | zero => intro s k g C A a w h; exact h.elim
  | succ m ih =>
   intro s k g C A a w h yc gm hj
   refine wpIn_mono (h C A a w yc gm hj) ?_
   rintro e a' w' ⟨s', k', g', C', A', q, yc', gm', hj'⟩
   cases e with
   | normal => exact ih s' k' g' C' A' a' w' q yc' gm' hj'
   | _ => exact ⟨s', k', g', C', A', q, yc', gm', hj'⟩
 exact key m s k g C A a w h yc gm hj
section
variable {P : Program} (N : Nat) {es : List (List V)} (Y : YE4 P es) (Q : Exit → S → Nat → Bool → Prop)
def WkJ : List Fr → Exit → S → Nat → Bool → Prop
 | [] => Q
 | .c y :: k => XThenJ (fun s' n g => AWJ4 N Y y (WkJ k) s' n g) (WkJ k)
 | .b id :: k => XBlockJ id (WkJ k)
 | .l y m :: k => XThenJ (AWJR N Y y (WkJ k) m) (WkJ k)
 | .s :: _ => fun _ _ _ _ => False
def HdJ : CC → Nat → Bool → Prop
 | .code c k s, n, g => AWJ4 N Y c (WkJ N Y Q k) s.den n g
 | .done e k s, n, g => WkJ N Y Q k e s.den n g
 | .ops _ _ _ _ _ _, _, _ => False
end
structure JX where
 g : CC
 y : Option (List V)
 side : Option CC
 e : CT
def isYld (tm : Nat → V) (ys : List Nat) : Operand → Bool
 | .tmp t => match inNs ys t with
  | true => true
  | false => match tm t with
   | .c (.func (.yield _) _ _) => true
   | _ => false
 | _ => false
def yIdx (tm : Nat → V) : List Nat → List Oper → Option Nat
 | _, [] => none
 | ys, o :: os => match o.op with
  | .call c => match c.callee with
   | .value fo => match isYld tm ys fo with
    | true => some 0
    | false => match yIdx tm ys os with
     | some n => some (n + 1)
     | none => none
   | _ => match yIdx tm ys os with
    | some n => some (n + 1)
    | none => none
  | .move x => match yIdx tm (match isYld tm ys x with
    | true => o.dst.getD 0 :: ys
    | false => ys) os with
   | some n => some (n + 1)
   | none => none
  | _ => match yIdx tm ys os with
   | some n => some (n + 1)
   | none => none
def yArg (tm : Nat → V) (o : Oper) : Option (V × List V) := match o.op with
 | .call c => match c.callee with
  | .value fo => match V.idfL (c.args.toList.map (fun x => ug (ev tm x))) && ((fo :: c.args.toList).all fun x => ugT (ev tm x)) with
   | true => some (ug (ev tm fo), c.args.toList.map (fun x => ug (ev tm x)))
   | false => none
  | _ => none
 | _ => none
def yGd (gOk : Bool) (ol : List Oper) (tm : Nat → V) (o : Oper) : Bool := match o.guard with
 | none => (opsV tm o).all fun v => match v with
  | .gd _ _ => false
  | _ => true
 | some _ => match gOk with
  | false => false
  | true => match guardV (ol.map (·.dst)) tm o with
   | some (some g) => g
   | _ => false
def jReg (gOk : Bool) (call : Clr) (T : List TI) (M : List Nat) (l : Nat) (ol : List Oper) (k : List Fr) (s : CS) (n : Nat) : Option JX :=
 match ol[n]? with
 | some o => match o.dst with
   | some d => match decide (d < 1000) with
    | true => match rOps call T M ol (ol.take n) s [] with
     | some (s1, _, e1) => match yGd gOk ol s1.tr.get o with
      | true => match yArg s1.tr.get o with
       | some (fv, as0) => match rOps call T M ol (ol.drop (n + 1)) ⟨TR.put 10 s1.tr d (.b true), s1.sl, s1.nx⟩ [] with
        | some (s2, _, e2) => match rOps call T M ol (ol.drop (n + 1)) ⟨TR.put 10 s1.tr d (.b false), s1.sl, s1.nx⟩ [] with
         | some (s3, _, e3) => some ⟨.done .normal k ⟨s2.tr, s2.sl, s2.nx + 1⟩, some as0, some (.done .normal k ⟨s3.tr, s3.sl, s3.nx + 1⟩), .nd (.lf [(.vs [fv], .vs [.c (.func (.yield l) #[] #[])])]) (.nd e1 (.nd e2 e3))⟩
         | none => none
        | none => none
       | none => none
      | false => none
     | none => none
    | false => none
   | none => none
 | none => none
def jstp (gOk : Bool) (call : Clr) (T : List TI) (M mu : List Nat) (N l : Nat) : CC → Option JX
 | .done e k s => match k with
  | [] => none
  | .c y :: k => match e with
   | .normal => some ⟨.code y k s, none, none, c0⟩
   | e => some ⟨.done e k s, none, none, c0⟩
  | .b id :: k => match e with
   | .exit id' => match Nat.beq id' id with
    | true => some ⟨.done .normal k s, none, none, c0⟩
    | false => some ⟨.done (.exit id') k s, none, none, c0⟩
   | e => some ⟨.done e k s, none, none, c0⟩
  | .l y m :: k => match e with
   | .normal => match m with
    | 0 => none
    | m + 1 => some ⟨.code y (.l y m :: k) s, none, none, c0⟩
   | e => some ⟨.done e k s, none, none, c0⟩
  | .s :: _ => none
 | .code c k s => match c with
  | .skip => some ⟨.done .normal k s, none, none, c0⟩
  | .exit id => some ⟨.done (.exit id) k s, none, none, c0⟩
  | .ret => some ⟨.done .ret k s, none, none, c0⟩
  | .seq x y => some ⟨.code x (.c y :: k) s, none, none, c0⟩
  | .block id x => some ⟨.code x (.b id :: k) s, none, none, c0⟩
  | .loop x => some ⟨.code x (.l x 1000000 :: k) s, none, none, c0⟩
  | .cond c x y => match ev s.tr.get c with
   | .c (.bool t) => match t with
    | true => some ⟨.code x k s, none, none, c0⟩
    | false => some ⟨.code y k s, none, none, c0⟩
   | _ => none
  | .region _ ops dr => match okReg N ops.toList with
   | true => match rOps call T M ops.toList ops.toList (frzR mu s ops.toList) [] with
    | some (s', ks, e) => match dr with
     | false => some ⟨.done .normal k ⟨s'.tr, s'.sl, s'.nx + 1⟩, none, none, e⟩
     | true => match okDF ops.toList ks with
      | true => some ⟨.done .normal k ⟨s'.tr, s'.sl, s'.nx + 1⟩, none, none, e⟩
      | false => none
    | none => match yIdx s.tr.get [] ops.toList with
     | some n => match dr with
      | false => jReg gOk call T M l ops.toList k s n
      | true => none
     | none => none
   | false => none
  | _ => none
 | .ops _ _ _ _ _ _ => none
section
variable {P : Program} {N : Nat} {es : List (List V)} {Y : YE4 P es} {Q : Exit → S → Nat → Bool → Prop} {T : List TI} {M mu : List Nat} {call : Clr}
theorem wkj_c {y : Code} {k : List Fr} {e : Exit} {s : S} {n : Nat} {g : Bool} (hne : e ≠ .normal) (h : WkJ N Y Q k e s n g) : WkJ N Y Q (.c y :: k) e s n g := by
 cases e <;> first | exact absurd rfl hne | exact h
theorem wkj_l {y : Code} {m : Nat} {k : List Fr} {e : Exit} {s : S} {n : Nat} {g : Bool} (hne : e ≠ .normal) (h : WkJ N Y Q k e s n g) : WkJ N Y Q (.l y m :: k) e s n g := by
 cases e <;> first | exact absurd rfl hne | exact h
theorem wkj_b {id : Nat} {k : List Fr} {e : Exit} {s : S} {n : Nat} {g : Bool} (hne : ∀ i, e ≠ .exit i) (h : WkJ N Y Q k e s n g) : WkJ N Y Q (.b id :: k) e s n g := by
 cases e <;> first | exact absurd rfl (hne _) | exact h
theorem awj4_roundsS {c : Code} {s : S} {k : Nat} {g : Bool} (u : Nat) (h : AWJ4 N Y c (XThenJ (AWJR N Y c Q u) Q) s k g) : AWJ4 N Y (.loop c) Q s k g := awj4_rounds (u + 1) h
def JStep (N : Nat) {P : Program} {es : List (List V)} (Y : YE4 P es) (Q : Exit → S → Nat → Bool → Prop) (g : CC) (x : JX) : Prop :=
 (x.y = none → ∀ n b, HdJ N Y Q x.g n b → HdJ N Y Q g n b) ∧
 ∀ as0, x.y = some as0 → ∃ sd, x.side = some sd ∧ ∀ n, es[n]? = some as0 → HdJ N Y Q x.g (n + 1) true → HdJ N Y Q sd n false → HdJ N Y Q g n true
theorem jst_n {g g' : CC} {e : CT} (h : ∀ n b, HdJ N Y Q g' n b → HdJ N Y Q g n b) : JStep N Y Q g ⟨g', none, none, e⟩ := ⟨fun _ => h, fun as0 h => by cases h⟩
theorem A2_refl : ∀ l : List V, A2 l l
 | [] => trivial
 | _ :: l => ⟨RImp.refl _, A2_refl l⟩
theorem ug_noGd {tm : Nat → V} {o : Oper} (h : ((opsV tm o).all fun v => match v with
  | .gd _ _ => false
  | _ => true) = true) {x : Operand} (hx : x ∈ o.op.operands) : ug (ev tm x) = ev tm x := by
 have := List.all_eq_true.1 h _ (opsV_mem (tm := tm) hx)
 cases hv : ev tm x <;> rw [hv] at this <;> first | rfl | cases this
theorem jReg_ok (hT : TabOk T P) (hcl : ClrOk P call) (hfl : ∀ v ∈ es, V.flatL v = true) {id n : Nat} {ops : Array Oper} {k : List Fr} {s : CS} {x : JX} (hok : okReg N ops.toList = true) (h : jReg false call T M Y.l ops.toList k s n = some x) (he : EqT x.e) : JStep N Y Q (.code (.region id ops false) k s) x := by
 have eo : ops = ops.toList.toArray := by simp
 unfold jReg at h
 split at h
 ·
  rename_i o ho
  split at h
  ·
   rename_i d hd
   split at h
   ·
    rename_i hlt
    have hlt := of_decide_eq_true hlt
    split at h
    ·
     rename_i s1 ks1 e1 h1
     split at h
     ·
      rename_i hgd
      split at h
      ·
       rename_i fv as0 hy
       split at h
       ·
        rename_i s2 ks2 e2 h2
        split at h
        ·
         rename_i s3 ks3 e3 h3
         injection h with h; subst h
         obtain ⟨he0, he1, he2, he3⟩ := he
         refine ⟨fun h => (by cases h), fun as1 has => ?_⟩
         injection has with has; subst has
         refine ⟨_, rfl, fun m hm hk1 hk2 => ?_⟩
         obtain ⟨d', op, ty, pos, af, gd⟩ := o
         simp only at hd
         subst hd
         unfold yGd at hgd
         simp only at hgd
         split at hgd
         ·
          unfold yArg at hy
          simp only at hy
          split at hy
          ·
           rename_i c
           obtain ⟨callee, args, ats⟩ := c
           simp only at hy
           split at hy
           ·
            rename_i fo
            split at hy
            ·
             rename_i hfl0
             simp only [Option.some.injEq, Prod.mk.injEq] at hy
             obtain ⟨rfl, rfl⟩ := hy
             have ea : (args.toList.map fun x => ug (ev s1.tr.get x)) = args.toList.map (ev s1.tr.get) := List.map_congr_left fun x hx => ug_noGd hgd (by simp only [Op.operands, Call.operands]; simp at hx ⊢; exact .inr hx)
             have ef : ug (ev s1.tr.get fo) = ev s1.tr.get fo := ug_noGd hgd (by simp [Op.operands, Call.operands])
             have hf := EqE.hd he0
             injection hf with hf
             simp only [List.cons.injEq, and_true] at hf
             rw [ef] at hf
             rw [ea] at hm
             have hflv := hfl _ (List.mem_of_getElem? hm)
             show AWJ4 N Y (.region id ops false) (WkJ N Y Q k) s.den m true
             rw [eo]
             refine awj4_yield n (by simpa using hok) ho fun C hF hdf => ?_
             obtain ⟨q1, q2⟩ := rOps_ok hT hcl (C := C) (K := fun tm1 σ1 _ => YS4 N Y ops.toList.toArray s.nx (ops.toList.drop (n + 1)) fo args d (WkJ N Y Q k) m tm1 σ1) h1 he1
             refine q2 ⟨hf, ⟨_, hm, A2_refl _⟩, ⟨hflv, fun v hv => by rw [hm] at hv; injection hv with hv; subst hv; exact hflv⟩, fun C2 hF2 hd2 => ?_, fun C2 hF2 hd2 => ?_⟩
             ·
              obtain ⟨r1, r2⟩ := rOps_ok hT hcl (C := C2) (K := fun tm' σ' _ => WkJ N Y Q k .normal ⟨tm', σ', s.nx + 1⟩ (m + 1) true) h2 he2
              simp only at r1 r2
              rw [TR.put_upd hlt, q1] at r2
              exact r2 (by have := hk1; unfold HdJ CS.den at this; simp only at this; rw [r1, q1] at this; exact this)
             ·
              obtain ⟨r1, r2⟩ := rOps_ok hT hcl (C := C2) (K := fun tm' σ' _ => WkJ N Y Q k .normal ⟨tm', σ', s.nx + 1⟩ m false) h3 he3
              simp only at r1 r2
              rw [TR.put_upd hlt, q1] at r2
              exact r2 (by have := hk2; unfold HdJ CS.den at this; simp only at this; rw [r1, q1] at this; exact this)
            ·
             cases hy
           ·
            cases hy
          ·
           cases hy
         ·
          cases hgd
        ·
         cases h
       ·
        cases h
      ·
       cases h
     ·
      cases h
    ·
     cases h
   ·
    cases h
  ·
   cases h
 ·
  cases h
theorem jstp_ok (hT : TabOk T P) (hcl : ClrOk P call) (hfl : ∀ v ∈ es, V.flatL v = true) {g : CC} {x : JX} (h : jstp false call T M mu N Y.l g = some x) (he : EqT x.e) : JStep N Y Q g x := by
 unfold jstp at h
 split at h
 ·
  rename_i e k s
  split at h
  ·
   cases h
  ·
   split at h
   ·
    injection h with h; subst h
    exact jst_n fun n b hk => hk
   ·
    rename_i hne
    injection h with h; subst h
    exact jst_n fun n b hk => wkj_c hne hk
  ·
   split at h
   ·
    split at h
    ·
     rename_i hb
     injection h with h; subst h
     have hb := Nat.eq_of_beq_eq_true hb
     subst hb
     exact jst_n fun n b hk => xjb_same hk
    ·
     rename_i hb
     injection h with h; subst h
     exact jst_n fun n b hk => xjb_ne (by simpa using Nat.ne_of_beq_eq_false hb) hk
   ·
    rename_i hne
    injection h with h; subst h
    exact jst_n fun n b hk => wkj_b hne hk
  ·
   split at h
   ·
    split at h
    ·
     cases h
    ·
     injection h with h; subst h
     exact jst_n fun n b hk => hk
   ·
    rename_i hne
    injection h with h; subst h
    exact jst_n fun n b hk => wkj_l hne hk
  ·
   cases h
 ·
  rename_i c k s
  split at h
  ·
   injection h with h; subst h; exact jst_n fun n b hk => awj4_skip hk
  ·
   injection h with h; subst h; exact jst_n fun n b hk => awj4_exit hk
  ·
   injection h with h; subst h; exact jst_n fun n b hk => awj4_ret hk
  ·
   injection h with h; subst h; exact jst_n fun n b hk => awj4_seq hk
  ·
   injection h with h; subst h; exact jst_n fun n b hk => awj4_block hk
  ·
   injection h with h; subst h; exact jst_n fun n b hk => awj4_roundsS 1000000 hk
  ·
   split at h
   ·
    rename_i t ht
    split at h
    ·
     injection h with h; subst h
     exact jst_n fun n b hk => awj4_cond ht (fun _ => hk) fun h => by cases h
    ·
     injection h with h; subst h
     exact jst_n fun n b hk => awj4_cond ht (fun h => by cases h) fun _ => hk
   ·
    cases h
  ·
   rename_i id ops dr
   split at h
   ·
    rename_i hok
    split at h
    ·
     rename_i s' ks e hr
     have e0 : ops = ops.toList.toArray := by simp
     split at h
     ·
      injection h with h; subst h
      refine jst_n fun n b hk => awj4_aw fun C hF hd => ?_
      refine aw_le (frzR_le mu s ops.toList) ?_
      rw [e0]
      obtain ⟨q1, q2⟩ := rOps_ok hT hcl (C := C) (K := fun tm' σ' _ => WkJ N Y Q k .normal ⟨tm', σ', (frzR mu s ops.toList).nx + 1⟩ n b) (by simpa using hr) he
      refine aw_region (s := (frzR mu s ops.toList).den) (by simpa using hok) (q2 ?_)
      have := hk
      unfold HdJ CS.den at this
      simp only at this
      rw [q1] at this
      exact this
     ·
      split at h
      ·
       rename_i hdr
       injection h with h; subst h
       refine jst_n fun n b hk => awj4_aw fun C hF hd => ?_
       refine aw_le (frzR_le mu s ops.toList) ?_
       rw [e0]
       obtain ⟨q1, q2⟩ := rOps_ok hT hcl (C := C) (K := fun tm' σ' ks' => okDraw ops.toList ks' = true ∧ WkJ N Y Q k .normal ⟨tm', σ', (frzR mu s ops.toList).nx + 1⟩ n b) (by simpa using hr) he
       refine aw_regionD (s := (frzR mu s ops.toList).den) (by simpa using hok) (q2 ⟨okDF_ok hdr, ?_⟩)
       have := hk
       unfold HdJ CS.den at this
       simp only at this
       rw [q1] at this
       exact this
      ·
       cases h
    ·
     split at h
     ·
      split at h
      ·
       exact jReg_ok hT hcl hfl hok h he
      ·
       cases h
     ·
      cases h
   ·
    cases h
  ·
   cases h
 ·
  cases h
end
def jNo (gOk : Bool) (call : Clr) (T : List TI) (M mu : List Nat) (N l : Nat) : Nat → CC → Option CT
 | 0, _ => none
 | m + 1, g => match jstp gOk call T M mu N l g with
  | some x => match x.y with
   | none => match jNo gOk call T M mu N l m x.g with
    | some e => some (.nd x.e e)
    | none => none
   | some _ => none
  | none => match g with
   | .done e [] _ => match e with
    | .ret => some c0
    | .normal => some c0
    | _ => none
   | _ => none
def jRun (gOk : Bool) (call : Clr) (T : List TI) (M mu : List Nat) (N l : Nat) : Nat → CC → Option (List (List V) × CT)
 | 0, _ => none
 | m + 1, g => match jstp gOk call T M mu N l g with
  | some x => match x.y with
   | none => match jRun gOk call T M mu N l m x.g with
    | some (as0, e) => some (as0, .nd x.e e)
    | none => none
   | some a => match x.side with
    | some sd => match jNo gOk call T M mu N l 5000 sd with
     | some e0 => match jRun gOk call T M mu N l m x.g with
      | some (as0, e) => some (a :: as0, .nd x.e (.nd e0 e))
      | none => none
     | none => none
    | none => none
  | none => match g with
   | .done e [] _ => match e with
    | .ret => some ([], c0)
    | .normal => some ([], c0)
    | _ => none
   | _ => none
theorem jNo_ok {P : Program} {N : Nat} {es : List (List V)} {Y : YE4 P es} {T : List TI} {M mu : List Nat} {call : Clr} (hT : TabOk T P) (hcl : ClrOk P call) (hfl : ∀ v ∈ es, V.flatL v = true) {n : Nat} (hn : n < es.length) : ∀ {m : Nat} {g : CC} {e : CT}, jNo false call T M mu N Y.l m g = some e → EqT e → HdJ N Y (EndIt es.length) g n false
 | 0, _, _, h, _ => by cases h
 | m + 1, g, e, h, he => by
  unfold jNo at h
  split at h
  ·
   rename_i x hx
   split at h
   ·
    rename_i hy
    split at h
    ·
     rename_i e1 h1
     injection h with h; subst h
     exact (jstp_ok (Q := EndIt es.length) hT hcl hfl hx he.1).1 hy n false (jNo_ok hT hcl hfl hn h1 he.2)
    ·
     cases h
   ·
    cases h
  ·
   split at h
   ·
    rename_i e0 s
    split at h
    ·
     exact ⟨.inr rfl, (fun h => nomatch h), fun _ => hn⟩
    ·
     exact ⟨.inl rfl, (fun h => nomatch h), fun _ => hn⟩
    ·
     cases h
   ·
    cases h
theorem jRun_ok {P : Program} {N : Nat} {es : List (List V)} {Y : YE4 P es} {T : List TI} {M mu : List Nat} {call : Clr} (hT : TabOk T P) (hcl : ClrOk P call) (hfl : ∀ v ∈ es, V.flatL v = true) : ∀ {m : Nat} {g : CC} {as0 : List (List V)} {e : CT} {n : Nat}, jRun false call T M mu N Y.l m g = some (as0, e) → EqT e → es.drop n = as0 → n ≤ es.length → HdJ N Y (EndIt es.length) g n true
 | 0, _, _, _, _, h, _, _, _ => by cases h
 | m + 1, g, as0, e, n, h, he, hd, hn => by
  unfold jRun at h
  split at h
  ·
   rename_i x hx
   split at h
   ·
    rename_i hy
    split at h
    ·
     rename_i as1 e1 h1
     simp only [Option.some.injEq, Prod.mk.injEq] at h
     obtain ⟨rfl, rfl⟩ := h
     exact (jstp_ok (Q := EndIt es.length) hT hcl hfl hx he.1).1 hy n true (jRun_ok hT hcl hfl h1 he.2 hd hn)
    ·
     cases h
   ·
    rename_i a hy
    split at h
    ·
     rename_i sd hsd
     split at h
     ·
      rename_i e0 h0
      split at h
      ·
       rename_i as1 e1 h1
       simp only [Option.some.injEq, Prod.mk.injEq] at h
       obtain ⟨rfl, rfl⟩ := h
       have hlt : n < es.length := by
        have := congrArg List.length hd
        simp only [List.length_drop, List.length_cons] at this
        omega
       have hget : es[n]? = some a := by
        have := congrArg (·[0]?) hd
        simpa using this
       have hdr : es.drop (n + 1) = as1 := by
        have h2 := congrArg List.tail hd
        simpa using h2
       obtain ⟨sd', hs', hall⟩ := (jstp_ok (Q := EndIt es.length) hT hcl hfl hx he.1).2 a hy
       rw [hsd] at hs'
       injection hs' with hs'
       subst hs'
       exact hall n hget (jRun_ok hT hcl hfl h1 he.2.2 hdr oM) (jNo_ok hT hcl hfl hlt h0 he.2.1)
      ·
       cases h
     ·
      cases h
    ·
     cases h
  ·
   split at h
   ·
    rename_i e0 s
    have fin : as0 = [] → n = es.length := fun h0 => by
     rw [h0] at hd
     have := congrArg List.length hd
     simp only [List.length_drop, List.length_nil] at this
     omega
    split at h
    ·
     simp only [Option.some.injEq, Prod.mk.injEq] at h
     exact ⟨.inr rfl, fun _ => fin h.1.symm, (fun h => nomatch h)⟩
    ·
     simp only [Option.some.injEq, Prod.mk.injEq] at h
     exact ⟨.inl rfl, fun _ => fin h.1.symm, (fun h => nomatch h)⟩
    ·
     cases h
   ·
    cases h
def CT.toL : CT → List (CE × CE)
 | .lf l => l
 | .nd a b => a.toL ++ b.toL
theorem CT.toL_eq : ∀ {t : CT}, EqE t.toL → EqT t
 | .lf _, h => h
 | .nd _ _, h => ⟨CT.toL_eq h.l, CT.toL_eq h.r⟩
def jVal (r : Option (List (List V) × CT)) : Option (List (List V)) := match r with
 | some (as0, _) => some as0
 | none => none
def jTr (r : Option (List (List V) × CT)) : CT := match r with
 | some (_, e) => e
 | none => c0
abbrev Itr : Type := FuncId → List V → Option (List (List V) × CT)
def ItrOk (P : Program) (itr : Itr) : Prop := ∀ f caps es e, itr f caps = some (es, e) → EqT e → AIt4 P f caps es
theorem ait_of {P : Program} {N : Nat} {T : List TI} {M mu : List Nat} {call : Clr} {f : FuncId} {fn : Func} {c : Code} {caps : List V} {es : List (List V)} (hT : TabOk T P) (hmx : P.follows .mixedOrders = true) (hcl : ClrOk P call) (hk : FnOk P f fn c N) (hres : fn.results = #[]) (hargs : caps.length + 1 ≤ N) (hargs2 : caps.length + 1 ≤ 1000)
  (s0 : Nat → CS) (h0 : ∀ l, (s0 l).den = ⟨fun t => ((V.c (.func (.yield l) #[] #[])) :: caps).getD t .any, fun _ => none, 1⟩)
  (hfl : ∀ v ∈ es, V.flatL v = true) (hv : ∀ l, jVal (jRun false call T M mu N l 20000 (.code c [] (s0 l))) = some es) (he : ∀ l, EqT (jTr (jRun false call T M mu N l 20000 (.code c [] (s0 l))))) : AIt4 P f caps es := by
 refine ait4_intro hT hmx hk hres hargs fun Y => ?_
 have h1 := hv Y.l
 have h2 := he Y.l
 unfold jVal at h1
 unfold jTr at h2
 split at h1
 ·
  rename_i as0 e hr
  rw [hr] at h2
  injection h1 with h1
  subst h1
  have := jRun_ok (Y := Y) (n := 0) hT hcl hfl hr h2 rfl (Nat.zero_le _)
  unfold HdJ at this
  simp only at this
  rw [h0] at this
  exact this
 ·
  cases h1
def TR.keys (f : Nat → Nat) : TR → List Nat
 | .e => []
 | .n _ l r => f 0 :: (TR.keys (fun i => f (2 * i + 1)) l ++ TR.keys (fun i => f (2 * i + 2)) r)
def tmL (tr : TR) : List Nat → List (Nat × V)
 | [] => []
 | t :: l => (t, tr.get t) :: tmL tr l
theorem tmL_mem {tr : TR} : ∀ {l : List Nat}, ∀ p ∈ tmL tr l, tr.get p.1 = p.2
 | [], p, h => by simp [tmL] at h
 | t :: l, p, h => by
  rcases List.mem_cons.1 h with rfl | h
  ·
   rfl
  ·
   exact tmL_mem (l := l) p h
def trL : List (Nat × V) → TR
 | [] => .e
 | p :: l => TR.put 10 (trL l) p.1 p.2
theorem trL_get : ∀ {l : List (Nat × V)}, (∀ p ∈ l, p.1 < 1000) → (trL l).get = mkT l
 | [], _ => by funext t; exact TR.get_e t
 | p :: l, h => by
  rw [trL, TR.put_upd (h p (by simp)), trL_get fun q hq => h q (by simp [hq])]
  rfl
def setTR (tr : TR) : List Nat → List V → TR
 | p :: ps, v :: vs => setTR (TR.put 10 tr p v) ps vs
 | _, _ => tr
theorem setTR_get : ∀ (ps : List Nat) (vs : List V) (tr : TR), (∀ p ∈ ps, p < 1000) → (setTR tr ps vs).get = setT tr.get ps vs
 | [], vs, tr, _ => by cases vs <;> rfl
 | p :: ps, [], tr, _ => rfl
 | p :: ps, v :: vs, tr, h => by
  rw [setTR, setT, setTR_get ps vs _ fun q hq => h q (by simp [hq]), TR.put_upd (h p (by simp))]
def zipS : List Nat → List Ob → List (Nat × Option Ob)
 | n :: ns, o :: l => (n, some o) :: zipS ns l
 | _, _ => []
theorem zipS_get : ∀ (ns : List Nat) (l : List Ob), lkS (zipS ns l) = mkS (ns.zip l)
 | [], l => by cases l <;> (funext i; rfl)
 | n :: ns, [] => by funext i; rfl
 | n :: ns, o :: l => by
  funext i
  show lkS ((n, some o) :: zipS ns l) i = upd (mkS (ns.zip l)) n (some o) i
  rw [← zipS_get ns l]
  simp only [lkS]
  split
  ·
   rename_i h; rw [Nat.eq_of_beq_eq_true h, upd_same]
  ·
   rename_i h; rw [upd_ne _ _ (Nat.ne_of_beq_eq_false h)]
def notIn (pn : List Nat) : List Nat → List Nat
 | [] => []
 | k :: l => match inNs pn k with
  | true => notIn pn l
  | false => k :: notIn pn l
def pinL (np : Nat) : List Nat := (List.range np).map (500 + ·)
inductive RO where
 | nor (l : List Ob) (e : CT)
 | ext (c : Exit) (l : List Ob) (e : CT)
 | bad
@[irreducible] def xn90 : List Nat := List.range 90
def rEnd2 (pn : List Nat) (s : CS) (nl : List Nat) : Option (List Ob × CT) :=
 match insL (lkS s.sl) (invN nl) (pn ++ nl) with
 | some l => match decide ((((pn ++ xn90).zip (l.map Prod.snd)).map fun p => lookG (numL 0 nl) s.nx p.1).Nodup) && (Nat.ble nl.length 90 && (numL 0 nl).all fun p => decide (p.1 < 500)) with
  | true => some (l.map Prod.snd, .lf (cBackE (lookG (numL 0 nl) s.nx) l))
  | false => none
 | none => none
def rEnd (pn : List Nat) (s : CS) : Option (List Ob × CT) := rEnd2 pn s (notIn pn (reachN (lkS s.sl) 1000 pn []))
def rdEx (l : List Ob) (t : CT) : Exit → RO
 | .normal => .nor l t
 | .ret => .ext .ret l t
 | .exit id => .ext (.exit id) l t
 | _ => .bad
def roundR (call : Clr) (T : List TI) (M mu : List Nat) (N : Nat) (pn : List Nat) (tl : List (Nat × V)) (ps : List Nat) (as0 bd : Code) (x : List V) (l : List Ob) : RO :=
 match evalC call rng0 T M mu N as0 ⟨setTR (trL tl) ps x, zipS (pn ++ xn90) l, 1⟩ with
 | some (.normal, s1, t1) => match evalC call rng0 T M mu N bd s1 with
  | some (e, s2, t2) => match rEnd pn s2 with
   | some (l', t3) => rdEx l' (cNd t1 (cNd t2 t3)) e
   | none => .bad
  | none => .bad
 | _ => .bad
def exCode : Exit → Code
 | .exit id => .exit id
 | _ => .ret
theorem zip_mem {α β : Type} : ∀ {l : List α} {m : List β} {p : α × β}, p ∈ l.zip m → ∃ i : Nat, l[i]? = some p.1 ∧ m[i]? = some p.2
 | [], _, p, h => by simp at h
 | _ :: _, [], p, h => by simp at h
 | a :: l, b :: m, p, h => by
  rw [List.zip_cons_cons] at h
  rcases List.mem_cons.1 h with rfl | h
  ·
   exact ⟨0, rfl, rfl⟩
  ·
   obtain ⟨i, h1, h2⟩ := zip_mem h
   exact ⟨i + 1, by simpa using h1, by simpa using h2⟩
theorem numL_lt : ∀ {nl : List Nat} {j m : Nat}, m < j → (numL j nl).find? (·.1 == m) = none
 | [], _, _, _ => rfl
 | a :: nl, j, m, h => by
  rw [numL, List.find?_cons]
  have e : ((j, a).1 == m) = false := by simp only [beq_eq_false_iff_ne]; omega
  rw [e]
  exact numL_lt oM
theorem rEnd_ok {pn : List Nat} {s : CS} {l' : List Ob} {e : CT} (hpn : ∀ p ∈ pn, 500 ≤ p ∧ p < 1000) (h : rEnd pn s = some (l', e)) (he : EqT e) : Le s.den ⟨fun _ => .any, mkS ((pn ++ xn90).zip l'), 1⟩ := by
 unfold rEnd at h
 generalize notIn _ _ = nl at h
 unfold rEnd2 at h
 split at h
 ·
  rename_i l hl
  split at h
  ·
   rename_i hb
   simp only [Option.some.injEq, Prod.mk.injEq] at h
   obtain ⟨rfl, rfl⟩ := h
   simp only [Bool.and_eq_true] at hb
   obtain ⟨hb1, hb2, hb3⟩ := hb
   have hb2 := Nat.le_of_ble_eq_true hb2
   obtain ⟨hlen, hget⟩ := insL_get hl
   have hE : EqE _ := he
   show Le ⟨s.tr.get, lkS s.sl, s.nx⟩ ⟨mkT [], mkS ((pn ++ xn90).zip (l.map Prod.snd)), 1⟩
   refine le_ren (tm := s.tr.get) (σ := lkS s.sl) (nx := s.nx) (numL 0 nl) (tl := []) .nil (all_mem fun p hp => ?_) hb1 hb3
   obtain ⟨i, h1, h2⟩ := zip_mem hp
   simp only [List.getElem?_map, Option.map_eq_some_iff] at h2
   obtain ⟨q, hq, hq2⟩ := h2
   obtain ⟨k, hk, hσ, hno⟩ := hget i q hq
   have hg : lookG (numL 0 nl) s.nx p.1 = k := by
    unfold lookG
    by_cases hi : i < pn.length
    ·
     rw [List.getElem?_append_left hi] at h1 hk
     rw [hk] at h1
     injection h1 with h1
     have := hpn k (List.mem_of_getElem? hk)
     rw [← h1, numL_none oM]
     exact if_pos this
    ·
     rw [List.getElem?_append_right (Nat.le_of_not_lt hi)] at h1 hk
     have hlt := (List.getElem?_eq_some_iff.1 hk).1
     have : p.1 = 0 + (i - pn.length) := by
      unfold xn90 at h1
      rw [List.getElem?_range oM] at h1
      injection h1 with h1
      omega
     rw [this, numL_find hk]
   refine ⟨q.1, by rw [hg]; exact hσ, ?_⟩
   rw [← hq2]
   exact nOb_eq hno (cBackE_get hE hq)
  ·
   cases h
 ·
  cases h
theorem roundS_den {pn : List Nat} {tl : List (Nat × V)} {ps : List Nat} {x : List V} {l : List Ob} (htl : ∀ p ∈ tl, p.1 < 1000) (hps : ∀ p ∈ ps, p < 1000) : (CS.mk (setTR (trL tl) ps x) (zipS (pn ++ xn90) l) 1).den = ⟨setT (mkT tl) ps x, mkS ((pn ++ xn90).zip l), 1⟩ := by
 unfold CS.den
 rw [setTR_get _ _ _ hps, trL_get htl, zipS_get]
section
variable {P : Program} {N : Nat} {T : List TI} {M mu : List Nat} {call : Clr} {pn : List Nat} {tl : List (Nat × V)} {ps : List Nat} {as0 bd : Code}
def ROk (pn : List Nat) (ok : Nat → Prop) (sl : Nat → List Ob) (X : Nat → Code → List Ob → Prop) (k : Nat) : RO → Prop
 | .nor l' e => EqT e ∧ ok (k + 1) ∧ sl (k + 1) = l'
 | .ext c l' e => EqT e ∧ X k (exCode c) l'
 | .bad => False
theorem roundR_ok (hT : TabOk T P) (hcl : ClrOk P call) (hpn : ∀ p ∈ pn, 500 ≤ p ∧ p < 1000) (htl : ∀ p ∈ tl, p.1 < 1000) (hps : ∀ p ∈ ps, p < 1000) {ok : Nat → Prop} {sl : Nat → List Ob} {X : Nat → Code → List Ob → Prop} {k : Nat} {x : List V} {l : List Ob}
  (h : ROk pn ok sl X k (roundR call T M mu N pn tl ps as0 bd x l)) (C' : Cx P N) : AW C' as0 (XThen (fun s' => AW C' bd (RPost (pn ++ xn90) ok sl X k) s') (fun _ _ => False)) ⟨setT (mkT tl) ps x, mkS ((pn ++ xn90).zip l), 1⟩ := by
 rw [← roundS_den htl hps]
 unfold roundR at h
 split at h
 ·
  rename_i s1 t1 h1
  split at h
  ·
   rename_i e s2 t2 h2
   split at h
   ·
    rename_i l' t3 h3
    have key : EqT (cNd t1 (cNd t2 t3)) → (Le s2.den ⟨fun _ => .any, mkS ((pn ++ xn90).zip l'), 1⟩ → RPost (pn ++ xn90) ok sl X k e s2.den) →
      AW C' as0 (XThen (fun s' => AW C' bd (RPost (pn ++ xn90) ok sl X k) s') (fun _ _ => False)) (CS.mk (setTR (trL tl) ps x) (zipS (pn ++ xn90) l) 1).den := by
     intro hE hR
     have hE := cNd_eq hE
     have hE2 := cNd_eq hE.2
     have a2 := evalC_ok (C := C') (mu := mu) hT hcl rng0_ok bd _ _ _ _ h2 hE2.1 (RPost (pn ++ xn90) ok sl X k) (hR (rEnd_ok hpn h3 hE2.2))
     exact evalC_ok (C := C') (mu := mu) hT hcl rng0_ok as0 _ _ _ _ h1 hE.1 (XThen (fun s' => AW C' bd (RPost (pn ++ xn90) ok sl X k) s') (fun _ _ => False)) a2
    unfold rdEx at h
    split at h
    ·
     obtain ⟨q1, q2, q3⟩ := h
     exact key q1 fun hle => ⟨q2, by rw [q3]; exact hle⟩
    ·
     obtain ⟨q1, q2⟩ := h
     exact key q1 fun hle => ⟨_, q2, hle⟩
    ·
     obtain ⟨q1, q2⟩ := h
     exact key q1 fun hle => ⟨_, q2, hle⟩
    ·
     exact h.elim
   ·
    exact h.elim
  ·
   exact h.elim
 ·
  exact h.elim
end
def wlk (rd : List V → List Ob → RO) : List (List V) → List Ob → Option (Exit × List Ob × CT)
 | [], l => some (.normal, l, c0)
 | x :: es, l => match rd x l with
  | .nor l' e => match wlk rd es l' with
   | some (c, lf, e') => some (c, lf, .nd e e')
   | none => none
  | .ext c lf e => match c with
   | .ret => some (.ret, lf, e)
   | .exit id => some (.exit id, lf, e)
   | _ => none
  | .bad => none
def cStA (rd : List V → List Ob → RO) (es : List (List V)) (l0 : List Ob) : Nat → Option (List Ob)
 | 0 => some l0
 | k + 1 => match cStA rd es l0 k, es[k]? with
  | some l, some x => match rd x l with
   | .nor l' _ => some l'
   | _ => none
  | _, _ => none
theorem wlk_at {rd : List V → List Ob → RO} {es : List (List V)} {l0 : List Ob} {c : Exit} {lf : List Ob} {e : CT} (h : wlk rd es l0 = some (c, lf, e)) (he : EqT e) : ∀ k l, cStA rd es l0 k = some l → k ≤ es.length ∧ ∃ t, wlk rd (es.drop k) l = some (c, lf, t) ∧ EqT t
 | 0, l, hl => by
  simp only [cStA, Option.some.injEq] at hl
  subst hl
  exact ⟨Nat.zero_le _, e, h, he⟩
 | k + 1, l, hl => by
  simp only [cStA] at hl
  split at hl
  ·
   rename_i l1 x h1 hx
   obtain ⟨hk, t, h2, ht⟩ := wlk_at h he k l1 h1
   have hlt := (List.getElem?_eq_some_iff.1 hx).1
   have hdr : es.drop k = x :: es.drop (k + 1) := by
    rw [List.drop_eq_getElem_cons hlt]
    congr 1
    exact (List.getElem?_eq_some_iff.1 hx).2
   rw [hdr] at h2
   unfold wlk at h2
   split at hl
   ·
    rename_i l' e' hr
    injection hl with hl
    subst hl
    rw [hr] at h2
    simp only at h2
    split at h2
    ·
     rename_i c1 lf1 e1 hw
     simp only [Option.some.injEq, Prod.mk.injEq] at h2
     obtain ⟨rfl, rfl, rfl⟩ := h2
     exact ⟨hlt, _, hw, ht.2⟩
    ·
     cases h2
   ·
    cases hl
  ·
   cases hl
def pnL (np n : Nat) : List Nat := pinL np ++ (List.range n).map (500 + np + ·)
def invR (np : Nat) (nl : List Nat) (i : Nat) : Nat := match inNs nl i with
 | true => 500 + np + idxN nl i
 | false => i
def rng2 (call : Clr) (T : List TI) (M mu : List Nat) (N np : Nat) (ps : List Nat) (as0 bd : Code) (s : CS) (nl : List Nat) (ks : List Nat) (es : List (List V)) (obs : List (Ob × Ob)) : Option (Exit × CS × CT) :=
 match (es.all fun x => Nat.beq x.length ps.length) && (ps.all (fun p => decide (p < N)) && (ps.all (fun p => decide (p < 1000)) && (ks.all (fun p => decide (p < 1000)) && (decide (500 + np + nl.length ≤ 1000) && ((renP (invR np nl) (tmL s.tr ks)).all (fun p => p.2.nmP (pnL np nl.length)) && decide ((((pnL np nl.length ++ xn90).zip (obs.map Prod.snd)).map fun p => lookG (numL (500 + np) nl) s.nx p.1).Nodup)))))) with
 | true => match wlk (roundR call T M mu N (pnL np nl.length) (renP (invR np nl) (tmL s.tr ks)) ps as0 bd) es (obs.map Prod.snd) with
  | some (c, lf, e) => some (c, ⟨trL (renP (invR np nl) (tmL s.tr ks)), zipS (pnL np nl.length ++ xn90) lf, 1⟩, .nd (.lf ((.vs (vals (tmL s.tr ks)), .vs (V.renL (lookG (numL (500 + np) nl) s.nx) (vals (renP (invR np nl) (tmL s.tr ks))))) :: cBackE (lookG (numL (500 + np) nl) s.nx) obs)) e)
  | none => none
 | false => none
def rng1 (call : Clr) (itr : Itr) (T : List TI) (M mu : List Nat) (N np : Nat) (g : Operand) (ps : List Nat) (as0 bd : Code) (s : CS) (ks nl : List Nat) : Option (Exit × CS × CT) :=
 match ev s.tr.get g with
 | .fn (.func gf) [] caps => match V.idfL caps with
  | true => match itr gf caps with
   | some (es, e0) => match insL (lkS s.sl) (invR np nl) (pinL np ++ nl) with
    | some obs => match rng2 call T M mu N np ps as0 bd s nl ks es obs with
     | some (c, s', e) => some (c, s', .nd e0 e)
     | none => none
    | none => none
   | none => none
  | false => none
 | _ => none
def rngS (s : CS) (g : Operand) : CS := frzL s (reachN (lkS s.sl) 1000 (ev s.tr.get g).ids [])
def rngE (call : Clr) (itr : Itr) (T : List TI) (M mu : List Nat) (N np : Nat) : Rng := fun g ps as0 bd s =>
 rng1 call itr T M mu N np g ps.toList as0 bd (rngS s g) (TR.keys id (rngS s g).tr) (notIn (pinL np) (reachN (lkS (rngS s g).sl) 1000 (idsP (tmL (rngS s g).tr (TR.keys id (rngS s g).tr)) ++ pinL np) []))
theorem renP_key {g : Nat → Nat} : ∀ {l : List (Nat × V)} {p : Nat × V}, p ∈ renP g l → ∃ q ∈ l, q.1 = p.1
 | [], p, h => by simp [renP] at h
 | q :: l, p, h => by
  rcases List.mem_cons.1 h with rfl | h
  ·
   exact ⟨q, by simp, rfl⟩
  ·
   obtain ⟨q', h1, h2⟩ := renP_key (l := l) h
   exact ⟨q', by simp [h1], h2⟩
theorem tmL_key {tr : TR} : ∀ {l : List Nat} {p : Nat × V}, p ∈ tmL tr l → p.1 ∈ l
 | [], p, h => by simp [tmL] at h
 | t :: l, p, h => by
  rcases List.mem_cons.1 h with rfl | h
  ·
   simp
  ·
   exact List.mem_cons_of_mem _ (tmL_key h)
theorem numL_mem : ∀ {nl : List Nat} {j : Nat} {p : Nat × Nat}, p ∈ numL j nl → j ≤ p.1 ∧ p.1 < j + nl.length
 | [], _, _, h => by simp [numL] at h
 | a :: nl, j, p, h => by
  rcases List.mem_cons.1 h with rfl | h
  ·
   simp
  ·
   have := numL_mem h
   simp only [List.length_cons]; omega
theorem rng_core {P : Program} {N : Nat} {C : Cx P N} {Q : Exit → S → Prop} {tm : Nat → V} {σ : Nat → Option Ob} {nx : Nat} {g : Operand} {ps : Array Tmp} {as0 bd : Code} {gf : FuncId} {caps : List V} {es : List (List V)} (hF : C.F = Fence.wide) (pn : List Nat) (gl : List (Nat × Nat))
  (hd : ∀ id x, C.dfs.pin id = some x → id ∈ pn ∧ ∀ p ∈ gl, p.1 ≠ id) (it : AIt4 P gf caps es) (hg : ev tm g = .fn (.func gf) [] caps) (hidf : V.idfL caps = true) (hlen : ∀ x ∈ es, x.length = ps.size) (hps : ps.toList.all (fun p => decide (p < N)) = true) (tl : List (Nat × V)) (rd : List V → List Ob → RO) (l0 : List Ob)
  (hrd : ∀ ok sl X k x l, ROk pn ok sl X k (rd x l) → ∀ C' : Cx P N, AW C' as0 (XThen (fun s' => AW C' bd (RPost (pn ++ xn90) ok sl X k) s') (fun _ _ => False)) ⟨setT (mkT tl) ps.toList x, mkS ((pn ++ xn90).zip l), 1⟩)
  (hpn : ∀ p ∈ pn, 500 ≤ p ∧ p < 1000) (htl : tl.all (fun p => p.2.nmP pn) = true) (hid : ∀ p ∈ gl, p.1 < 1000) (htm : All (fun p => tm p.1 = p.2.ren (lookG gl nx)) tl) (hσ : All (fun p => ∃ ob, σ (lookG gl nx p.1) = some ob ∧ ObEq ob (p.2.ren (lookG gl nx))) ((pn ++ xn90).zip l0))
  (hinj : decide ((((pn ++ xn90).zip l0).map fun p => lookG gl nx p.1).Nodup) = true) {c : Exit} {lf : List Ob} {e : CT} (hw : wlk rd es l0 = some (c, lf, e)) (he : EqT e) (hQ : Q c ⟨mkT tl, mkS ((pn ++ xn90).zip lf), 1⟩) : AW C (.rangeFunc g ps as0 bd) Q ⟨tm, σ, nx⟩ := by
 have hat := wlk_at hw he
 refine w_range4 hF pn xn90 gl hd it hg hidf hlen hps tl (fun k => (cStA rd es l0 k).isSome = true) (fun k => (cStA rd es l0 k).getD []) (fun k c sx => ∃ l x c' e', cStA rd es l0 k = some l ∧ es[k]? = some x ∧ rd x l = .ext c' sx e' ∧ exCode c' = c)
  (by simp [cStA]) (List.all_eq_true.2 fun p hp => by simpa using hpn p hp) htl (List.all_eq_true.2 fun p hp => decide_eq_true (hid p hp)) htm hσ hinj (fun C' _ k x hx hok => ?_) (fun hok => ?_) (fun k c sx hk hX => ?_)
 ·
  obtain ⟨l, hl⟩ := Option.isSome_iff_exists.1 hok
  rw [hl, Option.getD_some]
  obtain ⟨hk, t, ht, htE⟩ := hat k l hl
  have hlt := (List.getElem?_eq_some_iff.1 hx).1
  have hdr : es.drop k = x :: es.drop (k + 1) := by
   rw [List.drop_eq_getElem_cons hlt]
   congr 1
   exact (List.getElem?_eq_some_iff.1 hx).2
  rw [hdr] at ht
  refine hrd _ _ _ k x l ?_ C'
  unfold wlk at ht
  split at ht
  ·
   rename_i l' e' hr
   split at ht
   ·
    simp only [Option.some.injEq, Prod.mk.injEq] at ht
    obtain ⟨_, _, rfl⟩ := ht
    have hst : cStA rd es l0 (k + 1) = some l' := by
     simp only [cStA, hl, hx, hr]
    rw [hr]
    exact ⟨htE.1, by simp only [hst, Option.isSome_some], by simp only [hst, Option.getD_some]⟩
   ·
    cases ht
  ·
   rename_i c' l' e' hr
   rw [hr]
   split at ht
   ·
    simp only [Option.some.injEq, Prod.mk.injEq] at ht
    obtain ⟨_, _, rfl⟩ := ht
    exact ⟨htE, l, x, _, _, hl, hx, hr, rfl⟩
   ·
    simp only [Option.some.injEq, Prod.mk.injEq] at ht
    obtain ⟨_, _, rfl⟩ := ht
    exact ⟨htE, l, x, _, _, hl, hx, hr, rfl⟩
   ·
    cases ht
  ·
   cases ht
 ·
  obtain ⟨l, hl⟩ := Option.isSome_iff_exists.1 hok
  rw [hl, Option.getD_some]
  obtain ⟨hk, t, ht, htE⟩ := hat _ l hl
  rw [List.drop_length] at ht
  simp only [wlk, Option.some.injEq, Prod.mk.injEq] at ht
  obtain ⟨rfl, rfl, _⟩ := ht
  exact hQ
 ·
  obtain ⟨l, x, c', e', hl, hx, hr, rfl⟩ := hX
  obtain ⟨hk', t, ht, htE⟩ := hat k l hl
  have hdr : es.drop k = x :: es.drop (k + 1) := by
   rw [List.drop_eq_getElem_cons hk]
   congr 1
   exact (List.getElem?_eq_some_iff.1 hx).2
  rw [hdr] at ht
  unfold wlk at ht
  rw [hr] at ht
  simp only at ht
  split at ht
  ·
   simp only [Option.some.injEq, Prod.mk.injEq] at ht
   obtain ⟨rfl, rfl, _⟩ := ht
   exact aw_ret hQ
  ·
   simp only [Option.some.injEq, Prod.mk.injEq] at ht
   obtain ⟨rfl, rfl, _⟩ := ht
   exact aw_exit hQ
  ·
   cases ht
theorem rngE_ok {P : Program} {N : Nat} {C : Cx P N} {T : List TI} {M mu : List Nat} {call : Clr} {itr : Itr} {np : Nat} (hT : TabOk T P) (hcl : ClrOk P call) (hit : ItrOk P itr) (hF : C.F = Fence.wide) (hpin : ∀ id x, C.dfs.pin id = some x → 500 ≤ id ∧ id < 500 + np) : RngOk C (rngE call itr T M mu N np) := by
 intro g ps as0 bd s e s' t h he Q hQ
 have hle : ∀ {P : Program} {N : Nat} (C : Cx P N) a w, Gm C s.den a w → Gm C (rngS s g).den a w := frzL_le s _
 refine aw_le (s' := (rngS s g).den) hle ?_
 clear hle
 unfold rngE at h
 generalize rngS s g = s0 at h ⊢
 generalize notIn _ _ = nl at h
 generalize TR.keys id s0.tr = ks at h
 unfold rng1 at h
 split at h
 ·
  rename_i gf caps hg
  split at h
  ·
   rename_i hidf
   split at h
   ·
    rename_i es e0 hes
    split at h
    ·
     rename_i obs hobs
     split at h
     ·
      rename_i c s1 e1 h2
      simp only [Option.some.injEq, Prod.mk.injEq] at h
      obtain ⟨rfl, rfl, rfl⟩ := h
      obtain ⟨he0, he⟩ := he
      unfold rng2 at h2
      split at h2
      ·
       rename_i hb
       split at h2
       ·
        rename_i c1 lf e2 hw
        simp only [Option.some.injEq, Prod.mk.injEq] at h2
        obtain ⟨rfl, rfl, rfl⟩ := h2
        simp only [Bool.and_eq_true, decide_eq_true_eq] at hb
        obtain ⟨hb1, hb2, hb3, hb4, hb5, hb6, hb7⟩ := hb
        obtain ⟨hE, hew⟩ := he
        have hE' : EqE _ := hE
        have e1 := hE'.hd
        injection e1 with e1
        have hB := hE'.tl
        obtain ⟨hlen, hget⟩ := insL_get hobs
        have hps : ∀ p ∈ ps.toList, p < 1000 := fun p hp => of_decide_eq_true (List.all_eq_true.1 hb3 p hp)
        have htl : ∀ p ∈ renP (invR np nl) (tmL s0.tr ks), p.1 < 1000 := fun p hp => by
         obtain ⟨q, hq, hq2⟩ := renP_key hp
         rw [← hq2]
         exact of_decide_eq_true (List.all_eq_true.1 hb4 _ (tmL_key hq))
        have hpn : ∀ p ∈ pnL np nl.length, 500 ≤ p ∧ p < 1000 := fun p hp => by
         unfold pnL pinL at hp
         simp only [List.mem_append, List.mem_map, List.mem_range] at hp
         rcases hp with ⟨a, ha, rfl⟩ | ⟨a, ha, rfl⟩ <;> omega
        have hs1 : (CS.mk (trL (renP (invR np nl) (tmL s0.tr ks))) (zipS (pnL np nl.length ++ xn90) lf) 1).den = ⟨mkT (renP (invR np nl) (tmL s0.tr ks)), mkS ((pnL np nl.length ++ xn90).zip lf), 1⟩ := by
         unfold CS.den
         rw [trL_get htl, zipS_get]
        rw [hs1] at hQ
        have H1 : ∀ ok sl X k x l, ROk (pnL np nl.length) ok sl X k (roundR call T M mu N (pnL np nl.length) (renP (invR np nl) (tmL s0.tr ks)) ps.toList as0 bd x l) → ∀ C' : Cx P N, AW C' as0 (XThen (fun s' => AW C' bd (RPost (pnL np nl.length ++ xn90) ok sl X k) s') (fun _ _ => False)) ⟨setT (mkT (renP (invR np nl) (tmL s0.tr ks))) ps.toList x, mkS ((pnL np nl.length ++ xn90).zip l), 1⟩ := fun ok sl X k x l hr C' => roundR_ok hT hcl hpn htl hps hr C'
        have H2 : ∀ p ∈ numL (500 + np) nl, p.1 < 1000 := fun p hp => by have := numL_mem hp; omega
        have H3 := renP_all (g := lookG (numL (500 + np) nl) s0.nx) (gi := invR np nl) (tm := s0.tr.get) (tl := tmL s0.tr ks) tmL_mem e1
        generalize roundR call T M mu N (pnL np nl.length) (renP (invR np nl) (tmL s0.tr ks)) ps.toList as0 bd = rd at hw H1
        generalize renP (invR np nl) (tmL s0.tr ks) = tl at *
        refine rng_core hF (pnL np nl.length) (numL (500 + np) nl) (fun id x hx => ?_) (hit _ _ _ _ hes he0) hg hidf (fun x hx => ?_) hb2 tl rd (obs.map Prod.snd) H1 hpn hb6 H2 H3 (all_mem fun p hp => ?_) (decide_eq_true hb7) hw hew hQ
        ·
         have := hpin id x hx
         refine ⟨?_, fun p hp => ?_⟩
         ·
          unfold pnL pinL
          simp only [List.mem_append, List.mem_map, List.mem_range]
          exact .inl ⟨id - 500, by omega, by omega⟩
         ·
          have := numL_mem hp; omega
        ·
         have := List.all_eq_true.1 hb1 x hx
         have := Nat.eq_of_beq_eq_true this
         simpa using this
        ·
         obtain ⟨i, h1, h2⟩ := zip_mem hp
         simp only [List.getElem?_map, Option.map_eq_some_iff] at h2
         obtain ⟨q, hq, hq2⟩ := h2
         obtain ⟨k, hk, hσ, hno⟩ := hget i q hq
         have hil := (List.getElem?_eq_some_iff.1 hq).1
         rw [hlen] at hil
         have hpl : (pinL np).length = np := by simp [pinL]
         simp only [List.length_append, hpl] at hil
         have hlk : lookG (numL (500 + np) nl) s0.nx p.1 = k := by
          unfold pnL at h1
          rw [List.append_assoc] at h1
          unfold lookG
          by_cases hi : i < np
          ·
           rw [List.getElem?_append_left oM] at h1 hk
           rw [hk] at h1
           injection h1 with h1
           have hkk : k = 500 + i := by
            unfold pinL at hk
            rw [List.getElem?_map, List.getElem?_range hi] at hk
            simp at hk; omega
           rw [← h1, numL_lt oM]
           exact if_pos oM
          ·
           rw [List.getElem?_append_right oM] at h1 hk
           rw [hpl] at h1 hk
           rw [List.getElem?_append_left (by simp; omega), List.getElem?_map, List.getElem?_range oM] at h1
           simp only [Option.map_some, Option.some.injEq] at h1
           rw [← h1, numL_find hk]
         refine ⟨q.1, by rw [hlk]; exact hσ, ?_⟩
         rw [← hq2]
         exact nOb_eq hno (cBackE_get hB hq)
       ·
        cases h2
      ·
       cases h2
     ·
      cases h
    ·
     cases h
   ·
    cases h
  ·
   cases h
 ·
  cases h
end
end Go.Ab

namespace Go.Ab
open Go.RowKit Go.Dw Go.Shelf
noncomputable section
def AWJRI {P : Program} {N : Nat} {es : List (List V)} (C : Cx P N) (Y : YE P es) (c : Code) (Q : Exit → S → Nat → Bool → Prop) : Nat → S → Nat → Bool → Prop
 | 0, _, _, _ => False
 | m + 1, s, k, g => AWJ C Y c (XThenJ (AWJRI C Y c Q m) Q) s k g
theorem awjI_rounds {P : Program} {N : Nat} {es : List (List V)} {C : Cx P N} {Y : YE P es} {Q : Exit → S → Nat → Bool → Prop} {c : Code} {s : S} {k : Nat} {g : Bool} (m : Nat) (h : AWJRI C Y c Q m s k g) : AWJ C Y (.loop c) Q s k g := by
 intro a w gm hj hb
 refine wpIn_loop_rounds m ?_
 have key : ∀ (m : Nat) (s : S) (k : Nat) (g : Bool) (a : Act) (w : World), AWJRI C Y c Q m s k g → Gm C s a w → Y.J k g w → Y.B ≤ w.heap.size → Code.roundsIn Fence.wide 0 P c (fun e a' w' => ∃ s' k' g', Q e s' k' g' ∧ Gm C s' a' w' ∧ Y.J k' g' w' ∧ Y.B ≤ w'.heap.size) m a w := by
  intro m
  induction m with
  | zero => intro s k g a w h; exact h.elim
  | succ m ih =>
   intro s k g a w h gm hj hb
   refine wpIn_mono (h a w gm hj hb) ?_
   rintro e a' w' ⟨s', k', g', q, gm', hj', hb'⟩
   cases e with
   | normal => exact ih s' k' g' a' w' q gm' hj' hb'
   | _ => exact ⟨s', k', g', q, gm', hj', hb'⟩
 exact key m s k g a w h gm hj hb
section
variable {P : Program} {N : Nat} {es : List (List V)} (C : Cx P N) (Y : YE P es) (Q : Exit → S → Nat → Bool → Prop)
def WkI : List Fr → Exit → S → Nat → Bool → Prop
 | [] => Q
 | .c y :: k => XThenJ (fun s' n g => AWJ C Y y (WkI k) s' n g) (WkI k)
 | .b id :: k => XBlockJ id (WkI k)
 | .l y m :: k => XThenJ (AWJRI C Y y (WkI k) m) (WkI k)
 | .s :: _ => fun _ _ _ _ => False
def HdI : CC → Nat → Bool → Prop
 | .code c k s, n, g => AWJ C Y c (WkI C Y Q k) s.den n g
 | .done e k s, n, g => WkI C Y Q k e s.den n g
 | .ops _ _ _ _ _ _, _, _ => False
end
section
variable {P : Program} {N : Nat} {es : List (List V)} {C : Cx P N} {Y : YE P es} {Q : Exit → S → Nat → Bool → Prop} {T : List TI} {M mu : List Nat} {call : Clr}
theorem wkj_cI {y : Code} {k : List Fr} {e : Exit} {s : S} {n : Nat} {g : Bool} (hne : e ≠ .normal) (h : WkI C Y Q k e s n g) : WkI C Y Q (.c y :: k) e s n g := by
 cases e <;> first | exact absurd rfl hne | exact h
theorem wkj_lI {y : Code} {m : Nat} {k : List Fr} {e : Exit} {s : S} {n : Nat} {g : Bool} (hne : e ≠ .normal) (h : WkI C Y Q k e s n g) : WkI C Y Q (.l y m :: k) e s n g := by
 cases e <;> first | exact absurd rfl hne | exact h
theorem wkj_bI {id : Nat} {k : List Fr} {e : Exit} {s : S} {n : Nat} {g : Bool} (hne : ∀ i, e ≠ .exit i) (h : WkI C Y Q k e s n g) : WkI C Y Q (.b id :: k) e s n g := by
 cases e <;> first | exact absurd rfl (hne _) | exact h
theorem awjI_roundsS {c : Code} {s : S} {k : Nat} {g : Bool} (u : Nat) (h : AWJ C Y c (XThenJ (AWJRI C Y c Q u) Q) s k g) : AWJ C Y (.loop c) Q s k g := awjI_rounds (u + 1) h
def JStepI {P : Program} {es : List (List V)} {N : Nat} (C : Cx P N) (Y : YE P es) (Q : Exit → S → Nat → Bool → Prop) (g : CC) (x : JX) : Prop :=
 (x.y = none → ∀ n b, HdI C Y Q x.g n b → HdI C Y Q g n b) ∧
 ∀ as0, x.y = some as0 → ∃ sd, x.side = some sd ∧ ∀ n, es[n]? = some as0 → HdI C Y Q x.g (n + 1) true → HdI C Y Q sd n false → HdI C Y Q g n true
theorem jst_nI {g g' : CC} {e : CT} (h : ∀ n b, HdI C Y Q g' n b → HdI C Y Q g n b) : JStepI C Y Q g ⟨g', none, none, e⟩ := ⟨fun _ => h, fun as0 h => by cases h⟩
theorem jReg_okI (hT : TabOk T P) (hcl : ClrOk P call) (hC : YC C Y) {id n : Nat} {ops : Array Oper} {k : List Fr} {s : CS} {x : JX} (hok : okReg N ops.toList = true) (h : jReg true call T M Y.l ops.toList k s n = some x) (he : EqT x.e) : JStepI C Y Q (.code (.region id ops false) k s) x := by
 have eo : ops = ops.toList.toArray := by simp
 unfold jReg at h
 split at h
 ·
  rename_i o ho
  split at h
  ·
   rename_i d hd
   split at h
   ·
    rename_i hlt
    have hlt := of_decide_eq_true hlt
    split at h
    ·
     rename_i s1 ks1 e1 h1
     split at h
     ·
      rename_i hgd
      split at h
      ·
       rename_i fv as0 hy
       split at h
       ·
        rename_i s2 ks2 e2 h2
        split at h
        ·
         rename_i s3 ks3 e3 h3
         injection h with h; subst h
         obtain ⟨he0, he1, he2, he3⟩ := he
         refine ⟨fun h => (by cases h), fun as1 has => ?_⟩
         injection has with has; subst has
         refine ⟨_, rfl, fun m hm hk1 hk2 => ?_⟩
         obtain ⟨d', op, ty, pos, af, gd⟩ := o
         simp only at hd
         subst hd
         unfold yArg at hy
         simp only at hy
         split at hy
         ·
          rename_i c
          obtain ⟨callee, args, ats⟩ := c
          simp only at hy
          split at hy
          ·
           rename_i fo
           split at hy
           ·
            rename_i hfl0
            simp only [Bool.and_eq_true] at hfl0
            simp only [Option.some.injEq, Prod.mk.injEq] at hy
            obtain ⟨rfl, rfl⟩ := hy
            have hf := EqE.hd he0
            injection hf with hf
            simp only [List.cons.injEq, and_true] at hf
            have ht : AOps C ops.toList.toArray s.nx (ops.toList.drop (n + 1)) (upd s1.tr.get d (.b true)) (lkS s1.sl) [] (fun tm' σ' _ => WkI C Y Q k .normal ⟨tm', σ', s.nx + 1⟩ (m + 1) true) ∧ AOps C ops.toList.toArray s.nx (ops.toList.drop (n + 1)) (upd s1.tr.get d (.b false)) (lkS s1.sl) [] (fun tm' σ' _ => WkI C Y Q k .normal ⟨tm', σ', s.nx + 1⟩ m false) := by
             have q1 := (rOps_ok hT hcl (C := C) (K := fun _ _ _ => True) h1 he1).1
             constructor
             ·
              obtain ⟨r1, r2⟩ := rOps_ok hT hcl (C := C) (K := fun tm' σ' _ => WkI C Y Q k .normal ⟨tm', σ', s.nx + 1⟩ (m + 1) true) h2 he2
              simp only at r1 r2
              rw [TR.put_upd hlt, q1] at r2
              exact r2 (by have := hk1; unfold HdI CS.den at this; simp only at this; rw [r1, q1] at this; exact this)
             ·
              obtain ⟨r1, r2⟩ := rOps_ok hT hcl (C := C) (K := fun tm' σ' _ => WkI C Y Q k .normal ⟨tm', σ', s.nx + 1⟩ m false) h3 he3
              simp only at r1 r2
              rw [TR.put_upd hlt, q1] at r2
              exact r2 (by have := hk2; unfold HdI CS.den at this; simp only at this; rw [r1, q1] at this; exact this)
            show AWJ C Y (.region id ops false) (WkI C Y Q k) s.den m true
            rw [eo]
            unfold yGd at hgd
            simp only at hgd
            split at hgd
            ·
             have ea : (args.toList.map fun x => ug (ev s1.tr.get x)) = args.toList.map (ev s1.tr.get) := List.map_congr_left fun x hx => ug_noGd hgd (by simp only [Op.operands, Call.operands]; simp at hx ⊢; exact .inr hx)
             have ef : ug (ev s1.tr.get fo) = ev s1.tr.get fo := ug_noGd hgd (by simp [Op.operands, Call.operands])
             rw [ef] at hf
             rw [ea] at hm
             have hfl1 := hfl0.1
             rw [ea] at hfl1
             refine awj_yield hC n (by simpa using hok) ho ?_
             obtain ⟨q1, q2⟩ := rOps_ok hT hcl (C := C) (K := fun tm1 σ1 _ => YS C Y ops.toList.toArray s.nx (ops.toList.drop (n + 1)) fo args d (WkI C Y Q k) m tm1 σ1) h1 he1
             exact q2 ⟨hf, ⟨_, hm, A2_refl _⟩, hfl1, ht.1, ht.2⟩
            ·
             rename_i gd'
             split at hgd
             ·
              rename_i g hg
              subst hgd
              refine awj_yieldG hC n (by simpa using hok) ho ?_
              obtain ⟨q1, q2⟩ := rOps_ok hT hcl (C := C) (K := fun tm1 σ1 _ => YSG C Y ops.toList.toArray s.nx (ops.toList.drop (n + 1)) fo args d ⟨some d, .call { callee := .value fo, args := args, argTypes := ats }, ty, pos, af, some gd'⟩ (WkI C Y Q k) m tm1 σ1) h1 he1
              exact q2 ⟨guardV_spec (ops := ops.toList.toArray) (r := some true) (by simpa using hg), hfl0.2, hf, ⟨_, hm, A2_refl _⟩, hfl0.1, ht.1, ht.2⟩
             ·
              cases hgd
           ·
            cases hy
          ·
           cases hy
         ·
          cases hy
        ·
         cases h
       ·
        cases h
      ·
       cases h
     ·
      cases h
    ·
     cases h
   ·
    cases h
  ·
   cases h
 ·
  cases h
theorem jstp_okI (hT : TabOk T P) (hcl : ClrOk P call) (hC : YC C Y) {g : CC} {x : JX} (h : jstp true call T M mu N Y.l g = some x) (he : EqT x.e) : JStepI C Y Q g x := by
 unfold jstp at h
 split at h
 ·
  rename_i e k s
  split at h
  ·
   cases h
  ·
   split at h
   ·
    injection h with h; subst h
    exact jst_nI fun n b hk => hk
   ·
    rename_i hne
    injection h with h; subst h
    exact jst_nI fun n b hk => wkj_cI hne hk
  ·
   split at h
   ·
    split at h
    ·
     rename_i hb
     injection h with h; subst h
     have hb := Nat.eq_of_beq_eq_true hb
     subst hb
     exact jst_nI fun n b hk => xjb_same hk
    ·
     rename_i hb
     injection h with h; subst h
     exact jst_nI fun n b hk => xjb_ne (by simpa using Nat.ne_of_beq_eq_false hb) hk
   ·
    rename_i hne
    injection h with h; subst h
    exact jst_nI fun n b hk => wkj_bI hne hk
  ·
   split at h
   ·
    split at h
    ·
     cases h
    ·
     injection h with h; subst h
     exact jst_nI fun n b hk => hk
   ·
    rename_i hne
    injection h with h; subst h
    exact jst_nI fun n b hk => wkj_lI hne hk
  ·
   cases h
 ·
  rename_i c k s
  split at h
  ·
   injection h with h; subst h; exact jst_nI fun n b hk => awj_skip hk
  ·
   injection h with h; subst h; exact jst_nI fun n b hk => awj_exit hk
  ·
   injection h with h; subst h; exact jst_nI fun n b hk => awj_ret hk
  ·
   injection h with h; subst h; exact jst_nI fun n b hk => awj_seq hk
  ·
   injection h with h; subst h; exact jst_nI fun n b hk => awj_block hk
  ·
   injection h with h; subst h; exact jst_nI fun n b hk => awjI_roundsS 1000000 hk
  ·
   split at h
   ·
    rename_i t ht
    split at h
    ·
     injection h with h; subst h
     exact jst_nI fun n b hk => awj_cond ht (fun _ => hk) fun h => by cases h
    ·
     injection h with h; subst h
     exact jst_nI fun n b hk => awj_cond ht (fun h => by cases h) fun _ => hk
   ·
    cases h
  ·
   rename_i id ops dr
   split at h
   ·
    rename_i hok
    split at h
    ·
     rename_i s' ks e hr
     have e0 : ops = ops.toList.toArray := by simp
     split at h
     ·
      injection h with h; subst h
      refine jst_nI fun n b hk => awj_aw hC ?_
      refine aw_le (frzR_le mu s ops.toList) ?_
      rw [e0]
      obtain ⟨q1, q2⟩ := rOps_ok hT hcl (C := C) (K := fun tm' σ' _ => WkI C Y Q k .normal ⟨tm', σ', (frzR mu s ops.toList).nx + 1⟩ n b) (by simpa using hr) he
      refine aw_region (s := (frzR mu s ops.toList).den) (by simpa using hok) (q2 ?_)
      have := hk
      unfold HdI CS.den at this
      simp only at this
      rw [q1] at this
      exact this
     ·
      split at h
      ·
       rename_i hdr
       injection h with h; subst h
       refine jst_nI fun n b hk => awj_aw hC ?_
       refine aw_le (frzR_le mu s ops.toList) ?_
       rw [e0]
       obtain ⟨q1, q2⟩ := rOps_ok hT hcl (C := C) (K := fun tm' σ' ks' => okDraw ops.toList ks' = true ∧ WkI C Y Q k .normal ⟨tm', σ', (frzR mu s ops.toList).nx + 1⟩ n b) (by simpa using hr) he
       refine aw_regionD (s := (frzR mu s ops.toList).den) (by simpa using hok) (q2 ⟨okDF_ok hdr, ?_⟩)
       have := hk
       unfold HdI CS.den at this
       simp only at this
       rw [q1] at this
       exact this
      ·
       cases h
    ·
     split at h
     ·
      split at h
      ·
       exact jReg_okI hT hcl hC hok h he
      ·
       cases h
     ·
      cases h
   ·
    cases h
  ·
   cases h
 ·
  cases h
end
theorem jNo_okI {P : Program} {N : Nat} {es : List (List V)} {C : Cx P N} {Y : YE P es} {T : List TI} {M mu : List Nat} {call : Clr} (hT : TabOk T P) (hcl : ClrOk P call) (hC : YC C Y) {n : Nat} (hn : n < es.length) : ∀ {m : Nat} {g : CC} {e : CT}, jNo true call T M mu N Y.l m g = some e → EqT e → HdI C Y (EndIt es.length) g n false
 | 0, _, _, h, _ => by cases h
 | m + 1, g, e, h, he => by
  unfold jNo at h
  split at h
  ·
   rename_i x hx
   split at h
   ·
    rename_i hy
    split at h
    ·
     rename_i e1 h1
     injection h with h; subst h
     exact (jstp_okI (Q := EndIt es.length) hT hcl hC hx he.1).1 hy n false (jNo_okI hT hcl hC hn h1 he.2)
    ·
     cases h
   ·
    cases h
  ·
   split at h
   ·
    rename_i e0 s
    split at h
    ·
     exact ⟨.inr rfl, (fun h => nomatch h), fun _ => hn⟩
    ·
     exact ⟨.inl rfl, (fun h => nomatch h), fun _ => hn⟩
    ·
     cases h
   ·
    cases h
theorem jRun_okI {P : Program} {N : Nat} {es : List (List V)} {C : Cx P N} {Y : YE P es} {T : List TI} {M mu : List Nat} {call : Clr} (hT : TabOk T P) (hcl : ClrOk P call) (hC : YC C Y) : ∀ {m : Nat} {g : CC} {as0 : List (List V)} {e : CT} {n : Nat}, jRun true call T M mu N Y.l m g = some (as0, e) → EqT e → es.drop n = as0 → n ≤ es.length → HdI C Y (EndIt es.length) g n true
 | 0, _, _, _, _, h, _, _, _ => by cases h
 | m + 1, g, as0, e, n, h, he, hd, hn => by
  unfold jRun at h
  split at h
  ·
   rename_i x hx
   split at h
   ·
    rename_i hy
    split at h
    ·
     rename_i as1 e1 h1
     simp only [Option.some.injEq, Prod.mk.injEq] at h
     obtain ⟨rfl, rfl⟩ := h
     exact (jstp_okI (Q := EndIt es.length) hT hcl hC hx he.1).1 hy n true (jRun_okI hT hcl hC h1 he.2 hd hn)
    ·
     cases h
   ·
    rename_i a hy
    split at h
    ·
     rename_i sd hsd
     split at h
     ·
      rename_i e0 h0
      split at h
      ·
       rename_i as1 e1 h1
       simp only [Option.some.injEq, Prod.mk.injEq] at h
       obtain ⟨rfl, rfl⟩ := h
       have hlt : n < es.length := by
        have := congrArg List.length hd
        simp only [List.length_drop, List.length_cons] at this
        omega
       have hget : es[n]? = some a := by
        have := congrArg (·[0]?) hd
        simpa using this
       have hdr : es.drop (n + 1) = as1 := by
        have h2 := congrArg List.tail hd
        simpa using h2
       obtain ⟨sd', hs', hall⟩ := (jstp_okI (Q := EndIt es.length) hT hcl hC hx he.1).2 a hy
       rw [hsd] at hs'
       injection hs' with hs'
       subst hs'
       exact hall n hget (jRun_okI hT hcl hC h1 he.2.2 hdr oM) (jNo_okI hT hcl hC hlt h0 he.2.1)
      ·
       cases h
     ·
      cases h
    ·
     cases h
  ·
   split at h
   ·
    rename_i e0 s
    have fin : as0 = [] → n = es.length := fun h0 => by
     rw [h0] at hd
     have := congrArg List.length hd
     simp only [List.length_drop, List.length_nil] at this
     omega
    split at h
    ·
     simp only [Option.some.injEq, Prod.mk.injEq] at h
     exact ⟨.inr rfl, fun _ => fin h.1.symm, (fun h => nomatch h)⟩
    ·
     simp only [Option.some.injEq, Prod.mk.injEq] at h
     exact ⟨.inl rfl, fun _ => fin h.1.symm, (fun h => nomatch h)⟩
    ·
     cases h
   ·
    cases h
theorem ait_ofI {P : Program} {N : Nat} {T : List TI} {M mu : List Nat} {call : Clr} {f : FuncId} {fn : Func} {c : Code} {caps : List V} {ins : List Ob} {es : List (List V)} (hT : TabOk T P) (hmx : P.follows .mixedOrders = true) (hcl : ClrOk P call) (hk : FnOk P f fn c N) (hres : fn.results = #[]) (hargs : caps.length + 1 ≤ N) (hins : ins.length ≤ 400)
  (s0 : Nat → CS) (h0 : ∀ l, (s0 l).den = ⟨fun t => ((V.c (.func (.yield l) #[] #[])) :: caps).getD t .any, insF ins, 1⟩)
  (hv : ∀ l, jVal (jRun true call T M mu N l 20000 (.code c [] (s0 l))) = some es) (he : ∀ l, EqT (jTr (jRun true call T M mu N l 20000 (.code c [] (s0 l))))) : AItU P f caps ins es := by
 refine ait_introU hT hmx hk hres hargs (fun C Y hC => ?_) hins
 have h1 := hv Y.l
 have h2 := he Y.l
 unfold jVal at h1
 unfold jTr at h2
 split at h1
 ·
  rename_i as0 e hr
  rw [hr] at h2
  injection h1 with h1
  subst h1
  have := jRun_okI (C := C) (Y := Y) (n := 0) hT hcl hC hr h2 rfl (Nat.zero_le _)
  unfold HdI at this
  simp only at this
  rw [h0] at this
  exact this
 ·
  cases h1
def flB (pn : List Nat) : Ob → Bool
 | .box _ cs => V.flatPL pn cs
 | .row _ _ n f => ((List.range n).map f).all (V.flatPL pn)
 | .mp _ _ => false
theorem flB_ok {pn : List Nat} {o : Ob} (h : flB pn o = true) : o.flatP pn := by
 cases o with
 | box t cs => exact h
 | row e sz n f =>
  intro i hi
  exact List.all_eq_true.1 h _ (List.mem_map.2 ⟨i, List.mem_range.2 hi, rfl⟩)
 | mp _ _ => cases h
def rEndI (pn : List Nat) (s : CS) : Option (List Ob × CT) :=
 match insL (lkS s.sl) (fun i => i) pn with
 | some l => match decide (((pn.zip (l.map Prod.snd)).map fun p => lookG [] s.nx p.1).Nodup) && (l.map Prod.snd).all (flB pn) with
  | true => some (l.map Prod.snd, .lf (cBackE (lookG [] s.nx) l))
  | false => none
 | none => none
theorem rEndI_ok {pn : List Nat} {s : CS} {l' : List Ob} {e : CT} (hpn : ∀ p ∈ pn, 500 ≤ p ∧ p < 1000) (h : rEndI pn s = some (l', e)) (he : EqT e) : Le s.den ⟨fun _ => .any, mkS (pn.zip l'), 1⟩ ∧ l'.length = pn.length ∧ ∀ o ∈ l', o.flatP pn := by
 unfold rEndI at h
 split at h
 ·
  rename_i l hl
  split at h
  ·
   rename_i hb
   simp only [Option.some.injEq, Prod.mk.injEq] at h
   obtain ⟨rfl, rfl⟩ := h
   simp only [Bool.and_eq_true] at hb
   obtain ⟨hb1, hb2⟩ := hb
   obtain ⟨hlen, hget⟩ := insL_get hl
   have hE : EqE _ := he
   refine ⟨?_, by simp [hlen], fun o ho => flB_ok (List.all_eq_true.1 hb2 o ho)⟩
   show Le ⟨s.tr.get, lkS s.sl, s.nx⟩ ⟨mkT [], mkS (pn.zip (l.map Prod.snd)), 1⟩
   refine le_ren (tm := s.tr.get) (σ := lkS s.sl) (nx := s.nx) [] (tl := []) .nil (all_mem fun p hp => ?_) hb1 rfl
   obtain ⟨i, h1, h2⟩ := zip_mem hp
   simp only [List.getElem?_map, Option.map_eq_some_iff] at h2
   obtain ⟨q, hq, hq2⟩ := h2
   obtain ⟨k, hk, hσ, hno⟩ := hget i q hq
   rw [hk] at h1
   injection h1 with h1
   have hg : lookG [] s.nx p.1 = k := by
    have := hpn k (List.mem_of_getElem? hk)
    unfold lookG
    rw [← h1]
    exact if_pos this
   refine ⟨q.1, by rw [hg]; exact hσ, ?_⟩
   rw [← hq2]
   exact nOb_eq hno (cBackE_get hE hq)
  ·
   cases h
 ·
  cases h
def roundI (call : Clr) (T : List TI) (M mu : List Nat) (N : Nat) (pn : List Nat) (tl : List (Nat × V)) (ps : List Nat) (as0 bd : Code) (x : List V) (l : List Ob) : RO :=
 match evalC call rng0 T M mu N as0 ⟨setTR (trL tl) ps x, zipS pn l, 1⟩ with
 | some (.normal, s1, t1) => match evalC call rng0 T M mu N bd s1 with
  | some (e, s2, t2) => match rEndI pn s2 with
   | some (l', t3) => rdEx l' (cNd t1 (cNd t2 t3)) e
   | none => .bad
  | none => .bad
 | _ => .bad
def ROkI (pn : List Nat) (ok : Nat → Prop) (sl : Nat → List Ob) (X : Nat → Code → List Ob → Prop) (k : Nat) : RO → Prop
 | .nor l' e => EqT e ∧ (l'.length = pn.length → (∀ o ∈ l', o.flatP pn) → ok (k + 1) ∧ sl (k + 1) = l')
 | .ext c l' e => EqT e ∧ (l'.length = pn.length → (∀ o ∈ l', o.flatP pn) → X k (exCode c) l')
 | .bad => False
theorem roundSI_den {pn : List Nat} {tl : List (Nat × V)} {ps : List Nat} {x : List V} {l : List Ob} (htl : ∀ p ∈ tl, p.1 < 1000) (hps : ∀ p ∈ ps, p < 1000) : (CS.mk (setTR (trL tl) ps x) (zipS pn l) 1).den = ⟨setT (mkT tl) ps x, mkS (pn.zip l), 1⟩ := by
 unfold CS.den
 rw [setTR_get _ _ _ hps, trL_get htl, zipS_get]
section
variable {P : Program} {N : Nat} {T : List TI} {M mu : List Nat} {call : Clr} {pn : List Nat} {tl : List (Nat × V)} {ps : List Nat} {as0 bd : Code}
theorem roundI_ok (hT : TabOk T P) (hcl : ClrOk P call) (hpn : ∀ p ∈ pn, 500 ≤ p ∧ p < 1000) (htl : ∀ p ∈ tl, p.1 < 1000) (hps : ∀ p ∈ ps, p < 1000) {ok : Nat → Prop} {sl : Nat → List Ob} {X : Nat → Code → List Ob → Prop} {k : Nat} {x : List V} {l : List Ob}
  (h : ROkI pn ok sl X k (roundI call T M mu N pn tl ps as0 bd x l)) (C' : Cx P N) : AW C' as0 (XThen (fun s' => AW C' bd (RPost pn ok sl X k) s') (fun _ _ => False)) ⟨setT (mkT tl) ps x, mkS (pn.zip l), 1⟩ := by
 rw [← roundSI_den htl hps]
 unfold roundI at h
 split at h
 ·
  rename_i s1 t1 h1
  split at h
  ·
   rename_i e s2 t2 h2
   split at h
   ·
    rename_i l' t3 h3
    have key : EqT (cNd t1 (cNd t2 t3)) → (Le s2.den ⟨fun _ => .any, mkS (pn.zip l'), 1⟩ → l'.length = pn.length → (∀ o ∈ l', o.flatP pn) → RPost pn ok sl X k e s2.den) →
      AW C' as0 (XThen (fun s' => AW C' bd (RPost pn ok sl X k) s') (fun _ _ => False)) (CS.mk (setTR (trL tl) ps x) (zipS pn l) 1).den := by
     intro hE hR
     have hE := cNd_eq hE
     have hE2 := cNd_eq hE.2
     obtain ⟨z1, z2, z3⟩ := rEndI_ok hpn h3 hE2.2
     have a2 := evalC_ok (C := C') (mu := mu) hT hcl rng0_ok bd _ _ _ _ h2 hE2.1 (RPost pn ok sl X k) (hR z1 z2 z3)
     exact evalC_ok (C := C') (mu := mu) hT hcl rng0_ok as0 _ _ _ _ h1 hE.1 (XThen (fun s' => AW C' bd (RPost pn ok sl X k) s') (fun _ _ => False)) a2
    unfold rdEx at h
    split at h
    ·
     obtain ⟨q1, q2⟩ := h
     exact key q1 fun hle a b => ⟨(q2 a b).1, by rw [(q2 a b).2]; exact hle⟩
    ·
     obtain ⟨q1, q2⟩ := h
     exact key q1 fun hle a b => ⟨_, q2 a b, hle⟩
    ·
     obtain ⟨q1, q2⟩ := h
     exact key q1 fun hle a b => ⟨_, q2 a b, hle⟩
    ·
     exact h.elim
   ·
    exact h.elim
  ·
   exact h.elim
 ·
  exact h.elim
end
def flR (pn : List Nat) (l : List Ob) : Bool := Nat.beq l.length pn.length && l.all (flB pn)
theorem flR_ok {pn : List Nat} {l : List Ob} (h : flR pn l = true) : l.length = pn.length ∧ ∀ o ∈ l, o.flatP pn := by
 simp only [flR, Bool.and_eq_true] at h
 exact ⟨Nat.eq_of_beq_eq_true h.1, fun o ho => flB_ok (List.all_eq_true.1 h.2 o ho)⟩
def rdF (pn : List Nat) : RO → RO
 | .nor l e => match flR pn l with
  | true => .nor l e
  | false => .bad
 | .ext c l e => match flR pn l with
  | true => .ext c l e
  | false => .bad
 | .bad => .bad
theorem rdF_nor {pn : List Nat} {r : RO} {l : List Ob} {e : CT} (h : rdF pn r = .nor l e) : r = .nor l e ∧ flR pn l = true := by
 unfold rdF at h
 split at h
 ·
  split at h
  ·
   rename_i hf; injection h with h1 h2; subst h1 h2; exact ⟨rfl, hf⟩
  ·
   cases h
 ·
  split at h <;> cases h
 ·
  cases h
theorem rdF_ext {pn : List Nat} {r : RO} {c : Exit} {l : List Ob} {e : CT} (h : rdF pn r = .ext c l e) : r = .ext c l e ∧ flR pn l = true := by
 unfold rdF at h
 split at h
 ·
  split at h <;> cases h
 ·
  split at h
  ·
   rename_i hf; injection h with h1 h2 h3; subst h1 h2 h3; exact ⟨rfl, hf⟩
  ·
   cases h
 ·
  cases h
theorem rngI_core {P : Program} {N : Nat} {C : Cx P N} {Q : Exit → S → Prop} {tm : Nat → V} {σ : Nat → Option Ob} {nx : Nat} {g : Operand} {ps : Array Tmp} {as0 bd : Code} {gf : FuncId} {caps : List V} {ins : List Ob} {es : List (List V)} (ns : List Nat) (hF : C.F = Fence.wide) (hd : C.dfs = dp0) (pn : List Nat) (gl : List (Nat × Nat))
  (it : AItU P gf caps ins es) (hg : ev tm g = .fn (.func gf) [] (V.renL (nmU ns) caps)) (hidf : V.inNL ins.length caps = true) (hns : ns.length = ins.length) (hnd : ns.Nodup) (hins : ∀ (i k : Nat) (o : Ob), ns[i]? = some k → ins[i]? = some o → σ k = some o ∧ idfB o = true) (hlen : ∀ x ∈ es, x.length = ps.size) (hps : ps.toList.all (fun p => decide (p < N)) = true) (tl : List (Nat × V)) (rd : List V → List Ob → RO) (l0 : List Ob) (hl0 : flR pn l0 = true)
  (hrd : ∀ ok sl X k x l, ROkI pn ok sl X k (rd x l) → ∀ C' : Cx P N, AW C' as0 (XThen (fun s' => AW C' bd (RPost pn ok sl X k) s') (fun _ _ => False)) ⟨setT (mkT tl) ps.toList x, mkS (pn.zip l), 1⟩)
  (hpn : ∀ p ∈ pn, 500 ≤ p ∧ p < 1000) (hid : ∀ p ∈ gl, p.1 < 1000) (htm : All (fun p => tm p.1 = p.2.ren (lookG gl nx)) tl) (hσ : All (fun p => ∃ ob, σ (lookG gl nx p.1) = some ob ∧ ObEq ob (p.2.ren (lookG gl nx))) (pn.zip l0))
  (hinj : decide (((pn.zip l0).map fun p => lookG gl nx p.1).Nodup) = true) (hdis : ∀ p ∈ pn.zip l0, lookG gl nx p.1 ∉ ns) {c : Exit} {lf : List Ob} {e : CT} (hw : wlk (fun x l => rdF pn (rd x l)) es l0 = some (c, lf, e)) (he : EqT e) (hQ : Q c ⟨mkT tl, mkS (pn.zip lf), 1⟩) : AW C (.rangeFunc g ps as0 bd) Q ⟨tm, σ, nx⟩ := by
 have hat := wlk_at hw he
 generalize hR : (fun x l => rdF pn (rd x l)) = rr at hw hat
 have hst0 : ∀ k l, cStA rr es l0 k = some l → flR pn l = true := by
  intro k
  cases k with
  | zero => intro l hl; simp only [cStA, Option.some.injEq] at hl; subst hl; exact hl0
  | succ k =>
   intro l hl
   simp only [cStA] at hl
   split at hl
   ·
    rename_i l1 x h1 hx
    split at hl
    ·
     rename_i l' e' hr
     injection hl with hl
     subst hl
     rw [← hR] at hr
     exact (rdF_nor hr).2
    ·
     cases hl
   ·
    cases hl
 refine w_rangeU ns hF hd it hg hidf hns hnd hins hlen hps pn gl tl (fun k => (cStA rr es l0 k).isSome = true) (fun k => (cStA rr es l0 k).getD []) (fun k c sx => ∃ l x c' e', cStA rr es l0 k = some l ∧ es[k]? = some x ∧ rr x l = .ext c' sx e' ∧ exCode c' = c)
  (by simp [cStA]) (List.all_eq_true.2 fun p hp => by simpa using hpn p hp) (by simpa [cStA] using (flR_ok hl0).1) (List.all_eq_true.2 fun p hp => decide_eq_true (hid p hp)) htm hσ hinj (by simpa [cStA] using hdis) (fun k o ho => ?_) (fun k c sx hX o ho => ?_) (fun C' _ k x hx hok => ?_) (fun hok => ?_) (fun k c sx hk hX => ?_)
 ·
  cases hk : cStA rr es l0 k with
  | none => rw [hk] at ho; simp at ho
  | some l => rw [hk] at ho; exact (flR_ok (hst0 k l hk)).2 o (by simpa using ho)
 ·
  obtain ⟨l, x, c', e', hl, hx, hr, rfl⟩ := hX
  rw [← hR] at hr
  exact (flR_ok (rdF_ext hr).2).2 o ho
 ·
  obtain ⟨l, hl⟩ := Option.isSome_iff_exists.1 hok
  rw [hl, Option.getD_some]
  obtain ⟨hk, t, ht, htE⟩ := hat k l hl
  have hlt := (List.getElem?_eq_some_iff.1 hx).1
  have hdr : es.drop k = x :: es.drop (k + 1) := by
   rw [List.drop_eq_getElem_cons hlt]
   congr 1
   exact (List.getElem?_eq_some_iff.1 hx).2
  rw [hdr] at ht
  refine hrd _ _ _ k x l ?_ C'
  unfold wlk at ht
  split at ht
  ·
   rename_i l' e' hr
   split at ht
   ·
    simp only [Option.some.injEq, Prod.mk.injEq] at ht
    obtain ⟨_, _, rfl⟩ := ht
    have hst : cStA rr es l0 (k + 1) = some l' := by
     simp only [cStA, hl, hx, hr]
    rw [← hR] at hr
    rw [(rdF_nor hr).1]
    exact ⟨htE.1, fun _ _ => ⟨by simp only [hst, Option.isSome_some], by simp only [hst, Option.getD_some]⟩⟩
   ·
    cases ht
  ·
   rename_i c' l' e' hr
   have hr' := hr
   rw [← hR] at hr'
   rw [(rdF_ext hr').1]
   split at ht
   ·
    simp only [Option.some.injEq, Prod.mk.injEq] at ht
    obtain ⟨_, _, rfl⟩ := ht
    exact ⟨htE, fun _ _ => ⟨l, x, _, _, hl, hx, hr, rfl⟩⟩
   ·
    simp only [Option.some.injEq, Prod.mk.injEq] at ht
    obtain ⟨_, _, rfl⟩ := ht
    exact ⟨htE, fun _ _ => ⟨l, x, _, _, hl, hx, hr, rfl⟩⟩
   ·
    cases ht
  ·
   cases ht
 ·
  obtain ⟨l, hl⟩ := Option.isSome_iff_exists.1 hok
  rw [hl, Option.getD_some]
  obtain ⟨hk, t, ht, htE⟩ := hat _ l hl
  rw [List.drop_length] at ht
  simp only [wlk, Option.some.injEq, Prod.mk.injEq] at ht
  obtain ⟨rfl, rfl, _⟩ := ht
  exact hQ
 ·
  obtain ⟨l, x, c', e', hl, hx, hr, rfl⟩ := hX
  obtain ⟨hk', t, ht, htE⟩ := hat k l hl
  have hdr : es.drop k = x :: es.drop (k + 1) := by
   rw [List.drop_eq_getElem_cons hk]
   congr 1
   exact (List.getElem?_eq_some_iff.1 hx).2
  rw [hdr] at ht
  unfold wlk at ht
  rw [hr] at ht
  simp only at ht
  split at ht
  ·
   simp only [Option.some.injEq, Prod.mk.injEq] at ht
   obtain ⟨rfl, rfl, _⟩ := ht
   exact aw_ret hQ
  ·
   simp only [Option.some.injEq, Prod.mk.injEq] at ht
   obtain ⟨rfl, rfl, _⟩ := ht
   exact aw_exit hQ
  ·
   cases ht
abbrev ItrU : Type := FuncId → List V → List Ob → Option (List (List V) × CT)
def ItrOkI (P : Program) (itr : ItrU) : Prop := ∀ f caps ins es e, itr f caps ins = some (es, e) → EqT e → AItU P f caps ins es
def insU (σ : Nat → Option Ob) : List Nat → Option (List Ob)
 | [] => some []
 | k :: l => match σ k with
  | some o => match idfB o with
   | true => match insU σ l with
    | some r => some (o :: r)
    | none => none
   | false => none
  | none => none
def dedN : List Nat → List Nat
 | [] => []
 | k :: l => match inNs (dedN l) k with
  | true => dedN l
  | false => k :: dedN l
structure CapU where
 caps : List V
 ns : List Nat
 ins : List Ob
 e : CT
def capU2 (caps caps' : List V) (ns : List Nat) (ins : List Ob) : Option CapU := match nodupN ns && (V.inNL ins.length caps' && Nat.ble ins.length 400) with
 | true => some ⟨caps', ns, ins, .lf [(.vs caps, .vs (V.renL (nmU ns) caps'))]⟩
 | false => none
def capU1 (σ : Nat → Option Ob) (caps : List V) (ns : List Nat) : Option CapU := match insU σ ns with
 | some ins => capU2 caps (V.renL (fun i => 500 + idxN ns i) caps) ns ins
 | none => none
def capU (σ : Nat → Option Ob) (caps : List V) : Option CapU := match V.idfL caps with
 | true => some ⟨caps, [], [], c0⟩
 | false => capU1 σ caps (dedN (V.idsL caps))
theorem insU_get {σ : Nat → Option Ob} : ∀ {ns : List Nat} {ins : List Ob}, insU σ ns = some ins → ns.length = ins.length ∧ ∀ (i k : Nat) (o : Ob), ns[i]? = some k → ins[i]? = some o → σ k = some o ∧ idfB o = true
 | [], ins, h => by
  simp only [insU, Option.some.injEq] at h
  subst h
  exact ⟨rfl, fun i k o h => by simp at h⟩
 | k :: l, ins, h => by
  simp only [insU] at h
  split at h
  ·
   rename_i o ho
   split at h
   ·
    rename_i hb
    split at h
    ·
     rename_i r hr
     injection h with h; subst h
     obtain ⟨h1, h2⟩ := insU_get hr
     refine ⟨by simp [h1], fun i k' o' hk ho' => ?_⟩
     cases i with
     | zero => simp at hk ho'; subst hk ho'; exact ⟨ho, hb⟩
     | succ i => exact h2 i k' o' (by simpa using hk) (by simpa using ho')
    ·
     cases h
   ·
    cases h
  ·
   cases h
theorem capU_ok {σ : Nat → Option Ob} {caps : List V} {u : CapU} (h : capU σ caps = some u) (he : EqT u.e) : caps = V.renL (nmU u.ns) u.caps ∧ V.inNL u.ins.length u.caps = true ∧ u.ns.length = u.ins.length ∧ u.ns.Nodup ∧ (∀ (i k : Nat) (o : Ob), u.ns[i]? = some k → u.ins[i]? = some o → σ k = some o ∧ idfB o = true) ∧ u.ins.length ≤ 400 := by
 unfold capU at h
 split at h
 ·
  rename_i hi
  injection h with h; subst h
  exact ⟨(V.renL_idf _ _ hi).symm, idf_inNL 0 caps hi, rfl, .nil, (fun i k o h => by simp at h), Nat.zero_le _⟩
 ·
  generalize dedN _ = ns at h
  unfold capU1 at h
  split at h
  ·
   rename_i ins hins
   obtain ⟨h1, h2⟩ := insU_get hins
   unfold capU2 at h
   split at h
   ·
    rename_i hb
    injection h with h; subst h
    simp only [Bool.and_eq_true] at hb
    have hE : EqE _ := he
    have e1 := hE.hd
    injection e1 with e1
    exact ⟨e1, hb.2.1, h1, nodupN_ok hb.1, h2, Nat.le_of_ble_eq_true hb.2.2⟩
   ·
    cases h
  ·
   cases h
def numB (σ : Nat → Option Ob) : List V → List Nat
 | [] => []
 | v :: l => match v with
  | .ref i o => match o with
   | 0 => match σ i with
    | some (.box _ cs) => match cs.all V.isC with
     | true => i :: numB σ l
     | false => numB σ l
    | _ => numB σ l
   | _ + 1 => numB σ l
  | _ => numB σ l
def keepU (mu : List Nat) (σ : Nat → Option Ob) (v : V) : List Nat := match v with
 | .fn (.func gf) _ caps => match inNs mu gf with
  | true => numB σ caps
  | false => []
 | _ => []
def nfL : List (Nat × Option Ob) → List Nat
 | [] => []
 | (k, o) :: l => match o with
  | some (.box _ cs) => match V.idfL cs && !V.flatPL [] cs with
   | true => k :: nfL l
   | false => nfL l
  | _ => nfL l
def rngSU (mu : List Nat) (s : CS) (g : Operand) : CS := frzL s (notIn (keepU mu (lkS s.sl) (ev s.tr.get g)) (reachN (lkS s.sl) 1000 (ev s.tr.get g).ids []) ++ nfL s.sl)
def disN (l : List Nat) : List Nat → Bool
 | [] => true
 | k :: ns => match inNs l k with
  | true => false
  | false => disN l ns
def keysU (tr : TR) (ns : List Nat) : List Nat → List Nat
 | [] => []
 | t :: l => match disN (tr.get t).ids ns with
  | true => t :: keysU tr ns l
  | false => keysU tr ns l
def capsOf (v : V) : List V := match v with
 | .fn _ _ caps => caps
 | _ => []
def nsOf (v : V) : List Nat := match V.idfL (capsOf v) with
 | true => []
 | false => dedN (V.idsL (capsOf v))
def keysV (tr : TR) (ns : List Nat) (ks : List Nat) : List Nat := match ns with
 | [] => ks
 | k :: l => keysU tr (k :: l) ks
def rngI2 (call : Clr) (T : List TI) (M mu : List Nat) (N np : Nat) (ps : List Nat) (as0 bd : Code) (s : CS) (nl : List Nat) (ks ns : List Nat) (es : List (List V)) (obs : List (Ob × Ob)) : Option (Exit × CS × CT) :=
 match (es.all fun x => Nat.beq x.length ps.length) && (ps.all (fun p => decide (p < N)) && (ps.all (fun p => decide (p < 1000)) && (ks.all (fun p => decide (p < 1000)) && (decide (500 + np + nl.length ≤ 1000) && (flR (pnL np nl.length) (obs.map Prod.snd) && (decide ((((pnL np nl.length).zip (obs.map Prod.snd)).map fun p => lookG (numL (500 + np) nl) s.nx p.1).Nodup) && (((pnL np nl.length).zip (obs.map Prod.snd)).all fun p => !inNs ns (lookG (numL (500 + np) nl) s.nx p.1)))))))) with
 | true => match wlk (fun x l => rdF (pnL np nl.length) (roundI call T M mu N (pnL np nl.length) (renP (invR np nl) (tmL s.tr ks)) ps as0 bd x l)) es (obs.map Prod.snd) with
  | some (c, lf, e) => some (c, ⟨trL (renP (invR np nl) (tmL s.tr ks)), zipS (pnL np nl.length) lf, 1⟩, .nd (.lf ((.vs (vals (tmL s.tr ks)), .vs (V.renL (lookG (numL (500 + np) nl) s.nx) (vals (renP (invR np nl) (tmL s.tr ks))))) :: cBackE (lookG (numL (500 + np) nl) s.nx) obs)) e)
  | none => none
 | false => none
def rngI1 (call : Clr) (itr : ItrU) (T : List TI) (M mu : List Nat) (N np : Nat) (g : Operand) (ps : List Nat) (as0 bd : Code) (s : CS) (ks nl : List Nat) : Option (Exit × CS × CT) :=
 match ev s.tr.get g with
 | .fn (.func gf) [] caps => match capU (lkS s.sl) caps with
  | some u => match itr gf u.caps u.ins with
   | some (es, e0) => match insL (lkS s.sl) (invR np nl) (pinL np ++ nl) with
    | some obs => match rngI2 call T M mu N np ps as0 bd s nl ks u.ns es obs with
     | some (c, s', e) => some (c, s', .nd u.e (.nd e0 e))
     | none => none
    | none => none
   | none => none
  | none => none
 | _ => none
def rngI0 (call : Clr) (itr : ItrU) (T : List TI) (M mu : List Nat) (N np : Nat) (g : Operand) (ps : List Nat) (as0 bd : Code) (s : CS) (ks : List Nat) : Option (Exit × CS × CT) :=
 rngI1 call itr T M mu N np g ps as0 bd s ks (notIn (pinL np) (reachN (lkS s.sl) 1000 (idsP (tmL s.tr ks) ++ pinL np) []))
def rngIE (call : Clr) (itr : ItrU) (T : List TI) (M mu : List Nat) (N np : Nat) : Rng := fun g ps as0 bd s =>
 rngI0 call itr T M mu N np g ps.toList as0 bd (rngSU mu s g) (keysV (rngSU mu s g).tr (nsOf (ev (rngSU mu s g).tr.get g)) (TR.keys id (rngSU mu s g).tr))
theorem rngIE_ok {P : Program} {N : Nat} {C : Cx P N} {T : List TI} {M mu : List Nat} {call : Clr} {itr : ItrU} {np : Nat} (hT : TabOk T P) (hcl : ClrOk P call) (hit : ItrOkI P itr) (hF : C.F = Fence.wide) (hd : C.dfs = dp0) : RngOk C (rngIE call itr T M mu N np) := by
 intro g ps as0 bd s e s' t h he Q hQ
 have hle : ∀ {P : Program} {N : Nat} (C : Cx P N) a w, Gm C s.den a w → Gm C (rngSU mu s g).den a w := frzL_le s _
 refine aw_le (s' := (rngSU mu s g).den) hle ?_
 clear hle
 unfold rngIE at h
 generalize rngSU mu s g = s0 at h ⊢
 generalize keysV _ _ _ = ks at h
 unfold rngI0 at h
 generalize notIn _ _ = nl at h
 unfold rngI1 at h
 split at h
 ·
  rename_i gf caps hg
  split at h
  ·
   rename_i u hu
   split at h
   ·
    rename_i es e0 hes
    split at h
    ·
     rename_i obs hobs
     split at h
     ·
      rename_i c s1 e1 h2
      simp only [Option.some.injEq, Prod.mk.injEq] at h
      obtain ⟨rfl, rfl, rfl⟩ := h
      obtain ⟨heu, he0, he⟩ := he
      obtain ⟨u1, u2, u3, u4, u5, u6⟩ := capU_ok hu heu
      unfold rngI2 at h2
      split at h2
      ·
       rename_i hb
       split at h2
       ·
        rename_i c1 lf e2 hw
        simp only [Option.some.injEq, Prod.mk.injEq] at h2
        obtain ⟨rfl, rfl, rfl⟩ := h2
        simp only [Bool.and_eq_true, decide_eq_true_eq] at hb
        obtain ⟨hb1, hb2, hb3, hb4, hb5, hb6, hb7, hb8⟩ := hb
        obtain ⟨hE, hew⟩ := he
        have hE' : EqE _ := hE
        have e1 := hE'.hd
        injection e1 with e1
        have hB := hE'.tl
        obtain ⟨hlen, hget⟩ := insL_get hobs
        have hps : ∀ p ∈ ps.toList, p < 1000 := fun p hp => of_decide_eq_true (List.all_eq_true.1 hb3 p hp)
        have htl : ∀ p ∈ renP (invR np nl) (tmL s0.tr ks), p.1 < 1000 := fun p hp => by
         obtain ⟨q, hq, hq2⟩ := renP_key hp
         rw [← hq2]
         exact of_decide_eq_true (List.all_eq_true.1 hb4 _ (tmL_key hq))
        have hpn : ∀ p ∈ pnL np nl.length, 500 ≤ p ∧ p < 1000 := fun p hp => by
         unfold pnL pinL at hp
         simp only [List.mem_append, List.mem_map, List.mem_range] at hp
         rcases hp with ⟨a, ha, rfl⟩ | ⟨a, ha, rfl⟩ <;> omega
        have hs1 : (CS.mk (trL (renP (invR np nl) (tmL s0.tr ks))) (zipS (pnL np nl.length) lf) 1).den = ⟨mkT (renP (invR np nl) (tmL s0.tr ks)), mkS ((pnL np nl.length).zip lf), 1⟩ := by
         unfold CS.den
         rw [trL_get htl, zipS_get]
        rw [hs1] at hQ
        have H1 : ∀ ok sl X k x l, ROkI (pnL np nl.length) ok sl X k (roundI call T M mu N (pnL np nl.length) (renP (invR np nl) (tmL s0.tr ks)) ps.toList as0 bd x l) → ∀ C' : Cx P N, AW C' as0 (XThen (fun s' => AW C' bd (RPost (pnL np nl.length) ok sl X k) s') (fun _ _ => False)) ⟨setT (mkT (renP (invR np nl) (tmL s0.tr ks))) ps.toList x, mkS ((pnL np nl.length).zip l), 1⟩ := fun ok sl X k x l hr C' => roundI_ok hT hcl hpn htl hps hr C'
        have H2 : ∀ p ∈ numL (500 + np) nl, p.1 < 1000 := fun p hp => by have := numL_mem hp; omega
        have H3 := renP_all (g := lookG (numL (500 + np) nl) s0.nx) (gi := invR np nl) (tm := s0.tr.get) (tl := tmL s0.tr ks) tmL_mem e1
        generalize roundI call T M mu N (pnL np nl.length) (renP (invR np nl) (tmL s0.tr ks)) ps.toList as0 bd = rd at hw H1
        generalize renP (invR np nl) (tmL s0.tr ks) = tl at *
        refine rngI_core u.ns hF hd (pnL np nl.length) (numL (500 + np) nl) (hit _ _ _ _ _ hes he0) (by rw [← u1]; exact hg) u2 u3 u4 u5 (fun x hx => ?_) hb2 tl rd (obs.map Prod.snd) hb6 H1 hpn H2 H3 (all_mem fun p hp => ?_) (decide_eq_true hb7) (fun p hp => by have := List.all_eq_true.1 hb8 p hp; simp only [Bool.not_eq_true'] at this; exact inNs_mem this) hw hew hQ
        ·
         have := List.all_eq_true.1 hb1 x hx
         have := Nat.eq_of_beq_eq_true this
         simpa using this
        ·
         obtain ⟨i, h1, h2⟩ := zip_mem hp
         simp only [List.getElem?_map, Option.map_eq_some_iff] at h2
         obtain ⟨q, hq, hq2⟩ := h2
         obtain ⟨k, hk, hσ, hno⟩ := hget i q hq
         have hil := (List.getElem?_eq_some_iff.1 hq).1
         rw [hlen] at hil
         have hpl : (pinL np).length = np := by simp [pinL]
         simp only [List.length_append, hpl] at hil
         have hlk : lookG (numL (500 + np) nl) s0.nx p.1 = k := by
          unfold pnL at h1
          unfold lookG
          by_cases hi : i < np
          ·
           rw [List.getElem?_append_left oM] at h1 hk
           rw [hk] at h1
           injection h1 with h1
           have hkk : k = 500 + i := by
            unfold pinL at hk
            rw [List.getElem?_map, List.getElem?_range hi] at hk
            simp at hk; omega
           rw [← h1, numL_lt oM]
           exact if_pos oM
          ·
           rw [List.getElem?_append_right oM] at h1 hk
           rw [hpl] at h1 hk
           rw [List.getElem?_map, List.getElem?_range oM] at h1
           simp only [Option.map_some, Option.some.injEq] at h1
           rw [← h1, numL_find hk]
         refine ⟨q.1, by rw [hlk]; exact hσ, ?_⟩
         rw [← hq2]
         exact nOb_eq hno (cBackE_get hB hq)
       ·
        cases h2
      ·
       cases h2
     ·
      cases h
    ·
     cases h
   ·
    cases h
  ·
   cases h
 ·
  cases h
end
end Go.Ab

namespace Go.Ab
open Go.RowKit Go.Dw Go.Shelf
noncomputable section
def argT : Nat → List V → TR → TR
 | _, [], tr => tr
 | i, v :: l, tr => argT (i + 1) l (TR.put 10 tr i v)
theorem argT_get : ∀ (l : List V) (i : Nat) (tr : TR) (t : Nat), i + l.length ≤ 1000 → (argT i l tr).get t = if i ≤ t ∧ t < i + l.length then l.getD (t - i) .any else tr.get t
 | [], i, tr, t, _ => by simp only [argT, List.length_nil]; rw [if_neg oM]
 | v :: l, i, tr, t, h => by
  simp only [List.length_cons] at h
  simp only [argT, List.length_cons]
  rw [argT_get l (i + 1) _ t oM, TR.put_upd oM]
  by_cases h1 : t = i
  ·
   subst h1
   rw [if_neg oM, if_pos oM, upd_same, Nat.sub_self]
   rfl
  ·
   rw [upd_ne _ _ h1]
   by_cases h2 : i + 1 ≤ t ∧ t < i + 1 + l.length
   ·
    rw [if_pos h2, if_pos oM, show t - i = (t - (i + 1)) + 1 by omega]
    rfl
   ·
    rw [if_neg h2, if_neg oM]
def insS : Nat → List Ob → List (Nat × Option Ob)
 | _, [] => []
 | k, o :: l => (k, some o) :: insS (k + 1) l
theorem insS_get : ∀ (l : List Ob) (k i : Nat), lkS (insS k l) i = if k ≤ i then l[i - k]? else none
 | [], k, i => by simp [insS, lkS]
 | o :: l, k, i => by
  simp only [insS, lkS]
  split
  ·
   rename_i h
   have h := Nat.eq_of_beq_eq_true h
   subst h
   rw [if_pos (Nat.le_refl _), Nat.sub_self]; rfl
  ·
   rename_i h
   have h := Nat.ne_of_beq_eq_false h
   rw [insS_get l (k + 1) i]
   by_cases h2 : k ≤ i
   ·
    rw [if_pos h2, if_pos oM, show i - k = (i - (k + 1)) + 1 by omega]; rfl
   ·
    rw [if_neg h2, if_neg oM]
def startS (args : List V) (ins : List Ob) : CS := ⟨argT 0 args .e, insS 500 ins, 1⟩
theorem startS_den {args : List V} {ins : List Ob} (h : args.length ≤ 1000) : (startS args ins).den = ⟨fun t => args.getD t .any, insF ins, 1⟩ := by
 unfold CS.den startS
 congr 1
 ·
  funext t
  simp only
  rw [argT_get args 0 .e t oM, TR.get_e]
  simp only [Nat.zero_le, true_and, Nat.zero_add, Nat.sub_zero]
  split
  ·
   rfl
  ·
   rename_i h1
   rw [List.getD_eq_getElem?_getD, List.getElem?_eq_none oM]; rfl
 ·
  funext i
  exact insS_get ins 500 i
def resT (s : CS) : List ResultVar → List (Nat × V)
 | [] => []
 | .tmp t :: l => (t, s.tr.get t) :: resT s l
 | .cell a _ :: l => (a, s.tr.get a) :: resT s l
def outL (σ : Nat → Option Ob) (g : Nat → Nat) : Nat → Nat → List (Option (Ob × Ob))
 | _, 0 => []
 | k, n + 1 => (match σ k with
  | some o => match nOb g o with
   | some o' => some (o, o')
   | none => none
  | none => none) :: outL σ g (k + 1) n
def snds : List (Option (Ob × Ob)) → List (Option Ob)
 | [] => []
 | o :: l => o.map Prod.snd :: snds l
def backO (g : Nat → Nat) : List (Option (Ob × Ob)) → List (CE × CE)
 | [] => []
 | some p :: l => cBackE g [p] ++ backO g l
 | none :: l => backO g l
def stayL (g : Nat → Nat) : List Ob → List (CE × CE)
 | [] => []
 | o :: l => stayE g o ++ stayL g l
def stayO (g : Nat → Nat) : List (Option Ob) → List (CE × CE)
 | [] => []
 | some o :: l => stayE g o ++ stayO g l
 | none :: l => stayO g l
def cExL : Nat → List (Ob × Ob) → List (Nat × Ob)
 | _, [] => []
 | k, p :: l => (k, p.2) :: cExL (k + 1) l
theorem cExL_mem : ∀ {l : List (Ob × Ob)} {k : Nat} {p : Nat × Ob}, p ∈ cExL k l → ∃ (i : Nat) (q : Ob × Ob), l[i]? = some q ∧ p.1 = k + i ∧ p.2 = q.2
 | [], _, _, h => by simp [cExL] at h
 | q :: l, k, p, h => by
  rcases List.mem_cons.1 h with rfl | h
  ·
   exact ⟨0, q, rfl, rfl, rfl⟩
  ·
   obtain ⟨i, q', h1, h2, h3⟩ := cExL_mem h
   exact ⟨i + 1, q', by simpa using h1, by omega, h3⟩
def cRet2 (T : List TI) (fn : Func) (n : Nat) (s : CS) (nl : List Nat) (tl : List (Nat × V)) (m : Nat) (all : List (Ob × Ob)) (outs : List (Option (Ob × Ob))) : Option CR :=
 match decide (((slO 0 (((all.take m).map Prod.snd).map some) ++ (slO 500 (snds outs) ++ cExL m (all.drop m))).map fun p => lookG (numL 0 nl) s.nx p.1).Nodup) && ((numL 0 nl).all (fun p => decide (p.1 < 500)) && (decide (((all.take m).map Prod.snd).length ≤ 90) && Nat.ble nl.length 400)) with
 | true => match resV T ⟨mkT (renP (invN nl) tl), mkS (slO 0 (((all.take m).map Prod.snd).map some) ++ (slO 500 (snds outs) ++ cExL m (all.drop m))), 1⟩ fn.results.toList with
  | some v => some ⟨v, snds outs, (all.take m).map Prod.snd, .lf ((.vs (vals tl), .vs (V.renL (lookG (numL 0 nl) s.nx) (vals (renP (invN nl) tl)))) ::
    (.vs [v], .vs [v.ren (clampM ((all.take m).map Prod.snd).length n 1)]) :: (cBackE (lookG (numL 0 nl) s.nx) all ++ (backO (lookG (numL 0 nl) s.nx) outs ++ (stayL (clampM ((all.take m).map Prod.snd).length n 1) ((all.take m).map Prod.snd) ++ stayO (clampM ((all.take m).map Prod.snd).length n 1) (snds outs)))))⟩
  | none => none
 | false => none
def cRet1 (T : List TI) (fn : Func) (n : Nat) (s : CS) (nl : List Nat) (tl : List (Nat × V)) (m : Nat) : Option CR :=
 match insL (lkS s.sl) (invN nl) nl with
 | some all => cRet2 T fn n s nl tl m all (outL (lkS s.sl) (invN nl) 500 n)
 | none => none
def cRet0 (T : List TI) (fn : Func) (n : Nat) (s : CS) (nv : List Nat) : Option CR :=
 cRet1 T fn n s (nv ++ notIn (pinL n ++ nv) (reachN (lkS s.sl) 1000 (idsP (resT s fn.results.toList)) [])) (resT s fn.results.toList) nv.length
def cRet (T : List TI) (fn : Func) (n : Nat) (s : CS) : Option CR := match resV T s.den fn.results.toList with
 | some v0 => cRet0 T fn n s (notIn (pinL n) (reachN (lkS s.sl) 1000 (v0.ids ++ pinL n) []))
 | none => none
theorem outL_get {σ : Nat → Option Ob} {g : Nat → Nat} : ∀ {n k i : Nat} {p : Ob × Ob}, (outL σ g k n)[i]? = some (some p) → i < n ∧ σ (k + i) = some p.1 ∧ nOb g p.1 = some p.2
 | 0, _, _, _, h => by simp [outL] at h
 | n + 1, k, 0, p, h => by
  simp only [outL, List.getElem?_cons_zero, Option.some.injEq] at h
  split at h
  ·
   rename_i o ho
   split at h
   ·
    rename_i o' ho'
    simp only [Option.some.injEq] at h
    subst h
    exact ⟨by omega, ho, ho'⟩
   ·
    cases h
  ·
   cases h
 | n + 1, k, i + 1, p, h => by
  simp only [outL, List.getElem?_cons_succ] at h
  obtain ⟨h1, h2, h3⟩ := outL_get h
  exact ⟨by omega, by rw [← h2]; congr 1; omega, h3⟩
theorem outL_len {σ : Nat → Option Ob} {g : Nat → Nat} : ∀ {n k : Nat}, (outL σ g k n).length = n
 | 0, _ => rfl
 | n + 1, k => by simp [outL, outL_len]
theorem snds_get : ∀ {l : List (Option (Ob × Ob))} {i : Nat} {o : Option Ob}, (snds l)[i]? = some o → ∃ q, l[i]? = some q ∧ o = q.map Prod.snd
 | [], _, _, h => by simp [snds] at h
 | q :: l, 0, o, h => by simp [snds] at h; exact ⟨q, rfl, h.symm⟩
 | q :: l, i + 1, o, h => by simpa using snds_get (l := l) (by simpa [snds] using h)
theorem snds_len : ∀ {l : List (Option (Ob × Ob))}, (snds l).length = l.length
 | [] => rfl
 | _ :: l => by simp [snds, snds_len]
theorem backO_get {g : Nat → Nat} : ∀ {l : List (Option (Ob × Ob))}, EqE (backO g l) → ∀ {i : Nat} {p : Ob × Ob}, l[i]? = some (some p) → EqE (cBackE g [p])
 | some q :: l, h, 0, p, hp => by simp at hp; subst hp; exact h.l
 | none :: l, h, 0, p, hp => by simp at hp
 | some q :: l, h, i + 1, p, hp => backO_get h.r (by simpa using hp)
 | none :: l, h, i + 1, p, hp => backO_get (l := l) h (by simpa using hp)
theorem stayL_get {g : Nat → Nat} : ∀ {l : List Ob}, EqE (stayL g l) → ∀ {i : Nat} {o : Ob}, l[i]? = some o → EqE (stayE g o)
 | q :: l, h, 0, p, hp => by simp at hp; subst hp; exact h.l
 | q :: l, h, i + 1, p, hp => stayL_get h.r (by simpa using hp)
theorem stayO_get {g : Nat → Nat} : ∀ {l : List (Option Ob)}, EqE (stayO g l) → ∀ {i : Nat} {o : Ob}, l[i]? = some (some o) → EqE (stayE g o)
 | some q :: l, h, 0, p, hp => by simp at hp; subst hp; exact h.l
 | none :: l, h, 0, p, hp => by simp at hp
 | some q :: l, h, i + 1, p, hp => stayO_get h.r (by simpa using hp)
 | none :: l, h, i + 1, p, hp => stayO_get (l := l) h (by simpa using hp)
theorem resT_mem {s : CS} : ∀ {rs : List ResultVar}, ∀ p ∈ resT s rs, s.tr.get p.1 = p.2
 | [], p, h => by simp [resT] at h
 | .tmp t :: l, p, h => by
  rcases List.mem_cons.1 h with rfl | h
  ·
   rfl
  ·
   exact resT_mem (rs := l) p h
 | .cell a _ :: l, p, h => by
  rcases List.mem_cons.1 h with rfl | h
  ·
   rfl
  ·
   exact resT_mem (rs := l) p h
theorem okR_same {g : Nat → Nat} {l : List (Option Ob)} (h : ∀ (i : Nat) (o : Ob), l[i]? = some (some o) → o.ren g = o) : okR g l = l := by
 unfold okR
 refine List.ext_getElem? fun i => ?_
 rw [List.getElem?_map]
 cases hi : l[i]? with
 | none => rfl
 | some o =>
  cases o with
  | none => rfl
  | some o => simp [h i o hi]
theorem takeG {l : List (Ob × Ob)} {m i : Nat} {q : Ob × Ob} (h : (l.take m)[i]? = some q) : l[i]? = some q := by
 rw [List.getElem?_take] at h
 split at h
 ·
  exact h
 ·
  cases h
theorem cRet_ok {T : List TI} {fn : Func} {n : Nat} {s : CS} {r : CR} {e : Exit} (hn : n ≤ 400) (he : e = .normal ∨ e = .ret) (h : cRet T fn n s = some r) (hE : EqT r.e) :
  RetPostM T fn n r.v r.outs r.obs e s.den ∧ r.outs.length = n ∧ r.obs.length ≤ 90 := by
 unfold cRet at h
 split at h
 ·
  unfold cRet0 at h
  generalize notIn (pinL n) _ = nv at h
  generalize nv ++ notIn _ _ = nl at h
  generalize nv.length = m at h
  unfold cRet1 at h
  split at h
  ·
   rename_i obs hobs
   unfold cRet2 at h
   split at h
   ·
    rename_i hb
    split at h
    ·
     rename_i v hv
     injection h with h; subst h
     simp only [Bool.and_eq_true] at hb
     obtain ⟨hb1, hb2, hb3, hb4⟩ := hb
     have hob := of_decide_eq_true hb3
     obtain ⟨hlen, hget⟩ := insL_get hobs
     have hnl := Nat.le_of_ble_eq_true hb4
     have hE' : EqE _ := hE
     have e1 := hE'.hd
     injection e1 with e1
     have e2 := hE'.tl.hd
     injection e2 with e2
     have hB := hE'.tl.tl.l
     have hO := hE'.tl.tl.r.l
     have hS := hE'.tl.tl.r.r.l
     have hSO := hE'.tl.tl.r.r.r
     simp only [V.renL, List.cons.injEq, and_true] at e2
     refine ⟨retMx (tm := s.tr.get) (σ := lkS s.sl) (nx := s.nx) (numL 0 nl) (renP (invN nl) (resT s fn.results.toList)) (cExL m (obs.drop m)) he (renP_all resT_mem e1) (all_mem fun p hp => ?_) hb1 hb2 hb3 hv rfl e2.symm (okR_same fun i o hi => ?_), by rw [snds_len, outL_len], hob⟩
     ·
      rcases List.mem_append.1 hp with hp | hp
      ·
       obtain ⟨i, h1, h2⟩ := slO_mem hp
       simp only [List.getElem?_map, Option.map_eq_some_iff] at h2
       obtain ⟨o', ⟨q, hq, rfl⟩, h4⟩ := h2
       injection h4 with h4
       have hq := takeG hq
       obtain ⟨k, hk, hσ, hno⟩ := hget i q hq
       have hg : lookG (numL 0 nl) s.nx p.1 = k := by
        unfold lookG
        rw [h1, numL_find hk]
       refine ⟨q.1, by rw [hg]; exact hσ, ?_⟩
       rw [← h4]
       exact nOb_eq hno (cBackE_get hB hq)
      rcases List.mem_append.1 hp with hp | hp
      rotate_left
      ·
       obtain ⟨i, q, hq, h1, h2⟩ := cExL_mem hp
       rw [List.getElem?_drop] at hq
       obtain ⟨k, hk, hσ, hno⟩ := hget (m + i) q hq
       have hg : lookG (numL 0 nl) s.nx p.1 = k := by
        unfold lookG
        rw [h1, show m + i = 0 + (m + i) by omega, numL_find hk]
       refine ⟨q.1, by rw [hg]; exact hσ, ?_⟩
       rw [h2]
       exact nOb_eq hno (cBackE_get hB hq)
      ·
       obtain ⟨i, h1, h2⟩ := slO_mem hp
       obtain ⟨q, hq, hq2⟩ := snds_get h2
       cases q with
       | none => cases hq2
       | some q =>
        simp only [Option.map_some, Option.some.injEq] at hq2
        obtain ⟨hin, hσ, hno⟩ := outL_get hq
        have hg : lookG (numL 0 nl) s.nx p.1 = 500 + i := by
         unfold lookG
         rw [h1, numL_none oM]
         exact if_pos oM
        refine ⟨q.1, by rw [hg]; exact hσ, ?_⟩
        rw [hq2]
        exact nOb_eq hno (backO_get hO hq)
     ·
      by_cases hlt : i < ((obs.take m).map Prod.snd).length
      ·
       rw [List.getElem?_append_left (by simpa using hlt)] at hi
       simp only [List.getElem?_map, Option.map_eq_some_iff] at hi
       obtain ⟨o', ⟨q, hq, rfl⟩, h4⟩ := hi
       injection h4 with h4
       have hq0 := hq
       have hq := takeG hq
       obtain ⟨k, hk, hσ, hno⟩ := hget i q hq
       rw [← h4]
       exact nOb_stay hno (stayL_get hS (i := i) (by rw [List.getElem?_map, hq0]; rfl))
      ·
       rw [List.getElem?_append_right (by simpa using Nat.le_of_not_lt hlt)] at hi
       obtain ⟨q, hq, hq2⟩ := snds_get hi
       cases q with
       | none => cases hq2
       | some q =>
        simp only [Option.map_some, Option.some.injEq] at hq2
        obtain ⟨hin, hσ, hno⟩ := outL_get hq
        rw [hq2]
        rw [hq2] at hi
        exact nOb_stay hno (stayO_get hSO hi)
    ·
     cases h
   ·
    cases h
  ·
   cases h
 ·
  cases h
def fzV : Ob → V
 | .row _ sz n f => .sl sz n f
 | .box _ cs => .ptr cs
 | .mp _ _ => .any
def fzA : Nat → List Ob → List V → List V
 | _, [], args => args
 | k, o :: l, args => fzA (k + 1) l (V.fzL k (fzV o) args)
def idfO : List Ob → Bool
 | [] => true
 | .row _ _ n f :: l => match ((List.range n).map f).all V.idfL with
  | true => idfO l
  | false => false
 | .box _ cs :: l => match V.idfL cs with
  | true => idfO l
  | false => false
 | .mp _ _ :: _ => false
theorem idfO_get : ∀ {l : List Ob}, idfO l = true → ∀ {i : Nat} {o : Ob}, l[i]? = some o → match o with
  | .row _ _ n f => ∀ i, i < n → V.idfL (f i) = true
  | .box _ cs => V.idfL cs = true
  | .mp _ _ => False
 | [], _, i, o, hi => by simp at hi
 | .row e sz n f :: l, h, i, o, hi => by
  simp only [idfO] at h
  split at h
  ·
   rename_i ha
   cases i with
   | zero =>
    simp at hi; subst hi
    intro j hj
    have := rowOf_idf ha j
    rwa [rowOf_map hj] at this
   | succ i => exact idfO_get h (by simpa using hi)
  ·
   cases h
 | .box t cs :: l, h, i, o, hi => by
  simp only [idfO] at h
  split at h
  ·
   rename_i ha
   cases i with
   | zero => simp at hi; subst hi; exact ha
   | succ i => exact idfO_get h (by simpa using hi)
  ·
   cases h
 | .mp _ _ :: l, h, i, o, hi => by simp [idfO] at h
theorem RV_fz {w : World} {L : Nat → Prop} {ρ : Nat → Option Value} {id : Nat} {v0 : V} (h0 : ∀ y, ρ id = some y → R w L ρ v0 y) {us : List V} {xs : List Value} (h : RV w L ρ us xs) : RV w L ρ (V.fzL id v0 us) xs := by
 refine ⟨by rw [V.fzL_len]; exact h.1, fun i u x hu hx => ?_⟩
 rw [V.fzL_get] at hu
 cases hc : us[i]? with
 | none => rw [hc] at hu; cases hu
 | some a =>
  rw [hc] at hu
  simp only [Option.map_some, Option.some.injEq] at hu
  subst hu
  exact R_fz h0 _ _ (h.2 i a x hc hx)
theorem RV_fzA {w : World} {L : Nat → Prop} {ρ : Nat → Option Value} {xs : List Value} : ∀ (l : List Ob) (k : Nat) (us : List V), (∀ i o, l[i]? = some o → ∀ y, ρ (k + i) = some y → R w L ρ (fzV o) y) → RV w L ρ us xs → RV w L ρ (fzA k l us) xs
 | [], _, _, _, h => h
 | o :: l, k, us, h0, h => RV_fzA l (k + 1) _ (fun i o' hi y hy => h0 (i + 1) o' (by simpa using hi) y (by rw [← hy]; congr 1; omega)) (RV_fz (fun y hy => h0 0 o rfl y hy) h)
theorem AM.keep {P : Program} {f : FuncId} {args : List V} {ins : List Ob} {v : V} (h : AM P f (fzA 500 ins args) [] v [] []) (hi : V.idfL (fzA 500 ins args) = true) (hi2 : idfO ins = true) (hv : v.flatT = true) : AM P f args ins v (ins.map some) [] := by
 refine ⟨h.1, fun W LB L w ρ vs hwl hWL hG hρ hvs => ?_⟩
 have hins : ∀ i o, ins[i]? = some o → insF ins (500 + i) = some o := fun i o hi => by
  unfold insF; rw [if_pos oM, Nat.add_sub_cancel_left]; exact hi
 obtain ⟨Lx, hLx⟩ : ∃ Lx : Nat → Prop, ∀ b, Lx b ↔ L b ∨ ∃ i x, i < ins.length ∧ ρ (500 + i) = some x ∧ blk x = some b := ⟨_, fun _ => Iff.rfl⟩
 have hobj : ∀ i o, ins[i]? = some o → ∃ y, ρ (500 + i) = some y ∧ (∀ k, blk y = some k → k < w.heap.size ∧ W k ∧ ¬ L k) ∧ R w Lx ρ (fzV o) y := by
  intro i o hio
  have hlt := (List.getElem?_eq_some_iff.1 hio).1
  have hr := hG.ob _ _ (hins i o hio)
  have hc := idfO_get hi2 hio
  have fin : ∀ u y, ρ (500 + i) = some y → (∀ k, blk y = some k → k < w.heap.size ∧ W k ∧ ¬ L k) → R w (fun b => L b ∨ blk y = some b) ρ u y → ∃ y, ρ (500 + i) = some y ∧ (∀ k, blk y = some k → k < w.heap.size ∧ W k ∧ ¬ L k) ∧ R w Lx ρ u y := fun u y h1 h2 h3 =>
   ⟨y, h1, h2, h3.ext ⟨fun b hb => ⟨(hLx b).2 (hb.imp id fun h => ⟨i, y, hlt, h1, h⟩), rfl⟩, fun _ _ h => h⟩⟩
  cases o with
  | row e sz n row =>
   obtain ⟨y, h1, h2, h3⟩ := hr.slice hc
   exact fin _ y h1 h2 h3
  | box t cs =>
   obtain ⟨y, h1, h2, h3⟩ := hr.ptr hc
   exact fin _ y h1 h2 h3
  | mp _ _ => exact hc.elim
 have hLb : ∀ b, Lx b → b < w.heap.size := fun b hb => by
  rcases (hLx b).1 hb with hb | ⟨i, x, hil, hx, hbx⟩
  ·
   exact (hG.ll b hb).1
  ·
   obtain ⟨y, h1, h2, _⟩ := hobj i _ (List.getElem?_eq_getElem hil)
   rw [h1] at hx; injection hx with hx; subst hx
   exact (h2 b hbx).1
 have ex : Ext w L ρ w Lx ρ := ⟨fun b hb => ⟨(hLx b).2 (.inl hb), rfl⟩, fun _ _ h => h⟩
 have hrv : RV w Lx ρ0 (fzA 500 ins args) vs.toList := by
  refine RV.free (ρ := ρ) ?_ hi
  refine RV_fzA ins 500 args (fun i o hio y hy => ?_) ⟨hvs.1, fun i u x hu hx => (hvs.2 i u x hu hx).ext ex⟩
  obtain ⟨y', h1, _, h3⟩ := hobj i o hio
  rw [h1] at hy; injection hy with hy; subst hy; exact h3
 refine (h.2 (fun b => w.heap.size ≤ b) (fun b => Lx b ∨ w.heap.size ≤ b) Lx w ρ0 vs (fun b hb => .inr hb) (fun b hb hL => by have := hLb b hL; omega) ⟨fun b hb => ⟨hLb b hb, .inl hb⟩, fun b hb => ⟨hb, .inr hb⟩, (fun id o ho => by unfold insF at ho; split at ho <;> simp at ho), (fun i j x y k _ _ _ hx => by cases hx), hG.glE ex⟩ (fun _ _ => rfl) hrv).mono ?_
 rintro e w' ⟨x, rfl, ht, L', ρ', hG', hE', hx, hnn⟩
 have hbel : Below w.heap.size w w' := ht.below (Nat.le_refl _) fun j hj hW => by have hW' : w.heap.size ≤ j := hW; omega
 obtain ⟨hG2, ex2⟩ := hG.quiet hbel (L' := L) (fun _ h => h) (fun _ h => .inl h)
 have eo : outF (ins.map some) [] = insF ins := by
  funext id
  unfold outF insF
  by_cases h5 : 500 ≤ id
  ·
   rw [if_pos h5, if_pos h5, List.getElem?_map]
   cases ins[id - 500]? <;> rfl
  ·
   rw [if_neg h5, if_neg h5]; simp
 refine ⟨x, rfl, Tch.of_below hbel fun k _ hk => (hG.new k hk).1, L, ρ, ?_, ex2, hx.flatT hv, fun j _ hj => hρ j hj⟩
 rw [eo]; exact hG2
theorem am_introN {T : List TI} {P : Program} (hT : TabOk T P) (hmx : P.follows .mixedOrders = true) {f : FuncId} {fn : Func} {c : Code} {N : Nat} (hk : FnOk P f fn c N) {args : List V} {ins : List Ob} {v : V} {obs : List Ob} (hargs : args.length ≤ N) (hn4 : ins.length ≤ 400) (ho9 : obs.length ≤ 90)
  (h : ∀ C : Cx P N, C.F = Fence.wide → C.dfs = dp0 → AW C c (RetPostM T fn 0 v [] obs) ⟨fun t => args.getD t .any, insF ins, 1⟩) : AM P f args ins v (ins.map fun _ => none) obs := by
 refine ⟨hk.call, fun W LB L w ρ vs hwl hWL hG hρn hvs => ?_⟩
 obtain ⟨C, hW, hLB, hd, hFw⟩ : ∃ C : Cx P N, C.W = W ∧ C.LB = LB ∧ C.dfs = dp0 ∧ C.F = Fence.wide := ⟨⟨W, LB, hwl, dp0, hmx, Fence.wide, .inl rfl⟩, rfl, rfl, rfl, rfl⟩
 have hvl : vs.size = args.length := by have := hvs.1; simpa using this.symm
 refine callsIn_wide.1 (callsIn_of_wp_marks (n := 0) hk.hf hk.hb trivial ?_ rfl)
 have hw := h C hFw hd
 unfold AW at hw
 rw [hFw] at hw
 refine wpIn_mono (hw _ w ⟨L, ρ, ⟨?_, fun id hid => ?_, fun t => ?_, ?_, ?_, fun id x hp => ?_⟩⟩) ?_
 ·
  rw [hW, hLB]; exact hG
 ·
  have hid' : 1 * 100000 ≤ id := hid
  exact hρn id (.inr oM)
 ·
  by_cases ht : t < args.length
  ·
   have h1 : args[t]? = some args[t] := List.getElem?_eq_getElem ht
   obtain ⟨x, hx, hr⟩ := hvs.get h1
   have e1 : args.getD t .any = args[t] := by simp [List.getD_eq_getElem?_getD, h1]
   have e2 : (vs ++ Array.replicate (fn.ntmps - vs.size) undef).getD t undef = x := by
    rw [Array.getD_eq_getD_getElem?, Array.getElem?_append_left oM]
    have : vs[t]? = some x := by simpa using hx
    rw [this]; rfl
   show R w L ρ (args.getD t .any) _
   rw [e1, e2]; exact hr
  ·
   have e1 : args.getD t .any = .any := by simp [List.getD_eq_getElem?_getD, List.getElem?_eq_none (Nat.le_of_not_lt ht)]
   show R w L ρ (args.getD t .any) _
   rw [e1]; exact .any _ _
 ·
  rw [← hk.hn] at hargs ⊢
  simp; omega
 ·
  exact ⟨[], by rw [hd]; rfl, by simp, by simp⟩
 ·
  rw [hd] at hp; cases hp
 ·
  rintro e a' w' ⟨s', ⟨he, s'', hle, hres, hob, hout, hcv, hco, hcu⟩, g', t⟩
  obtain ⟨L', ρ', g''⟩ := hle C a' w' g'
  rw [hW] at t
  obtain ⟨Ds, d1, d2, d3⟩ := g''.defers
  rw [hd, show dp0.tl = [] from rfl, List.append_nil] at d1
  refine end_marks' Ds he d1 d2 (fun D hD => (d3 D hD).1) fun w2 ht2 => ?_
  obtain ⟨g2, e2⟩ := g''.g.marks ht2 d3
  obtain ⟨x, hx, hr⟩ := resV_run hT g2 (fun t => (g''.tm t).ext e2) fn hres
  have hWD : ∀ D ∈ Ds, W D := fun D hD => by have := (d3 D hD).2.1; rw [hW] at this; exact this
  have tt : Tch W w w2 := t.trans (ht2.mono fun k _ hkD => hWD k hkD)
  refine ⟨x, hx, x, rfl, tt, ?_⟩
  have hr2 : R w2 L' (fun i => ρ' (clampM obs.length 0 s''.nx i)) v x := R_ren _ _ _ (by rw [hcv]; exact hr)
  have hlt : ∀ i, i < obs.length → clampM obs.length 0 s''.nx i = i := fun i hi => by unfold clampM; rw [if_pos (.inl hi)]
  have hoF : ∀ id o, outF (ins.map fun _ => none) obs id = some o → s''.σ id = some o ∧ clampM obs.length 0 s''.nx id = id ∧ o.ren (clampM obs.length 0 s''.nx) = o := by
   intro id o ho
   unfold outF at ho
   split at ho
   ·
    rename_i h5
    rw [List.getElem?_map] at ho
    cases hq : ins[id - 500]? with
    | none => rw [hq] at ho; cases ho
    | some q => rw [hq] at ho; cases ho
   ·
    exact ⟨hob id o ho, hlt id (List.getElem?_eq_some_iff.1 ho).1, hco o (List.mem_of_getElem? ho)⟩
  have hfr : ∀ i, obs.length ≤ i → ρ' (clampM obs.length 0 s''.nx i) = none := fun i hi => by
   have e3 : clampM obs.length 0 s''.nx i = s''.nx * 100000 + i := if_neg oM
   rw [e3]
   exact g''.fr _ (by unfold freshA; omega)
  obtain ⟨ρ2, hρ2⟩ : ∃ ρ2 : Nat → Option Value, ∀ i, ρ2 i = if 500 ≤ i ∧ i < 500 + ins.length then ρ i else ρ' (clampM obs.length 0 s''.nx i) := ⟨_, fun _ => rfl⟩
  have hρlt : ∀ i, i < 500 → ρ2 i = ρ' (clampM obs.length 0 s''.nx i) := fun i hi => by rw [hρ2, if_neg oM]
  have hE2 : Ext w2 L' (fun i => ρ' (clampM obs.length 0 s''.nx i)) w2 (fun b => L' b ∨ L b) ρ2 := ⟨fun b hb => ⟨.inl hb, rfl⟩, fun id v hv => by
   by_cases hi : id < obs.length
   ·
    rw [hρlt id oM]; exact hv
   ·
    have hv : ρ' (clampM obs.length 0 s''.nx id) = some v := hv
    rw [hfr id oM] at hv; cases hv⟩
  refine ⟨fun b => L' b ∨ L b, ρ2, ⟨fun b hb => ?_, fun b hb => ?_, fun id o ho => ?_, fun i j x y k hij hi hj => ?_, g2.glL hE2.l⟩, ⟨fun b hb => ⟨.inr hb, tt.block b (hG.ll b hb).1 fun hc => hWL b hc hb⟩, fun id x hx => ?_⟩, hr2.ext hE2, fun j hj hj5 => ?_⟩
  ·
   rcases hb with hb | hb
   ·
    have := g2.ll b hb
    rw [hLB] at this
    exact ⟨this.1, this.2⟩
   ·
    exact ⟨Nat.lt_of_lt_of_le (hG.ll b hb).1 tt.size, (hG.ll b hb).2⟩
  ·
   exact hG.new b (Nat.le_trans tt.size hb)
  ·
   obtain ⟨q1, q2, q3⟩ := hoF id o ho
   have hr0 := g2.ob id o q1
   rw [hW] at hr0
   have hr : Real W w2 L' (fun i => ρ' (clampM obs.length 0 s''.nx i)) id o := Real.ren (by rw [q2, q3]; exact hr0)
   obtain ⟨y, hy, hy2⟩ := hr.lt
   refine hr.keep hE2 fun x k hx hk => ?_
   rw [hx] at hy; injection hy with hy; subst hy
   refine ⟨rfl, ?_⟩
   rintro (h1 | h1)
   ·
    exact (hy2 k hk).2.2 h1
   ·
    exact hWL k (hy2 k hk).2.1 h1
  ·
   have key : ∀ i, outF (ins.map fun _ => none) obs i ≠ none → s''.σ i ≠ none ∧ clampM obs.length 0 s''.nx i = i ∧ i < 500 := fun i hi => by
    cases ho : outF (ins.map fun _ => none) obs i with
    | none => exact absurd ho hi
    | some o =>
     obtain ⟨q1, q2, _⟩ := hoF i o ho
     refine ⟨by rw [q1]; simp, q2, ?_⟩
     unfold outF at ho
     split at ho
     ·
      rw [List.getElem?_map] at ho
      cases hq : ins[i - 500]? with
      | none => rw [hq] at ho; cases ho
      | some q => rw [hq] at ho; cases ho
     ·
      omega
   rw [hρlt i (key i hi).2.2, hρlt j (key j hj).2.2, (key i hi).2.1, (key j hj).2.1]
   exact g2.sep i j x y k hij (key i hi).1 (key j hj).1
  ·
   by_cases h5 : 500 ≤ id ∧ id < 500 + ins.length
   ·
    rw [hρ2, if_pos h5]; exact hx
   ·
    rw [hρn id oM] at hx; cases hx
  ·
   rw [hρ2, if_neg oM]
   exact hfr j hj
abbrev ML : Type := List (FuncId × List Nat)
def lkM : ML → FuncId → List Nat
 | [], _ => []
 | (k, m) :: l, f => match Nat.beq f k with
  | true => m
  | false => lkM l f
def entS (mu : List Nat) (f : FuncId) (args : List V) (ins : List Ob) : CS := match inNs mu f with
 | true => startS args ins
 | false => frzL (startS args ins) ((List.range ins.length).map (500 + ·))
theorem entS_le (mu : List Nat) (f : FuncId) (args : List V) (ins : List Ob) : Le (startS args ins).den (entS mu f args ins).den := by
 unfold entS
 split
 ·
  exact Le.refl _
 ·
  exact frzL_le _ _
def rngB (call : Clr) (itr : Itr) (itrI : ItrU) (T : List TI) (M mu : List Nat) (N np : Nat) : Rng := fun g ps as0 bd s => match np with
 | 0 => match rngIE call itrI T M mu N 0 g ps as0 bd s with
  | some r => some r
  | none => rngE call itr T M mu N 0 g ps as0 bd s
 | k + 1 => rngE call itr T M mu N (k + 1) g ps as0 bd s
theorem rngB_ok {P : Program} {N : Nat} {C : Cx P N} {T : List TI} {M mu : List Nat} {call : Clr} {itr : Itr} {itrI : ItrU} {np : Nat} (hT : TabOk T P) (hcl : ClrOk P call) (hit : ItrOk P itr) (hitI : ItrOkI P itrI) (hF : C.F = Fence.wide) (hpin : ∀ id x, C.dfs.pin id = some x → 500 ≤ id ∧ id < 500 + np) (htl : C.dfs.tl = []) : RngOk C (rngB call itr itrI T M mu N np) := by
 intro g ps as0 bd s e s' t h he Q hQ
 unfold rngB at h
 split at h
 ·
  split at h
  ·
   rename_i r hr
   injection h with h; subst h
   have hd : C.dfs = dp0 := by
    have hp : C.dfs.pin = fun _ => none := by
     funext id
     cases hx : C.dfs.pin id with
     | none => rfl
     | some x => have := hpin id x hx; omega
    generalize C.dfs = D at hp htl
    cases D
    simp only at hp htl
    subst hp htl
    rfl
   exact rngIE_ok hT hcl hitI hF hd _ _ _ _ _ _ _ _ hr he Q hQ
  ·
   exact rngE_ok hT hcl hit hF hpin _ _ _ _ _ _ _ _ h he Q hQ
 ·
  exact rngE_ok hT hcl hit hF hpin _ _ _ _ _ _ _ _ h he Q hQ
def cEnd (T : List TI) (fn : Func) (n : Nat) (r : Exit × CS × CT) : Option CR := match r.1 with
 | .ret => oE (cRet T fn n r.2.1) none fun q => some ⟨q.v, q.outs, q.obs, cNd r.2.2 q.e⟩
 | .normal => oE (cRet T fn n r.2.1) none fun q => some ⟨q.v, q.outs, q.obs, cNd r.2.2 q.e⟩
 | _ => none
def cFun (call : Clr) (itr : Itr) (itrI : ItrU) (T : List TI) (M mu : List Nat) (f : FuncId) (fn : Func) (c : Code) (args : List V) (ins : List Ob) : Option CR :=
 oE (evalC call (rngB call itr itrI T M mu fn.ntmps ins.length) T M mu fn.ntmps c (entS mu f args ins)) none (cEnd T fn ins.length)
def cKeep (o : Option CR) (ins : List Ob) (els : Option CR) : Option CR := match o with
 | some r => match r.outs with
  | [] => match r.obs with
   | [] => match r.v.flatT with
    | true => some ⟨r.v, ins.map some, [], r.e⟩
    | false => els
   | _ :: _ => els
  | _ :: _ => els
 | none => none
def cEndN (T : List TI) (fn : Func) (ins : List Ob) (r : Exit × CS × CT) : Option CR := match r.1 with
 | .ret => oE (cRet T fn 0 r.2.1) none fun q => some ⟨q.v, ins.map fun _ => none, q.obs, cNd r.2.2 q.e⟩
 | .normal => oE (cRet T fn 0 r.2.1) none fun q => some ⟨q.v, ins.map fun _ => none, q.obs, cNd r.2.2 q.e⟩
 | _ => none
def cFunN (call : Clr) (itr : Itr) (itrI : ItrU) (T : List TI) (M mu : List Nat) (f : FuncId) (fn : Func) (c : Code) (args : List V) (ins : List Ob) : Option CR :=
 oE (evalC call (rngB call itr itrI T M mu fn.ntmps 0) T M mu fn.ntmps c (entS mu f args ins)) none (cEndN T fn ins)
def cFun2 (call : Clr) (itr : Itr) (itrI : ItrU) (T : List TI) (M mu : List Nat) (f : FuncId) (fn : Func) (c : Code) (args : List V) (ins : List Ob) : Option CR := match ins with
 | [] => cFun call itr itrI T M mu f fn c args []
 | o :: l => match inNs mu f with
  | true => cFun call itr itrI T M mu f fn c args (o :: l)
  | false => match idfO (o :: l) && V.idfL (fzA 500 (o :: l) args) with
   | true => cKeep (cFun call itr itrI T M mu f fn c (fzA 500 (o :: l) args) []) (o :: l) (cFun call itr itrI T M mu f fn c args (o :: l))
   | false => match cFun call itr itrI T M mu f fn c args (o :: l) with
    | some r => some r
    | none => cFunN call itr itrI T M mu f fn c args (o :: l)
def itrS (caps : List V) (l : Nat) : CS := startS (V.c (.func (.yield l) #[] #[]) :: caps) []
theorem itrS_den {caps : List V} {l : Nat} (h : caps.length + 1 ≤ 1000) : (itrS caps l).den = ⟨fun t => ((V.c (.func (.yield l) #[] #[])) :: caps).getD t .any, fun _ => none, 1⟩ := by
 have h1 := startS_den (args := V.c (.func (.yield l) #[] #[]) :: caps) (ins := []) (by simpa using h)
 have e : insF [] = fun _ => none := by
  funext i
  unfold insF
  split <;> simp
 rw [e] at h1
 exact h1
def itrSU (caps : List V) (ins : List Ob) (l : Nat) : CS := startS (V.c (.func (.yield l) #[] #[]) :: caps) ins
theorem itrSU_den {caps : List V} {ins : List Ob} {l : Nat} (h : caps.length + 1 ≤ 1000) : (itrSU caps ins l).den = ⟨fun t => ((V.c (.func (.yield l) #[] #[])) :: caps).getD t .any, insF ins, 1⟩ :=
 startS_den (args := V.c (.func (.yield l) #[] #[]) :: caps) (ins := ins) (by simpa using h)
def itrRU (call : Clr) (T : List TI) (M mu : List Nat) (N : Nat) (c : Code) (caps : List V) (ins : List Ob) (l : Nat) : Option (List (List V) × CT) := jRun true call T M mu N l 20000 (.code c [] (itrSU caps ins l))
def cItrU (P : Program) (T : List TI) (M : ML) (mu : List Nat) (call : Clr) : ItrU := fun f caps ins => match P.funcs[f]? with
 | some fn => match fn.body with
  | some c => match fn.name == "runtime.NumGoroutine" with
   | false => match fn.results with
    | ⟨[]⟩ => match Nat.ble (caps.length + 1) 1000 && (Nat.ble (caps.length + 1) fn.ntmps && Nat.ble ins.length 400) with
     | true => match itrRU call T (lkM M f) mu fn.ntmps c caps ins 0 with
      | some (es, _) => some (es, .lf [(.ys fun l => jVal (itrRU call T (lkM M f) mu fn.ntmps c caps ins l), .ys fun _ => some es), (.n fun l => (jTr (itrRU call T (lkM M f) mu fn.ntmps c caps ins l)).toL.map Prod.fst, .n fun l => (jTr (itrRU call T (lkM M f) mu fn.ntmps c caps ins l)).toL.map Prod.snd)])
      | none => none
     | false => none
    | _ => none
   | true => none
  | none => none
 | none => none
def itrR (gOk : Bool) (call : Clr) (T : List TI) (M mu : List Nat) (N : Nat) (c : Code) (caps : List V) (l : Nat) : Option (List (List V) × CT) := jRun gOk call T M mu N l 20000 (.code c [] (itrS caps l))
def cItrF (gOk : Bool) (P : Program) (T : List TI) (M : ML) (mu : List Nat) (call : Clr) : Itr := fun f caps => match P.funcs[f]? with
 | some fn => match fn.body with
  | some c => match fn.name == "runtime.NumGoroutine" with
   | false => match fn.results with
    | ⟨[]⟩ => match Nat.ble (caps.length + 1) 1000 && Nat.ble (caps.length + 1) fn.ntmps with
     | true => match itrR gOk call T (lkM M f) mu fn.ntmps c caps 0 with
      | some (es, _) => match gOk || es.all V.flatL with
       | true => some (es, .lf [(.ys fun l => jVal (itrR gOk call T (lkM M f) mu fn.ntmps c caps l), .ys fun _ => some es), (.n fun l => (jTr (itrR gOk call T (lkM M f) mu fn.ntmps c caps l)).toL.map Prod.fst, .n fun l => (jTr (itrR gOk call T (lkM M f) mu fn.ntmps c caps l)).toL.map Prod.snd)])
       | false => none
      | none => none
     | false => none
    | _ => none
   | true => none
  | none => none
 | none => none
theorem cItr_ok {P : Program} {T : List TI} (hT : TabOk T P) (hmx : P.follows .mixedOrders = true) {M : ML} {mu : List Nat} {call : Clr} (hcl : ClrOk P call) : ItrOk P (cItrF false P T M mu call) := by
 intro f caps es e h hE
 unfold cItrF at h
 split at h
 ·
  rename_i fn hf
  split at h
  ·
   rename_i c hc
   split at h
   ·
    rename_i hname
    split at h
    ·
     rename_i hres
     split at h
     ·
      rename_i hb
      simp only [Bool.and_eq_true] at hb
      split at h
      ·
       rename_i es0 e0 hr
       split at h
       ·
        rename_i hfl
        simp only [Option.some.injEq, Prod.mk.injEq] at h
        obtain ⟨rfl, rfl⟩ := h
        have hE' : EqE _ := hE
        have h1 := hE'.hd
        have h2 := hE'.tl.hd
        injection h1 with h1
        injection h2 with h2
        exact ait_of hT hmx hcl ⟨hf, hc, rfl, hname⟩ hres (Nat.le_of_ble_eq_true hb.2) (Nat.le_of_ble_eq_true hb.1) (itrS caps) (fun l => itrS_den (Nat.le_of_ble_eq_true hb.1)) (fun v hv => List.all_eq_true.1 (by simpa using hfl) v hv) (fun l => congrFun h1 l) fun l => CT.toL_eq (eqE_of (congrFun h2 l))
       ·
        cases h
      ·
       cases h
     ·
      cases h
    ·
     cases h
   ·
    cases h
  ·
   cases h
 ·
  cases h
theorem cItr_okI {P : Program} {T : List TI} (hT : TabOk T P) (hmx : P.follows .mixedOrders = true) {M : ML} {mu : List Nat} {call : Clr} (hcl : ClrOk P call) : ItrOkI P (cItrU P T M mu call) := by
 intro f caps ins es e h hE
 unfold cItrU at h
 split at h
 ·
  rename_i fn hf
  split at h
  ·
   rename_i c hc
   split at h
   ·
    rename_i hname
    split at h
    ·
     rename_i hres
     split at h
     ·
      rename_i hb
      simp only [Bool.and_eq_true] at hb
      split at h
      ·
       rename_i es0 e0 hr
       simp only [Option.some.injEq, Prod.mk.injEq] at h
       obtain ⟨rfl, rfl⟩ := h
       have hE' : EqE _ := hE
       have h1 := hE'.hd
       have h2 := hE'.tl.hd
       injection h1 with h1
       injection h2 with h2
       exact ait_ofI hT hmx hcl ⟨hf, hc, rfl, hname⟩ hres (Nat.le_of_ble_eq_true hb.2.1) (Nat.le_of_ble_eq_true hb.2.2) (itrSU caps ins) (fun l => itrSU_den (Nat.le_of_ble_eq_true hb.1)) (fun l => congrFun h1 l) fun l => CT.toL_eq (eqE_of (congrFun h2 l))
      ·
       cases h
     ·
      cases h
    ·
     cases h
   ·
    cases h
  ·
   cases h
 ·
  cases h
def orc (mu : List Nat) (call : Clr) : Clr := fun f args ins => match args with
 | [] => match ins with
  | [] => match inNs mu (1000000 + f) with
   | true => some ⟨.b true, [], [], c0⟩
   | false => call f [] []
  | o :: l => call f [] (o :: l)
 | a :: l => call f (a :: l) ins
def OrcOk (P : Program) (mu : List Nat) : Prop := ∀ f, inNs mu (1000000 + f) = true → AM P f [] [] (.b true) [] []
theorem orc_ok {P : Program} {mu : List Nat} {call : Clr} (hK : OrcOk P mu) (hcl : ClrOk P call) : ClrOk P (orc mu call) := by
 refine ⟨fun f args ins r hm h hE => ?_, fun name t r n h hv => hcl.2 name t r n h hv⟩
 unfold orc at h
 split at h
 ·
  split at h
  ·
   split at h
   ·
    rename_i hk
    injection h with h; subst h
    exact hK f hk
   ·
    exact hcl.1 _ _ _ _ hm h hE
  ·
   exact hcl.1 _ _ _ _ hm h hE
 ·
  exact hcl.1 _ _ _ _ hm h hE
theorem orc_no {P : Program} : ∀ {mu : List Nat}, (mu.all fun f => Nat.ble f 999999) = true → OrcOk P mu
 | [], _, f, h => by cases h
 | k :: l, hm, f, h => by
  simp only [List.all_cons, Bool.and_eq_true] at hm
  simp only [inNs] at h
  split at h
  ·
   rename_i hb
   have := Nat.eq_of_beq_eq_true hb
   have := Nat.le_of_ble_eq_true hm.1
   omega
  ·
   exact orc_no hm.2 f h
def lkK : List (FuncId × List V × V) → FuncId → Option (List V × V)
 | [], _ => none
 | k :: l, f => match Nat.beq f k.1 with
  | true => some k.2
  | false => lkK l f
def orc2 (K : List (FuncId × List V × V)) (call : Clr) : Clr := fun f args ins => match Nat.beq f mth with
 | true => call mth args ins
 | false => match ins with
  | [] => match lkK K f with
   | some k => some ⟨k.2, [], [], .lf [(.vs args, .vs k.1)]⟩
   | none => call f args []
  | o :: l => call f args (o :: l)
def OrcOk2 (P : Program) (K : List (FuncId × List V × V)) : Prop := ∀ f k, lkK K f = some k → AM P f k.1 [] k.2 [] []
theorem orc2_ok {P : Program} {K : List (FuncId × List V × V)} {call : Clr} (hK : OrcOk2 P K) (hcl : ClrOk P call) : ClrOk P (orc2 K call) := by
 refine ⟨fun f args ins r hm h hE => ?_, fun name t r n h hv => hcl.2 name t r n h hv⟩
 unfold orc2 at h
 rw [hm] at h
 simp only at h
 split at h
 ·
  split at h
  ·
   rename_i k hk
   injection h with h; subst h
   have hE' : EqE _ := hE
   have e1 := hE'.hd
   injection e1 with e1
   rw [e1]
   exact hK f k hk
  ·
   exact hcl.1 _ _ _ _ hm h hE
 ·
  exact hcl.1 _ _ _ _ hm h hE
def cMth (P : Program) (args : List V) : Option CR := match args with
 | [.fn (.method name) [] [], .c (.int .i64 n)] => match methQ P name n.toNat with
  | some f => some ⟨.i (f : Int), [], [], c0⟩
  | none => none
 | _ => none
def cEvalO (O : Clr → Clr) (P : Program) (T : List TI) (M : ML) (mu : List Nat) : Nat → Clr
 | 0 => fun _ _ _ => none
 | d + 1 => fun f args ins => match Nat.beq f mth with
  | true => cMth P args
  | false => match P.funcs[f]? with
   | some fn => match fn.body with
    | some c => match fn.name == "runtime.NumGoroutine" with
     | false => match Nat.ble args.length 1000 && (Nat.ble args.length fn.ntmps && Nat.ble ins.length 400) with
      | true => cFun2 (O (cEvalO O P T M mu d)) (cItrF false P T M mu (O (cEvalO O P T M mu d))) (cItrU P T M mu (O (cEvalO O P T M mu d))) T (lkM M f) mu f fn c args ins
      | false => none
     | true => none
    | none => none
   | none => none
def cEval (P : Program) (T : List TI) (M : ML) (mu : List Nat) : Nat → Clr := cEvalO (orc mu) P T M mu
theorem cFun_ok {P : Program} {T : List TI} {call : Clr} {itr : Itr} {itrI : ItrU} (hT : TabOk T P) (hmx : P.follows .mixedOrders = true) (hcl : ClrOk P call) (hit : ItrOk P itr) (hitI : ItrOkI P itrI) {M mu : List Nat} {f : FuncId} {fn : Func} {c : Code} {args : List V} {ins : List Ob} {r : CR} (hk : FnOk P f fn c fn.ntmps) (ha : args.length ≤ 1000) (ha2 : args.length ≤ fn.ntmps) (hi : ins.length ≤ 400)
  (h : cFun call itr itrI T M mu f fn c args ins = some r) (hE : EqT r.e) : AM P f args ins r.v r.outs r.obs := by
 obtain ⟨q, hq, h⟩ := oE_none h
 obtain ⟨e, s, t⟩ := q
 have key : (e = .normal ∨ e = .ret) → oE (cRet T fn ins.length s) none (fun q => some ⟨q.v, q.outs, q.obs, cNd t q.e⟩) = some r → AM P f args ins r.v r.outs r.obs := by
  intro he h
  obtain ⟨r', hr', h⟩ := oE_none h
  injection h with h; subst h
  have hE := cNd_eq hE
  obtain ⟨q1, q2, q3⟩ := cRet_ok hi he hr' hE.2
  refine am_introP hT hmx hk ha2 q2 hi q3 fun C hF hpin htl => ?_
  have := evalC_ok (C := C) (mu := mu) hT hcl (rngB_ok hT hcl hit hitI hF hpin htl) c _ _ _ _ hq hE.1 (RetPostM T fn ins.length r'.v r'.outs r'.obs) q1
  rw [← startS_den ha]
  exact aw_le (entS_le mu f args ins) this
 unfold cEnd at h
 split at h
 ·
  rename_i h0; exact key (.inr h0) h
 ·
  rename_i h0; exact key (.inl h0) h
 ·
  cases h
theorem cFunN_ok {P : Program} {T : List TI} {call : Clr} {itr : Itr} {itrI : ItrU} (hT : TabOk T P) (hmx : P.follows .mixedOrders = true) (hcl : ClrOk P call) (hit : ItrOk P itr) (hitI : ItrOkI P itrI) {M mu : List Nat} {f : FuncId} {fn : Func} {c : Code} {args : List V} {ins : List Ob} {r : CR} (hk : FnOk P f fn c fn.ntmps) (ha : args.length ≤ 1000) (ha2 : args.length ≤ fn.ntmps) (hi : ins.length ≤ 400)
  (h : cFunN call itr itrI T M mu f fn c args ins = some r) (hE : EqT r.e) : AM P f args ins r.v r.outs r.obs := by
 obtain ⟨q, hq, h⟩ := oE_none h
 obtain ⟨e, s, t⟩ := q
 have key : (e = .normal ∨ e = .ret) → oE (cRet T fn 0 s) none (fun q => some ⟨q.v, ins.map fun _ => none, q.obs, cNd t q.e⟩) = some r → AM P f args ins r.v r.outs r.obs := by
  intro he h
  obtain ⟨r', hr', h⟩ := oE_none h
  injection h with h; subst h
  have hE := cNd_eq hE
  obtain ⟨q1, q2, q3⟩ := cRet_ok (Nat.zero_le _) he hr' hE.2
  have e0 : r'.outs = [] := List.eq_nil_of_length_eq_zero q2
  rw [e0] at q1
  refine am_introN hT hmx hk ha2 hi q3 fun C hF hd => ?_
  have := evalC_ok (C := C) (mu := mu) hT hcl (rngB_ok hT hcl hit hitI hF (fun id x hx => by rw [hd] at hx; cases hx) (by rw [hd]; rfl)) c _ _ _ _ hq hE.1 (RetPostM T fn 0 r'.v [] r'.obs) q1
  rw [← startS_den ha]
  exact aw_le (entS_le mu f args ins) this
 unfold cEndN at h
 split at h
 ·
  rename_i h0; exact key (.inr h0) h
 ·
  rename_i h0; exact key (.inl h0) h
 ·
  cases h
theorem fzA_len : ∀ (l : List Ob) (k : Nat) (args : List V), (fzA k l args).length = args.length
 | [], _, _ => rfl
 | o :: l, k, args => by rw [fzA, fzA_len l, V.fzL_len]
theorem cFun2_ok {P : Program} {T : List TI} {call : Clr} {itr : Itr} {itrI : ItrU} (hT : TabOk T P) (hmx : P.follows .mixedOrders = true) (hcl : ClrOk P call) (hit : ItrOk P itr) (hitI : ItrOkI P itrI) {M mu : List Nat} {f : FuncId} {fn : Func} {c : Code} {args : List V} {ins : List Ob} {r : CR} (hk : FnOk P f fn c fn.ntmps) (ha : args.length ≤ 1000) (ha2 : args.length ≤ fn.ntmps) (hi : ins.length ≤ 400)
  (h : cFun2 call itr itrI T M mu f fn c args ins = some r) (hE : EqT r.e) : AM P f args ins r.v r.outs r.obs := by
 unfold cFun2 at h
 split at h
 ·
  exact cFun_ok hT hmx hcl hit hitI hk ha ha2 hi h hE
 ·
  split at h
  ·
   exact cFun_ok hT hmx hcl hit hitI hk ha ha2 hi h hE
  ·
   split at h
   ·
    rename_i hb
    simp only [Bool.and_eq_true] at hb
    unfold cKeep at h
    split at h
    ·
     rename_i q hq
     split at h
     ·
      rename_i ho
      split at h
      ·
       rename_i hob
       split at h
       ·
        rename_i hf
        injection h with h; subst h
        have := cFun_ok hT hmx hcl hit hitI hk (by rw [fzA_len]; exact ha) (by rw [fzA_len]; exact ha2) (Nat.zero_le _) hq hE
        rw [ho, hob] at this
        exact this.keep hb.2 hb.1 hf
       ·
        exact cFun_ok hT hmx hcl hit hitI hk ha ha2 hi h hE
      ·
       exact cFun_ok hT hmx hcl hit hitI hk ha ha2 hi h hE
     ·
      exact cFun_ok hT hmx hcl hit hitI hk ha ha2 hi h hE
    ·
     cases h
   ·
    split at h
    ·
     rename_i r' hr'
     injection h with h; subst h
     exact cFun_ok hT hmx hcl hit hitI hk ha ha2 hi hr' hE
    ·
     exact cFunN_ok hT hmx hcl hit hitI hk ha ha2 hi h hE
theorem cEvalO_ok {O : Clr → Clr} {P : Program} {T : List TI} (hT : TabOk T P) (hmx : P.follows .mixedOrders = true) {M : ML} {mu : List Nat} (hO : ∀ c, ClrOk P c → ClrOk P (O c)) : ∀ d, ClrOk P (cEvalO O P T M mu d)
 | 0 => ⟨fun f args ins r _ h _ => by (cases h), fun name t r n h _ => by (cases h)⟩
 | d + 1 => by
  refine ⟨fun f args ins r hm h hE => ?_, fun name t r n h hv => ?_⟩
  ·
   unfold cEvalO at h
   rw [hm] at h
   simp only at h
   split at h
   ·
    rename_i fn hf
    split at h
    ·
     rename_i c hc
     split at h
     ·
      rename_i hname
      split at h
      ·
       rename_i hb
       simp only [Bool.and_eq_true] at hb
       exact cFun2_ok hT hmx (hO _ (cEvalO_ok hT hmx hO d)) (cItr_ok hT hmx (hO _ (cEvalO_ok hT hmx hO d))) (cItr_okI hT hmx (hO _ (cEvalO_ok hT hmx hO d))) ⟨hf, hc, rfl, hname⟩ (Nat.le_of_ble_eq_true hb.1) (Nat.le_of_ble_eq_true hb.2.1) (Nat.le_of_ble_eq_true hb.2.2) h hE
      ·
       cases h
     ·
      cases h
    ·
     cases h
   ·
    cases h
  ·
   have h : cMth P [.fn (.method name) [] [], .i (t : Int)] = some r := h
   unfold cMth at h
   simp only at h
   split at h
   ·
    rename_i f hf
    injection h with h; subst h
    simp only [V.c.injEq, Value.int.injEq, true_and] at hv
    have := methQ_ok hf
    simp only [Int.toNat_natCast] at this
    rw [← hv]
    simpa using this
   ·
    cases h
def cV (o : Option CR) : Option (V × List (Option Ob) × List Ob) := match o with
 | some r => some (r.v, r.outs, r.obs)
 | none => none
def cT (o : Option CR) : CT := match o with
 | some r => r.e
 | none => c0
theorem cAMO {O : Clr → Clr} {P : Program} {T : List TI} (hT : TabOk T P) (hmx : P.follows .mixedOrders = true) (M : ML) (mu : List Nat) (hO : ∀ c, ClrOk P c → ClrOk P (O c)) {f : FuncId} {args : List V} {ins : List Ob} {v : V} {outs : List (Option Ob)} {obs : List Ob} (h : cV (cEvalO O P T M mu 40 f args ins) = some (v, outs, obs)) (hE : (cT (cEvalO O P T M mu 40 f args ins)).l = (cT (cEvalO O P T M mu 40 f args ins)).r) (hf9 : Nat.beq f mth = false := by rfl) : AM P f args ins v outs obs := by
 unfold cV at h
 unfold cT at hE
 split at h
 ·
  rename_i r hr
  simp only [hr] at hE
  injection h with h
  injection h with h1 h2
  injection h2 with h2 h3
  subst h1 h2 h3
  cases hm : Nat.beq f mth with
  | false => exact (cEvalO_ok hT hmx hO 40).1 f args ins r hm hr (eqT_of hE)
  | true => rw [hm] at hf9; cases hf9
 ·
  cases h
theorem cAMK {P : Program} {T : List TI} (hT : TabOk T P) (hmx : P.follows .mixedOrders = true) (M : ML) (mu : List Nat) (hK : OrcOk P mu) {f : FuncId} {args : List V} {ins : List Ob} {v : V} {outs : List (Option Ob)} {obs : List Ob} (h : cV (cEval P T M mu 40 f args ins) = some (v, outs, obs)) (hE : (cT (cEval P T M mu 40 f args ins)).l = (cT (cEval P T M mu 40 f args ins)).r) (hf9 : Nat.beq f mth = false := by rfl) : AM P f args ins v outs obs :=
 cAMO hT hmx M mu (fun _ => orc_ok hK) h hE hf9
theorem cAM' {P : Program} {T : List TI} (hT : TabOk T P) (hmx : P.follows .mixedOrders = true) (M : ML) (mu : List Nat) {f : FuncId} {args : List V} {ins : List Ob} {v : V} {outs : List (Option Ob)} {obs : List Ob} (h : cV (cEval P T M mu 40 f args ins) = some (v, outs, obs)) (hE : (cT (cEval P T M mu 40 f args ins)).l = (cT (cEval P T M mu 40 f args ins)).r) (hm : (mu.all fun f => Nat.ble f 999999) = true := by decide) (hf9 : Nat.beq f mth = false := by rfl) : AM P f args ins v outs obs := cAMK hT hmx M mu (orc_no hm) h hE hf9
theorem AM.ac {P : Program} {f : FuncId} {args : List V} {v : V} {obs : List Ob} (h : AM P f args [] v [] obs) (ho : obs.length ≤ 400) : AC P f args v obs := by
 refine ⟨h.1, fun L w vs hL hgl hv => ?_⟩
 refine (h.2 (fun b => w.heap.size ≤ b) (fun b => L b ∨ w.heap.size ≤ b) L w ρ0 vs (fun b hb => .inr hb) (fun b hb hl => by have := hL b hl; omega) ⟨fun b hb => ⟨hL b hb, .inl hb⟩, fun b hb => ⟨hb, .inr hb⟩, (fun id o ho => by unfold insF at ho; split at ho <;> simp at ho), (fun i j x y k _ _ _ hx => by cases hx), hgl⟩ (fun _ _ => rfl) hv).mono ?_
 rintro e w' ⟨x, rfl, ht, L', ρ', hG', hE', hx, hnn⟩
 have eo : outF [] obs = obsF obs := by
  funext id
  unfold outF obsF
  by_cases h5 : 500 ≤ id
  ·
   rw [if_pos h5, show obs[id]? = none from List.getElem?_eq_none oM]; simp
  ·
   rw [if_neg h5]
 rw [eo] at hG'
 exact ⟨x, rfl, ht.below (Nat.le_refl _) fun j hj hW => by have hW' : w.heap.size ≤ j := hW; omega, L', ρ', hG', fun b hb => (hE'.l b hb).1, hx, fun j hj => hnn j hj (by simp only [List.length_nil, Nat.add_zero]; omega)⟩
theorem AC.am {P : Program} {f : FuncId} {args : List V} {v : V} (h : AC P f args v []) (ha : V.idfL args = true) (hv : v.idf = true) : AM P f args [] v [] [] := by
 refine ⟨h.1, fun W LB L w ρ vs hwl hWL hG hρ hvs => ?_⟩
 refine (h.2 L w vs (fun b hb => (hG.ll b hb).1) hG.gl (hvs.free ha)).mono ?_
 rintro e w' ⟨x, rfl, hbel, L', ρ', hG', hL', hx, _⟩
 obtain ⟨Lx, hLx⟩ : ∃ Lx : Nat → Prop, ∀ b, Lx b ↔ L b ∨ (L' b ∧ w.heap.size ≤ b) := ⟨_, fun _ => Iff.rfl⟩
 obtain ⟨hG2, ex2⟩ := hG.quiet hbel (L' := Lx) (fun b hb => (hLx b).2 (.inl hb)) (fun b hb => by
  rcases (hLx b).1 hb with hb | hb
  ·
   exact .inl hb
  ·
   exact .inr ⟨hb.2, (hG'.ll b hb.1).1⟩)
 have eo : outF [] [] = insF [] := by
  funext id
  unfold outF insF
  split <;> simp
 refine ⟨x, rfl, Tch.of_below hbel fun k _ hk => (hG.new k hk).1, Lx, ρ, ?_, ex2, ?_, fun j _ hj => hρ j hj⟩
 ·
  rw [eo]; exact hG2
 ·
  have := hx.free hv ρ
  refine this.mono (fun b hb => ⟨(hLx b).2 ?_, rfl⟩) fun _ _ h => h
  rcases (hG'.ll b hb).2 with h | h
  ·
   exact .inl h
  ·
   exact .inr ⟨hb, h⟩
theorem orc2_nil {P : Program} : OrcOk2 P [] := fun f k h => by cases h
theorem orc2_cons {P : Program} {K : List (FuncId × List V × V)} {f0 : FuncId} {a0 : List V} {v0 : V} (h0 : AC P f0 a0 v0 []) (ha : V.idfL a0 = true) (hv : v0.idf = true) (h : OrcOk2 P K) : OrcOk2 P ((f0, a0, v0) :: K) := by
 intro f k hk
 simp only [lkK] at hk
 split at hk
 ·
  rename_i hb
  injection hk with hk; subst hk
  have := Nat.eq_of_beq_eq_true hb
  rw [this]
  exact h0.am ha hv
 ·
  exact h f k hk
end
end Go.Ab
