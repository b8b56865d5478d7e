/-
  Several texts in one: Curves: undone, cut, begun later, in chains, bounded. Conditions: told in each theorem. .. A call that panics, and a deferred closure that recovers, for values without addresses. No condition but those that a contract names.
-/
import Derived.RecoverIn
import Derived.Test.YtplnhbenmgclfaaGreatDoorX01
import Derived.Test.YtplnhbenmgclfaaGreatDoorMA
import Derived.Test.YtplnhbenmgclfaaGreatDoorMD
import Derived.Test.YtplnhbenmgclfaaGreatDoorX00
namespace Go.Proofs.YtplnhbenmgclfaaGreatDoor
open Go.Ab Go.RowKit Go.Dw Go.Shelf
def chainI (cs : List Cv) (u : Bool) (m : Int) (x : List Int) : Option (List Int) := (if u then cs.reverse else cs).foldl (fun o c => o.bind (runI c u m)) (some x)
theorem fold_none (u : Bool) (m : Int) : ∀ cs : List Cv, cs.foldl (fun o c => o.bind (runI c u m)) none = none
 | [] => rfl
 | _ :: cs => fold_none u m cs
def foldI (u : Bool) (m : Int) (cs : List Cv) (o : Option (List Int)) : Option (List Int) := cs.foldl (fun o c => o.bind (runI c u m)) o
theorem foldI_append (u : Bool) (m : Int) (a b : List Cv) (o : Option (List Int)) : foldI u m (a ++ b) o = foldI u m b (foldI u m a o) := by simp [foldI]
theorem foldI_none (u : Bool) (m : Int) (cs : List Cv) : foldI u m cs none = none := fold_none u m cs
def amt (l : List Int) : Nat → Int
 | 0 => 0
 | k + 1 => amt l k + max (gi l k) (-gi l k)
theorem amt_nonneg (l : List Int) : ∀ k, 0 ≤ amt l k
 | 0 => by simp [amt]
 | k + 1 => by have := amt_nonneg l k; rw [amt]; omega
theorem dot_amt {w h : List Int} {n : Int} (hn : 0 ≤ n) (hh : AllLe n h) : ∀ k, -(amt w k * n) ≤ dot w h k ∧ dot w h k ≤ amt w k * n
 | 0 => by simp [dot, amt]
 | k + 1 => by
  have ih := dot_amt (w := w) hn hh k
  have hb := mul_bd (a := gi w k) (m := max (gi w k) (-gi w k)) oM (hh.gi hn k)
  rw [dot, amt, Int.add_mul]
  omega
def boundN (c : Cv) (a : Int) : Int := a * (c.share + amt c.feed c.feed.length) + c.share - 1
def boundI (c : Cv) (a : Int) : Int := boundN c a / (c.share - amt c.back c.back.length)
theorem ediv_both {n d : Int} (hd : 0 < d) : d * (n / d) ≤ n ∧ n ≤ d * (n / d) + d - 1 := by
 have h1 := Int.mul_ediv_add_emod n d
 have h2 := Int.emod_nonneg n (Int.ne_of_gt hd)
 have h3 := Int.emod_lt_of_pos n hd
 omega
theorem bounded {c : Cv} (hs : 1 ≤ c.share) (ht : amt c.back c.back.length < c.share) {l : List Int} {a : Int} (ha : 0 ≤ a) (hl : AllLe a l) (k : Nat) : -boundI c a ≤ outK c false l k ∧ outK c false l k ≤ boundI c a := by
 induction k using Nat.strongRecOn with
 | _ k ih =>
  have hB0 : 0 ≤ boundI c a := by
   unfold boundI boundN
   refine Int.ediv_nonneg ?_ oM
   have := Int.mul_nonneg ha (show 0 ≤ c.share + amt c.feed c.feed.length by have := amt_nonneg c.feed c.feed.length; omega)
   omega
  have hh : AllLe a (hist c false l k).1 ∧ AllLe (boundI c a) (hist c false l k).2 := by
   constructor
   ·
    refine .of_gi fun i hi => ?_
    rw [(hist_len c false l k).1] at hi
    rw [(hist_at c false l k i hi).1]
    exact hl.gi ha _
   ·
    refine .of_gi fun i hi => ?_
    rw [(hist_len c false l k).2] at hi
    rw [(hist_at c false l k i hi).2]
    exact ih _ oM
  have d1 := dot_amt (w := c.feed) ha hh.1 c.feed.length
  have d2 := dot_amt (w := c.back) hB0 hh.2 c.back.length
  have hx := hl.gi ha k
  have hc : corr c (hist c false l k).1 (hist c false l k).2 = (dot c.feed (hist c false l k).1 c.feed.length + dot c.back (hist c false l k).2 c.back.length) / c.share := rfl
  have hy : outK c false l k = gi l k + corr c (hist c false l k).1 (hist c false l k).2 := rfl
  rw [hy, hc]
  generalize dot c.feed (hist c false l k).1 c.feed.length = s1 at *
  generalize dot c.back (hist c false l k).2 c.back.length = s2 at *
  generalize gi l k = x at *
  have hb : boundI c a = boundN c a / (c.share - amt c.back c.back.length) := rfl
  have e1 := ediv_both (n := boundN c a) (d := c.share - amt c.back c.back.length) oM
  rw [← hb] at e1
  have hK0 := amt_nonneg c.back c.back.length
  have hN : boundN c a = a * (c.share + amt c.feed c.feed.length) + c.share - 1 := rfl
  generalize boundI c a = B at *
  generalize boundN c a = NN at *
  generalize amt c.back c.back.length = K at *
  generalize amt c.feed c.feed.length = A at *
  generalize c.share = S at *
  have e2 := ediv_both (n := s1 + s2) (d := S) oM
  generalize (s1 + s2) / S = q at *
  rw [Int.mul_add] at hN
  rw [Int.sub_mul] at e1
  rw [Int.mul_comm A a] at d1
  have f1 : S * (x + q) ≤ a * S + S * q := by
   rw [Int.mul_add]
   have := Int.mul_le_mul_of_nonneg_left hx.2 (show 0 ≤ S by omega)
   rw [Int.mul_comm a S]; omega
  have f2 : -(a * S) + S * q ≤ S * (x + q) := by
   rw [Int.mul_add]
   have := Int.mul_le_mul_of_nonneg_left hx.1 (show 0 ≤ S by omega)
   rw [Int.mul_neg] at this
   rw [Int.mul_comm a S]; omega
  have f3 : S * (x + q) < S * (B + 1) := by rw [Int.mul_add S B 1, Int.mul_one]; omega
  have f4 : S * (-B - 1) < S * (x + q) := by rw [Int.mul_sub S (-B) 1, Int.mul_one, Int.mul_neg]; omega
  have g1 := Int.lt_of_mul_lt_mul_left f3 oM
  have g2 := Int.lt_of_mul_lt_mul_left f4 oM
  omega
end Go.Proofs.YtplnhbenmgclfaaGreatDoor

namespace Go.Dw
open Go.RowKit Go.Shelf
section
variable {P : Program} {ops : Array Oper} {md : Region.Mode} {w : World} {r : Option Nat} {m : Nat}
end
end Go.Dw

namespace Go.Ab
open Go.RowKit Go.Dw
section
variable {next : S → Prop} {Q : Exit → S → Prop} {s : S} {ch : List PanicEntry} {id : Nat}
end
section
variable {T : List TI} {P : Program}
end
end Go.Ab
