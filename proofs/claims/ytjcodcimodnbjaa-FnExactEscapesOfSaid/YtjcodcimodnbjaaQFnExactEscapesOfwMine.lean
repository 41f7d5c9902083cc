/- Words of the walk: plain theorems about the model's worlds and rows. No condition beyond what each states. -/
import Derived.Test.YtjcodcimodnbjaaQFnExactEscapesOfwMore
import Derived.Test.YtjcodcimodnbjaaQFnExactEscapesOfwApart
import Derived.Test.YtjcodcimodnbjaaQFnExactEscapesOfwNEv
set_option linter.unusedVariables false
namespace Go.Proofs.YtjcodcimodnbjaaW.PrintWords
open Go.RowKit
namespace Kd
section
variable {α : Type} {d : Kd α} {e n c base : Nat} {ok : Nat → Prop} {w : World} {A : Option Addr} {xs : List α}
theorem ownBlock_clip (A : Option Addr) (n c c' : Nat) : (Value.slice A n c).ownBlock = (Value.slice A n c').ownBlock := by cases A <;> rfl
theorem R_clip (h : d.R e w base ok (.slice A xs.length c) xs) : d.R e w base ok (.slice A xs.length xs.length) xs := by
 obtain ⟨h0, inner, ho, hr⟩ := h
 refine ⟨fun k hk => h0 k (by rw [ownBlock_clip A xs.length c xs.length]; exact hk), inner, ho.clip, ?_⟩
 rw [ownBlock_clip A xs.length xs.length c]
 exact hr
theorem R_clip' (h : d.R e w base ok (.slice A n c) xs) (hn : n = xs.length) : d.R e w base ok (.slice A n n) xs := by subst hn; exact R_clip h
end
section
variable {α : Type} {d : Kd α} {e base : Nat} {ok : Nat → Prop} {w : World} {A : Option Addr} {n c : Nat} {xs : List α}
theorem R_clip2 (h : d.R e w base ok (.slice A n c) xs) (m : Nat) (hm : m = xs.length) : d.R e w base ok (.slice A n n) (xs.take m) := by
 rw [List.take_of_length_le (by omega)]
 exact R_clip' h (R_reads' h).1
end
section
variable {P : Program} {ops : Array Oper} {rest : List Oper} {o : Oper} {a : Act} {Q : Exit → Act → World → Prop} {α : Type}
theorem R_make0 (d : Kd α) {w0 W : World} (base e : Nat) (hgd : o.guard = none) {N : Tmp} (hd : o.dst = some N) (t : TypeId) (x y : Operand) (ho : o.op = .makeSlice t x y) (n : Int) (hx : a.eval x = .int .i64 0) (hy : a.eval y = .int .i64 n)
  (ht : P.underlying t = some (.slice e)) (z : Value) (bytes : Nat) (hinfo : (P.info? e).map (fun i => (i.zero, i.size, i.bytes)) = some (some z, d.sz, bytes)) (hz : z.cells.size = d.sz) (hs0 : 0 < d.sz) (hb0 : 0 < bytes)
  (z0 : α) {ok okp : Nat → Prop} (hzero : d.M W base okp z0 z.cells.toList) (hok : ∀ k, okp k → ok k) (hfresh : ok W.heap.size) (h0 : 0 ≤ n) (hl : n.toNat * bytes ≤ 281474976710656) (HB : Below base w0 W) (hbase : base ≤ W.heap.size)
  (h : ∀ v1 w1, d.R e w1 base ok v1 ([] : List α) → Below base w0 w1 → W.grownBy w1 none → (∃ b, v1.ownBlock = some b ∧ W.heap.size ≤ b) → wpList P ops Q rest (a.put o.dst v1) w1) : wpList P ops Q (o :: rest) a W := by
 obtain ⟨m, rfl⟩ := Int.eq_ofNat_of_zero_le h0
 simp only [Int.toNat_natCast] at hl
 obtain ⟨i0, hi, hzz⟩ := Option.map_eq_some_iff.1 hinfo
 simp only [Prod.mk.injEq] at hzz
 obtain ⟨hz0, hz1, hz2⟩ := hzz
 have hm : m ≤ 281474976710656 := Nat.le_trans (Nat.le_mul_of_pos_right _ hb0) hl
 have hr := run_make (P := P) W t e i0 z ht hi hz0 .i64 .i64 (0 : Int) (m : Int) (by omega) (by omega)
  (by
   have h3 : ((i0.bytes * m : Nat) : Int) ≤ 281474976710656 := by rw [hz2, Nat.mul_comm]; omega
   rwa [Int.natCast_mul] at h3) (by omega)
 simp only [Int.toNat_natCast, Int.toNat_zero] at hr
 rw [hz1] at hr
 refine event_run hgd (v := .slice (some ⟨W.heap.size, 0, none⟩) 0 m) (w1 := W.alloc (.cells (madeCells z.cells (m * d.sz)) e)) (by simp [execOp, ho, hx, hy, hr]) (h _ _ ⟨fun k hk => ?_, [], ?_, Reps.none _ _⟩ (HB.alloc hbase _) (World.grownBy_alloc W _ none) ⟨W.heap.size, by simp [Value.ownBlock], Nat.le_refl _⟩)
 ·have : W.heap.size = k := by simpa [Value.ownBlock] using hk
  subst this
  exact hfresh
 ·exact World.ownsRowS_made W _ m hbase (by simp only [maxLen]; omega) (by simp [size_madeCells])
end
end Kd
section
variable {P : Program}
end
end Go.Proofs.YtjcodcimodnbjaaW.PrintWords
namespace Go.Proofs.YtjcodcimodnbjaaW.PrintWords
def idxP {α : Type} (p : α → Bool) (l : List α) : Int := match l.findIdx? p with | some i => (i : Int) | none => -1
theorem idxP_hit {α : Type} (p : α → Bool) (l : List α) (k : Nat) (hk : k < l.length) (h : p l[k] = true) (hA : ∀ j (hj : j < l.length), j < k → p l[j] = false) : idxP p l = k := by
 have : l.findIdx? p = some k := by
  rw [List.findIdx?_eq_some_iff_getElem]
  exact ⟨hk, h, fun j hj => by simp [hA j (by omega) hj]⟩
 simp [idxP, this]
theorem idxP_miss {α : Type} (p : α → Bool) (l : List α) (hA : ∀ j (hj : j < l.length), p l[j] = false) : idxP p l = -1 := by
 have : l.findIdx? p = none := by
  rw [List.findIdx?_eq_none_iff]
  intro x hx
  obtain ⟨j, hj, rfl⟩ := List.getElem_of_mem hx
  exact hA j hj
 simp [idxP, this]
theorem idxP_nonneg {α : Type} (p : α → Bool) (l : List α) : decide (idxP p l ≥ 0) = l.any p := by
 unfold idxP
 cases h : l.findIdx? p with
 | none =>
  have h2 : l.any p = false := by
   rw [List.any_eq_false]
   intro x hx
   have := (List.findIdx?_eq_none_iff.1 h) x hx
   simp [this]
  simp [h2]
 | some i =>
  have h2 : l.any p = true := by
   rw [List.findIdx?_eq_some_iff_getElem] at h
   obtain ⟨hi, hp, _⟩ := h
   exact List.any_eq_true.2 ⟨l[i], List.getElem_mem hi, hp⟩
  simp only [h2, ge_iff_le, decide_eq_true_eq]
  omega
end Go.Proofs.YtjcodcimodnbjaaW.PrintWords
namespace Go.Proofs.YtjcodcimodnbjaaW.PrintWords
open Go.RowKit
theorem heap_new1 (w : World) (a : Obj) : (w.alloc a).heap[w.heap.size]? = some a := heap_alloc_new w a
theorem heap_new2 (w : World) (a b : Obj) : ((w.alloc a).alloc b).heap[w.heap.size + 1]? = some b := by
 have h := heap_alloc_new (w.alloc a) b
 rwa [World.size_alloc] at h
theorem heap_old2 (w : World) (a b : Obj) : ((w.alloc a).alloc b).heap[w.heap.size]? = some a := by
 exact (heap_alloc_old (w.alloc a) b (r := w.heap.size) (by simp)).trans (heap_alloc_new w a)
theorem below2 (w : World) (a b : Obj) : Below w.heap.size w ((w.alloc a).alloc b) := ((Below.refl _ w).alloc (Nat.le_refl _) _).alloc (by simp) _
theorem below1 (w : World) (a : Obj) : Below w.heap.size w (w.alloc a) := (Below.refl _ w).alloc (Nat.le_refl _) _
theorem blk_keptB {w W : World} {B : Nat} {o : Obj} (h : w.heap[B]? = some o) (hb : Below w.heap.size w W) : W.heap[B]? = some o := (hb.block B (Array.getElem?_eq_some_iff.1 h).1).trans h
end Go.Proofs.YtjcodcimodnbjaaW.PrintWords
namespace Go.Proofs.YtjcodcimodnbjaaW.PrintWords
open Go.RowKit
theorem wrap_succ {i n : Int} (h0 : 0 ≤ i) (h : i < n) (hn : n ≤ 9223372036854775807) : wrap64 (i + 1) = i + 1 := by unfold wrap64; omega
theorem wrap_pred {i : Int} (h0 : 0 ≤ i) (hn : i ≤ 9223372036854775807) : wrap64 (i - 1) = i - 1 := by unfold wrap64; omega
theorem wrap_in {i : Int} (h0 : -9223372036854775808 ≤ i) (hn : i ≤ 9223372036854775807) : wrap64 i = i := by unfold wrap64; omega
theorem drawn_below {w w' : World} (h : Drawn0 w w') : Below w.heap.size w w' := h.below
theorem bt_getElem (s : ByteArray) (i : Nat) (h : i < s.size) : bt s (i : Int) = ((s[i]'h).toNat : Int) := by
 unfold bt
 rw [dif_pos (by simpa using h)]
 rfl
end Go.Proofs.YtjcodcimodnbjaaW.PrintWords
namespace Go.Proofs.YtjcodcimodnbjaaW.PrintWords
theorem toL_len (s : ByteArray) : s.data.toList.length = s.size := by simp
end Go.Proofs.YtjcodcimodnbjaaW.PrintWords
namespace Go.Proofs.YtjcodcimodnbjaaW.PrintWords
open Go.RowKit
theorem below_of_none {w w1 : World} (hg : w.grownBy w1 none) : Below w.heap.size w w1 := ⟨hg.os, hg.tape, hg.output, hg.size, fun k hk => hg.block k hk (by simp)⟩
end Go.Proofs.YtjcodcimodnbjaaW.PrintWords

