/- Words of the walk: plain theorems about the model's worlds and rows. No condition beyond what each states. -/
import Derived.Test.YtacgehaipacehaaQFnValidProgramwMore
import Derived.Test.YtacgehaipacehaaQFnValidProgramwApart
import Derived.Test.YtacgehaipacehaaQFnValidProgramwNEv
set_option linter.unusedVariables false
namespace Go.Proofs.YtacgehaipacehaaW.PrintWords
open Go.RowKit
namespace Kd
section
variable {α : Type} {d : Kd α} {e n c base : Nat} {ok : Nat → Prop} {w : World} {A : Option Addr} {xs : List α}
end
section
variable {α : Type} {d : Kd α} {e base : Nat} {ok : Nat → Prop} {w : World} {A : Option Addr} {n c : Nat} {xs : List α}
end
section
variable {P : Program} {ops : Array Oper} {rest : List Oper} {o : Oper} {a : Act} {Q : Exit → Act → World → Prop} {α : Type}
end
end Kd
section
variable {P : Program}
end
end Go.Proofs.YtacgehaipacehaaW.PrintWords
namespace Go.Proofs.YtacgehaipacehaaW.PrintWords
def idxP {α : Type} (p : α → Bool) (l : List α) : Int := match l.findIdx? p with | some i => (i : Int) | none => -1
theorem idxP_hit {α : Type} (p : α → Bool) (l : List α) (k : Nat) (hk : k < l.length) (h : p l[k] = true) (hA : ∀ j (hj : j < l.length), j < k → p l[j] = false) : idxP p l = k := by
 have : l.findIdx? p = some k := by
  rw [List.findIdx?_eq_some_iff_getElem]
  exact ⟨hk, h, fun j hj => by simp [hA j (by omega) hj]⟩
 simp [idxP, this]
theorem idxP_miss {α : Type} (p : α → Bool) (l : List α) (hA : ∀ j (hj : j < l.length), p l[j] = false) : idxP p l = -1 := by
 have : l.findIdx? p = none := by
  rw [List.findIdx?_eq_none_iff]
  intro x hx
  obtain ⟨j, hj, rfl⟩ := List.getElem_of_mem hx
  exact hA j hj
 simp [idxP, this]
theorem idxP_nonneg {α : Type} (p : α → Bool) (l : List α) : decide (idxP p l ≥ 0) = l.any p := by
 unfold idxP
 cases h : l.findIdx? p with
 | none =>
  have h2 : l.any p = false := by
   rw [List.any_eq_false]
   intro x hx
   have := (List.findIdx?_eq_none_iff.1 h) x hx
   simp [this]
  simp [h2]
 | some i =>
  have h2 : l.any p = true := by
   rw [List.findIdx?_eq_some_iff_getElem] at h
   obtain ⟨hi, hp, _⟩ := h
   exact List.any_eq_true.2 ⟨l[i], List.getElem_mem hi, hp⟩
  simp only [h2, ge_iff_le, decide_eq_true_eq]
  omega
end Go.Proofs.YtacgehaipacehaaW.PrintWords
namespace Go.Proofs.YtacgehaipacehaaW.PrintWords
open Go.RowKit
theorem heap_new1 (w : World) (a : Obj) : (w.alloc a).heap[w.heap.size]? = some a := heap_alloc_new w a
theorem heap_new2 (w : World) (a b : Obj) : ((w.alloc a).alloc b).heap[w.heap.size + 1]? = some b := by
 have h := heap_alloc_new (w.alloc a) b
 rwa [World.size_alloc] at h
theorem below2 (w : World) (a b : Obj) : Below w.heap.size w ((w.alloc a).alloc b) := ((Below.refl _ w).alloc (Nat.le_refl _) _).alloc (by simp) _
theorem below1 (w : World) (a : Obj) : Below w.heap.size w (w.alloc a) := (Below.refl _ w).alloc (Nat.le_refl _) _
theorem blk_keptB {w W : World} {B : Nat} {o : Obj} (h : w.heap[B]? = some o) (hb : Below w.heap.size w W) : W.heap[B]? = some o := (hb.block B (Array.getElem?_eq_some_iff.1 h).1).trans h
end Go.Proofs.YtacgehaipacehaaW.PrintWords
namespace Go.Proofs.YtacgehaipacehaaW.PrintWords
open Go.RowKit
theorem wrap_succ {i n : Int} (h0 : 0 ≤ i) (h : i < n) (hn : n ≤ 9223372036854775807) : wrap64 (i + 1) = i + 1 := by unfold wrap64; omega
theorem wrap_pred {i : Int} (h0 : 0 ≤ i) (hn : i ≤ 9223372036854775807) : wrap64 (i - 1) = i - 1 := by unfold wrap64; omega
theorem wrap_in {i : Int} (h0 : -9223372036854775808 ≤ i) (hn : i ≤ 9223372036854775807) : wrap64 i = i := by unfold wrap64; omega
theorem drawn_below {w w' : World} (h : Drawn0 w w') : Below w.heap.size w w' := h.below
theorem bt_getElem (s : ByteArray) (i : Nat) (h : i < s.size) : bt s (i : Int) = ((s[i]'h).toNat : Int) := by
 unfold bt
 rw [dif_pos (by simpa using h)]
 rfl
end Go.Proofs.YtacgehaipacehaaW.PrintWords
namespace Go.Proofs.YtacgehaipacehaaW.PrintWords
theorem toL (s : ByteArray) : s.toList = s.data.toList := ByteArray.toList_eq s
theorem toL_len (s : ByteArray) : s.data.toList.length = s.size := by simp
theorem toL_inj {a b : ByteArray} : a.toList = b.toList ↔ a = b := by
 rw [toL, toL]
 constructor
 ·intro h
  have h2 : a.data = b.data := Array.ext' (by simpa using h)
  cases a; cases b; simp_all
 ·rintro rfl; rfl
theorem toL_beq {a b : ByteArray} : (a.toList == b.toList) = decide (a = b) := by
 rw [Bool.eq_iff_iff, beq_iff_eq, decide_eq_true_eq]
 exact toL_inj
end Go.Proofs.YtacgehaipacehaaW.PrintWords
namespace Go.Proofs.YtacgehaipacehaaW.PrintWords
open Go.RowKit
end Go.Proofs.YtacgehaipacehaaW.PrintWords

