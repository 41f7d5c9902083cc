/- Words of the walk: plain theorems about the model's worlds and rows. No condition beyond what each states. -/
import Derived.Test.YtjcodcimodnbjaaQFnExactEscapesOfwWords
import Derived.ChangeSlices
import Derived.Deep.Slices
import Derived.ChangeArms
import Derived.WideShapes
namespace Go.Proofs.YtjcodcimodnbjaaW.PrintWords
open Go.ChangeShapes Go.WideShapes
set_option linter.unusedVariables false
def Opens {α : Type} (H : Type) (P : Program) (d : Kd α) (G : α → Prop) (t : TypeId) : Prop :=
 ∀ (enc : TypeId × Value → H) (W : World) (fuel : Nat) (cs : List Value) (x : DataW H × List MemPlace), DataW.trod enc P W 0 (fun _ => true) true fuel t cs = some x → ∃ a, d.K W a cs ∧ G a
def OpensF {α : Type} (H : Type) (P : Program) (d : Kd α) (G : α → Prop) (fs : List Field) (off size : Nat) : Prop :=
 ∀ (enc : TypeId × Value → H) (W : World) (n : Nat) (cs : List Value), cs.length = size → (∀ (i : Nat) (f : Field), fs[i]? = some f → ∃ x, DataW.trod enc P W 0 (fun _ => true) true n f.type ((cs.drop f.offset).take (P.cellsOf f.type)) = some x) → ∃ a, d.K W a (cs.drop off) ∧ G a
namespace Opens
variable {H : Type} {P : Program}
theorem int {t : TypeId} {k : IntKind} (ht : P.underlying t = some (.int k)) : Opens H P (Kd.int k) (fun n => (Lit.int k n).wf = true) t := by
 intro enc W fuel cs x h
 cases fuel with
 | zero => simp [DataW.trod] at h
 | succ n =>
  unfold DataW.trod at h
  rw [ht] at h
  split at h <;> simp_all
  exact ⟨_, rfl, h.1.2⟩
theorem bool {t : TypeId} (ht : P.underlying t = some .bool) : Opens H P Kd.bool (fun _ => True) t := by
 intro enc W fuel cs x h
 suffices hb : ∃ b, cs = [.bool b] by
  obtain ⟨b, rfl⟩ := hb
  exact ⟨b, rfl, trivial⟩
 cases fuel with
 | zero => simp [DataW.trod] at h
 | succ n =>
  unfold DataW.trod at h
  rw [ht] at h
  split at h <;> simp_all
theorem string {t : TypeId} (ht : P.underlying t = some .string) : Opens H P Kd.string (fun s => s.size ≤ maxLen) t := by
 intro enc W fuel cs x h
 cases fuel with
 | zero => simp [DataW.trod] at h
 | succ n =>
  unfold DataW.trod at h
  rw [ht] at h
  split at h <;> simp_all
  exact ⟨_, rfl, h.1⟩
theorem slice {α : Type} {d : Kd α} {G : α → Prop} {t e : TypeId} (e' : Nat) (ht : P.underlying t = some (.slice e)) (hc : P.cellsOf e = d.sz) (he : Opens H P d G e) :
  Opens H P (Kd.slice e' d) (fun xs => xs.length ≤ maxLen ∧ ∀ x ∈ xs, G x) t := by
 intro enc W fuel cs x h
 rcases Go.Deep.open_slice ht h with ⟨rfl, _⟩ | ⟨a, len, cap, m, n, D, Pl, rfl, hb, hl, hm, hmm, hx, hel⟩
 ·exact ⟨[], ⟨none, 0, rfl, Nat.le_refl _, rfl, by simp, fun h => absurd h (by simp)⟩, by simp [maxLen], by simp⟩
 ·have hmc : m = cap := by simpa using hmm
  subst hmc
  have hx' : ∀ i : Fin len, ∃ (y : α), ∃ c, d.K W y c ∧ G y ∧ W.cells? 0 (a.add (i.val * P.cellsOf e)) (P.cellsOf e) = some c := by
   intro i
   obtain ⟨cs', h1, h2⟩ := hel i.val (by omega)
   obtain ⟨y, hy, hg⟩ := he enc W _ _ _ h2
   exact ⟨y, cs', hy, hg, h1⟩
  let f : Fin len → α := fun i => Classical.choose (hx' i)
  have hf : ∀ i, ∃ c, d.K W (f i) c ∧ G (f i) ∧ W.cells? 0 (a.add (i.val * P.cellsOf e)) (P.cellsOf e) = some c := fun i => Classical.choose_spec (hx' i)
  have hlen : (List.ofFn f).length = len := List.length_ofFn
  refine ⟨List.ofFn f, ⟨some a, m, by rw [hlen], by rw [hlen]; exact hl, rfl, ?_, ?_⟩, ?_, ?_⟩
  ·rw [hlen]
   have : maxLen = 9223372036854775807 := by decide
   omega
  ·intro _
   refine ⟨a, rfl, ?_⟩
   intro j p hj
   have hjl : j < len := by
    rw [← hlen]
    exact (List.getElem?_eq_some_iff.1 hj).1
   have hp : p = f ⟨j, hjl⟩ := by
    obtain ⟨h0, h1⟩ := List.getElem?_eq_some_iff.1 hj
    rw [← h1]
    simp
   subst hp
   obtain ⟨c, hK, _, hcs⟩ := hf ⟨j, hjl⟩
   refine ⟨c, d.K_len hK, hK, ?_⟩
   intro i u hu
   have h3 := (World.cells?_some hcs)
   rw [hc] at h3
   have := h3.2.2 i
   have hi : i < c.length := (List.getElem?_eq_some_iff.1 hu).1
   rw [← hu, ← this (by rw [← d.K_len hK]; exact hi)]
   rw [Addr.add_add]
  ·rw [hlen]
   omega
  ·intro y hy
   obtain ⟨i, rfl⟩ := (List.mem_ofFn).1 hy
   obtain ⟨c, _, hg, _⟩ := hf i
   exact hg
theorem struct {α : Type} {d : Kd α} {G : α → Prop} {t : TypeId} {fs : Array Field} {size : Nat} (ht : P.underlying t = some (.struct fs)) (hs : P.cellsOf t = size) (h : OpensF H P d G fs.toList 0 size) : Opens H P d G t := by
 intro enc W fuel cs x hx
 obtain ⟨xs, n, rfl, _, hl, hlen, hf⟩ := DataW.trod_struct ht hx
 have := h enc W n cs (hl.trans hs) (by
  intro i f hi
  have hi' : fs[i]? = some f := by simpa using hi
  rw [hf i f hi']
  have : i < xs.length := by
   rw [hlen]
   exact (Array.getElem?_eq_some_iff.1 hi').1
  exact ⟨xs[i], List.getElem?_eq_getElem this⟩)
 simpa using this
theorem iso {α β : Type} {d : Kd α} {G : α → Prop} {t : TypeId} (f : β → α) (g : α → β) (hg : ∀ x, f (g x) = x) (h : Opens H P d G t) : Opens H P (Kd.iso d f) (fun y => G (f y)) t := by
 intro enc W fuel cs x hx
 obtain ⟨a, hK, hG⟩ := h enc W fuel cs x hx
 refine ⟨g a, ?_, ?_⟩
 ·show d.K W (f (g a)) cs
  rw [hg]
  exact hK
 ·show G (f (g a))
  rw [hg]
  exact hG
end Opens
namespace OpensF
variable {H : Type} {P : Program}
theorem one {α : Type} {d : Kd α} {G : α → Prop} {f : Field} {off size : Nat} (ho : f.offset = off) (hs : off + P.cellsOf f.type = size) (h : Opens H P d G f.type) : OpensF H P d G [f] off size := by
 intro enc W n cs hl hf
 obtain ⟨x, hx⟩ := hf 0 f rfl
 have := h enc W n _ x hx
 rw [ho] at this
 have e : (cs.drop off).take (P.cellsOf f.type) = cs.drop off := List.take_of_length_le (by rw [List.length_drop]; omega)
 rw [e] at this
 exact this
theorem cons {α β : Type} {d : Kd α} {d' : Kd β} {G : α → Prop} {G' : β → Prop} {f : Field} {fs : List Field} {off size : Nat} (ho : f.offset = off) (h : Opens H P d G f.type) (hr : OpensF H P d' G' fs (off + P.cellsOf f.type) size) :
  OpensF H P (Kd.pair d d') (fun x => G x.1 ∧ G' x.2) (f :: fs) off size := by
 intro enc W n cs hl hf
 obtain ⟨x, hx⟩ := hf 0 f rfl
 obtain ⟨a, hK, hG⟩ := h enc W n _ x hx
 obtain ⟨b, hK', hG'⟩ := hr enc W n cs hl (fun i g hg => hf (i + 1) g (by simpa using hg))
 rw [ho] at hK
 refine ⟨(a, b), ⟨_, _, ?_, hK, hK'⟩, hG, hG'⟩
 rw [← List.drop_drop]
 exact (List.take_append_drop _ _).symm
end OpensF
end Go.Proofs.YtjcodcimodnbjaaW.PrintWords

