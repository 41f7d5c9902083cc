/- Texts under the proof of FnExactEscapesOf: helper words, the functions' contracts and the plain laws. No condition. -/
import Derived.Test.YtjcodcimodnbjaaProg
import Derived.Below
import Derived.Deep.Draws
import Derived.Deep.AppendLies
import Derived.Maps.AppendAt
import Derived.OwnWalk
import Derived.Laws.BytesArg
import Derived.Laws.MakeOwn
import Derived.Laws.OwnMore
import Derived.Deep.OwnRows
import Derived.Tactics
import Derived.Lib.ConvBytes
import Derived.Laws.Slices
import Derived.WalkKit
import Derived.KernelRfl
import Derived.RowKit3
import Derived.Deep.LoopGhost
import Derived.Deep.QuietTactic
import Derived.BigQuiet
import Derived.WideLaws
import Derived.Deep.DeepCutAuto
import Derived.Deep.CutBlock
import Derived.Deep.RegionHeld3
import Derived.Laws.Rows
import Derived.Lib.AppendStr
import Derived.ArgAppend
import Derived.Laws.IdiomCopy
import Derived.OrdersHeld
import Derived.Laws.BitsLemmas
import Derived.RowKit
import Derived.Shelf.Abstract
import Derived.Test.YtjcodcimodnbjaaQFnExactEscapesOfwWords
import Derived.Test.YtjcodcimodnbjaaQFnExactEscapesOfwLast
import Derived.Test.YtjcodcimodnbjaaQFnExactEscapesOfwTab
import Derived.Test.YtjcodcimodnbjaaQFnExactEscapesOfwFour
import Derived.Test.YtjcodcimodnbjaaQFnExactEscapesOfwQPut
import Derived.Test.YtjcodcimodnbjaaQFnExactEscapesOfwApart
import Derived.Test.YtjcodcimodnbjaaQFnExactEscapesOfwArr
import Derived.Test.YtjcodcimodnbjaaQFnExactEscapesOfwZeros
import Derived.Test.YtjcodcimodnbjaaQFnExactEscapesOfwFoot
import Derived.Test.YtjcodcimodnbjaaQFnExactEscapesOfwKept
import Derived.Test.YtjcodcimodnbjaaQFnExactEscapesOfwShare
import Derived.Test.YtjcodcimodnbjaaQFnExactEscapesOfwN
import Derived.Test.YtjcodcimodnbjaaQFnExactEscapesOfwFootNe
import Derived.Test.YtjcodcimodnbjaaQFnExactEscapesOfwAt
import Derived.Test.YtjcodcimodnbjaaQFnExactEscapesOfwEqStruct
import Derived.Test.YtjcodcimodnbjaaQFnExactEscapesOfwRepsOne
import Derived.Test.YtjcodcimodnbjaaQFnExactEscapesOfwInv
import Derived.Test.YtjcodcimodnbjaaQFnExactEscapesOfwInvWords
import Derived.Test.YtjcodcimodnbjaaQFnExactEscapesOfwGuard
import Derived.Test.YtjcodcimodnbjaaQFnExactEscapesOfwNEv
import Derived.Test.YtjcodcimodnbjaaQFnExactEscapesOfwMore
import Derived.Test.YtjcodcimodnbjaaQFnExactEscapesOfwMine
namespace Go.Proofs.Ytjcodcimodnbjaa.P
open Go.RowKit Go.Proofs.YtjcodcimodnbjaaW.PrintWords Go.Proofs.YtjcodcimodnbjaaW.PrintLast Go.Proofs.YtjcodcimodnbjaaW.PrintMore
theorem s1_ {α : Type} (l : List α) (i : Nat) (a : α) : l.toArray.setIfInBounds i a = (l.set i a).toArray := List.setIfInBounds_toArray l i a
theorem s2_ {α : Type} (a b : α) (l : List α) : (a :: l).set 0 b = b :: l := rfl
theorem s3_ {α : Type} (a b : α) (l : List α) (n : Nat) : (a :: l).set (n + 1) b = a :: l.set n b := rfl
theorem a0_ {P : Prop} (h : P) : Aside0 P := Aside0.mk h
theorem hbw_ {n : Nat} {w w' : World} (h : Below n w w' := by repeat (first | (with_reducible first | exact HB.out | apply below_alloc | apply pw_below_drewN | apply below_drew1 | refine below_set ?_ (Aside0.out (by assumption))) | exact HB.out)) : Below n w w' := h
theorem lm_ {P : Prop} (h : P := by (try simp only [List.map_toArray, List.map_cons, List.map_nil]); first | done | rfl | (simp only [List.length_drop, List.length_take]; rfl)) : P := h
theorem rr_ {P Q : Prop} (x : P) (h : P → Q := by intro x_; (with_reducible repeat (first | apply Kd.R_alloc | apply Kd.R_drewN | apply Kd.R_drew)); exact x_) : Q := h x
theorem rm_ {α : Type} {d : Kd α} {e : Nat} {w w' : World} {base : Nat} {ok ok' : Nat → Prop} {v : Value} {xs : List α} (x : d.R e w base ok v xs) (f : ∀ k, ok k → ok' k) (h : d.R e w base ok' v xs → d.R e w' base ok' v xs := by intro x_; (with_reducible repeat (first | apply Kd.R_alloc | apply Kd.R_drewN | apply Kd.R_drew)); exact x_) : d.R e w' base ok' v xs := h (Kd.R_mono x f)
theorem bb_ {P Q : Prop} (x : P) (h : P → Q := by intro x_; (with_reducible repeat (first | refine blk_drewN ?_ _ | refine blk_drew ?_ | refine blk_alloc ?_ _)); exact x_) : Q := h x
theorem cc_ {P Q : Prop} (x : P) (h : P → Q := by intro x_; repeat (first | exact x_ | (with_reducible refine Kd.C_alloc ?_ _) | (with_reducible refine Kd.C_drewN ?_ _) | (with_reducible refine Kd.C_drew ?_))) : Q := h x
theorem kb_ {w0 w w1 : World} {g : Nat} {o : Obj} (x : Aside0 (w0.heap[g]? = some o)) (hb : Below w.heap.size w w1) (h : w0.heap[g]? = some o → w.heap[g]? = some o := by intro x_; (with_reducible repeat (first | refine blk_drewN ?_ _ | refine blk_drew ?_ | refine blk_alloc ?_ _)); exact x_) : Aside0 (w1.heap[g]? = some o) := ⟨blk_below (h x.1) hb⟩
theorem kf_ {w0 w w1 : World} {g b : Nat} {t : TypeId} {cs : Array Value} (x : Aside0 (w0.heap[g]? = some (.cells cs t (0, 0)))) (ne : Aside0 (g ≠ b)) (hb : Below w.heap.size w w1) (h : w0.heap[g]? = some (.cells cs t (0, 0)) → g ≠ b → w.heap[g]? = some (.cells cs t (0, 0)) := by intro x_ n_; (with_reducible repeat (first | refine blk_drewN ?_ _ | refine blk_drew ?_ | refine blk_alloc ?_ _)); refine blk_far ?_ n_ _; (with_reducible repeat (first | refine blk_drewN ?_ _ | refine blk_drew ?_ | refine blk_alloc ?_ _)); exact x_) : Aside0 (w1.heap[g]? = some (.cells cs t (0, 0))) := ⟨blk_below (h x.1 ne.1) hb⟩
theorem rb_ {α : Type} {d : Kd α} {e : Nat} {w0 w w1 : World} {base : Nat} {ok : Nat → Prop} {v : Value} {xs : List α} (x : Aside0 (d.R e w0 base ok v xs)) (hb : Below w.heap.size w w1) (h : d.R e w0 base ok v xs → d.R e w base ok v xs := by intro x_; (with_reducible repeat (first | apply Kd.R_alloc | apply Kd.R_drewN | apply Kd.R_drew)); exact x_) : Aside0 (d.R e w1 base ok v xs) := ⟨Kd.R_below (h x.1) hb⟩
theorem hk_ {w W : World} {g : Nat} {row : Option Nat} (h : KeepBut w W g row := by repeat (first | (with_reducible first | exact HK.out | apply KeepBut.set_ | apply keep_drewN | apply keep_drew | apply keep_alloc | refine keep_far ?_ (Aside0.out (by assumption)) _) | exact HK.out)) : KeepBut w W g row := h
theorem bff_ {P Q : Prop} (x : P) (h : P → Q := by intro x_; repeat (first | (with_reducible first | exact x_ | refine blk_drewN ?_ _ | refine blk_drew ?_ | refine blk_alloc ?_ _ | refine blk_far ?_ (Aside0.out (by assumption)) _) | exact x_)) : Q := h x
theorem kk_ {w0 w w1 : World} {g g' : Nat} {row : Option Nat} {o : Obj} (hk : KeepBut w w1 g row) (x : Aside0 (w0.heap[g']? = some o)) (ne : Aside0 (g' ≠ g)) (hr : some g' ≠ row := by simp) (h : w0.heap[g']? = some o → w.heap[g']? = some o := by intro x_; repeat (first | (with_reducible first | exact x_ | refine blk_drewN ?_ _ | refine blk_drew ?_ | refine blk_alloc ?_ _ | refine blk_far ?_ (Aside0.out (by assumption)) _) | exact x_)) : Aside0 (w1.heap[g']? = some o) := ⟨KeepBut.blk hk (h x.1) ne.1 hr⟩
theorem rf_ {α : Type} {d : Kd α} {e : Nat} {w W : World} {base : Nat} {ok : Nat → Prop} {v : Value} {xs : List α} {g t : Nat} {cells : Array Value} (x : d.R e w base ok v xs) (b : w.heap[g]? = some (.cells cells t (0, 0))) (u : Value) (ht : ∀ q, q ∈ e :: d.E → q ≠ t := by decide) (h : d.R e (w.setCell ⟨g, 0, none⟩ u) base ok v xs → d.R e W base ok v xs := by intro x_; (with_reducible repeat (first | apply Kd.R_alloc | apply Kd.R_drewN | apply Kd.R_drew)); exact x_) : d.R e W base ok v xs := h (Kd.R_mono (Kd.R_far (p := ⟨g, 0, none⟩) (Kd.R_types x b ht) (fun _ hk => hk.2) u) (fun _ h_ => h_.1))
theorem nl_ {w : World} {n : Nat} {o : Obj} (g : Nat) (hg : n = w.heap.size) (x : w.heap[g]? = some o) : Aside0 (g ≠ n) := ⟨by rw [hg]; exact Nat.ne_of_lt (blk_lt x)⟩
theorem ng_ {w : World} {n : Nat} {o : Obj} (g : Nat) (hg : n = w.heap.size) (x : w.heap[g]? = some o) : Aside0 (n ≠ g) := ⟨by rw [hg]; exact Nat.ne_of_gt (blk_lt x)⟩
end Go.Proofs.Ytjcodcimodnbjaa.P
namespace Go.Proofs.Ytjcodcimodnbjaa.P
open Go.RowKit Go.Proofs.YtjcodcimodnbjaaW.PrintWords Go.Proofs.YtjcodcimodnbjaaW.PrintLast Go.Proofs.YtjcodcimodnbjaaW.PrintMore
attribute [local go_sem] max2_int min2_int max_two min_two max_three min_three max_four min_four
set_option linter.unusedVariables false
set_option linter.unusedSimpArgs false
def errW : Option Int → Value
 | none=>.nilIface
 | some c=>.iface 0 (.int .i64 c)
theorem errW_none : errW none = .nilIface:=rfl
theorem errW_some (c : Int) : errW (some c) = .iface 0 (.int .i64 c):=rfl
theorem info3 : (Try.prog.info? 3).map (fun i=>(i.zero,i.size,i.bytes)) = some (some (.int .i64 0),1,8):=by kernel_rfl
theorem info5 : (Try.prog.info? 5).map (fun i=>(i.zero,i.size,i.bytes)) = some (some (.int .u8 0),1,1):=by kernel_rfl
theorem info38 : (Try.prog.info? 38).map (fun i=>(i.zero,i.size,i.bytes)) = some (some (.agg #[(.int .i64 0),(.int .i64 0),(.int .i64 0)]),3,24):=by kernel_rfl
theorem info76 : (Try.prog.info? 76).map (fun i=>(i.zero,i.size,i.bytes)) = some (some (.agg #[(.string ⟨#[]⟩),(.int .i64 0)]),2,24):=by kernel_rfl
structure S73 where
 f0 : ByteArray
 f1 : Int
def z73 : S73:=⟨(⟨#[]⟩ : ByteArray),(0 : Int)⟩
def k73 : Kd S73:=Kd.iso (Kd.pair Kd.string (Kd.int .i64)) (fun x : S73=>(x.f0,x.f1))
theorem k73_heap : Kd.Heap k73:=Kd.heap_iso _ (Kd.heap_pair Kd.heap_string (Kd.heap_int .i64))
theorem k73_open {w : World} {x : S73} {cs : List Value} (h : k73.K w x cs) : cs = [.string x.f0,.int .i64 x.f1]:=by
 obtain ⟨_,_,rfl,rfl,rfl⟩:=h
 exact rfl
theorem k73_openM {w : World} {base : Nat} {ok : Nat → Prop} {x : S73} {cs : List Value} (h : k73.M w base ok x cs) : cs = [.string x.f0,.int .i64 x.f1]:=by
 obtain ⟨_,_,rfl,rfl,rfl⟩:=h
 exact rfl
theorem k73_mk (w : World) (x : S73)  : k73.K w x [.string x.f0,.int .i64 x.f1]:=⟨[.string x.f0],[.int .i64 x.f1],rfl,rfl,rfl⟩
theorem k73_mkM (w : World) (base : Nat) (ok : Nat → Prop) (x : S73)  : k73.M w base ok x [.string x.f0,.int .i64 x.f1]:=⟨[.string x.f0],[.int .i64 x.f1],rfl,rfl,rfl⟩
def rd_T73 (xs : List S73) (i : Int) : S73:=xs.getD i.toNat z73
theorem at_T73 {w : World} {A : Option Addr} {n : Nat} {xs : List S73} (h : Kd.C k73 w A n xs) (i : Int) (h0 : 0 ≤ i) (h1 : i < n) : ∃ ad ,A = some ad ∧ w.cell? (ad.add (i.toNat * 2)) = some (.string (rd_T73 xs i).f0) ∧ w.cell? ⟨(ad.add (i.toNat * 2)).block,(ad.add (i.toNat * 2)).off + 1,none⟩ = some (.int .i64 (rd_T73 xs i).f1):=by
 obtain ⟨ad,c,e,_,hK,hc0⟩:=Kd.C_get h z73 i h0 h1
 have hc : ∀ j u,c[j]? = some u → w.cell? (ad.add (i.toNat * 2 + j)) = some u:=hc0
 obtain rfl:=k73_open hK
 exact ⟨ad,e,hc 0 _ rfl,by rw [← add_field _ _ 1 (by omega)];exact hc 1 _ rfl⟩
structure S27 where
 f0 : Int
 f1 : Int
 f2 : Int
def z27 : S27:=⟨(0 : Int),(0 : Int),(0 : Int)⟩
def k27 : Kd S27:=Kd.iso (Kd.pair (Kd.int .i64) (Kd.pair (Kd.int .i64) (Kd.int .i64))) (fun x : S27=>(x.f0,x.f1,x.f2))
theorem k27_heap : Kd.Heap k27:=Kd.heap_iso _ (Kd.heap_pair (Kd.heap_int .i64) (Kd.heap_pair (Kd.heap_int .i64) (Kd.heap_int .i64)))
theorem k27_open {w : World} {x : S27} {cs : List Value} (h : k27.K w x cs) : cs = [.int .i64 x.f0,.int .i64 x.f1,.int .i64 x.f2]:=by
 obtain ⟨_,_,rfl,rfl,⟨_,_,rfl,rfl,rfl⟩⟩:=h
 exact rfl
theorem k27_openM {w : World} {base : Nat} {ok : Nat → Prop} {x : S27} {cs : List Value} (h : k27.M w base ok x cs) : cs = [.int .i64 x.f0,.int .i64 x.f1,.int .i64 x.f2]:=by
 obtain ⟨_,_,rfl,rfl,⟨_,_,rfl,rfl,rfl⟩⟩:=h
 exact rfl
theorem k27_mk (w : World) (x : S27)  : k27.K w x [.int .i64 x.f0,.int .i64 x.f1,.int .i64 x.f2]:=⟨[.int .i64 x.f0],[.int .i64 x.f1,.int .i64 x.f2],rfl,rfl,⟨[.int .i64 x.f1],[.int .i64 x.f2],rfl,rfl,rfl⟩⟩
theorem k27_mkM (w : World) (base : Nat) (ok : Nat → Prop) (x : S27)  : k27.M w base ok x [.int .i64 x.f0,.int .i64 x.f1,.int .i64 x.f2]:=⟨[.int .i64 x.f0],[.int .i64 x.f1,.int .i64 x.f2],rfl,rfl,⟨[.int .i64 x.f1],[.int .i64 x.f2],rfl,rfl,rfl⟩⟩
def rd_T27 (xs : List S27) (i : Int) : S27:=xs.getD i.toNat z27
theorem at_T27 {w : World} {A : Option Addr} {n : Nat} {xs : List S27} (h : Kd.C k27 w A n xs) (i : Int) (h0 : 0 ≤ i) (h1 : i < n) : ∃ ad ,A = some ad ∧ w.cell? (ad.add (i.toNat * 3)) = some (.int .i64 (rd_T27 xs i).f0) ∧ w.cell? ⟨(ad.add (i.toNat * 3)).block,(ad.add (i.toNat * 3)).off + 1,none⟩ = some (.int .i64 (rd_T27 xs i).f1) ∧ w.cell? ⟨(ad.add (i.toNat * 3)).block,(ad.add (i.toNat * 3)).off + 2,none⟩ = some (.int .i64 (rd_T27 xs i).f2):=by
 obtain ⟨ad,c,e,_,hK,hc0⟩:=Kd.C_get h z27 i h0 h1
 have hc : ∀ j u,c[j]? = some u → w.cell? (ad.add (i.toNat * 3 + j)) = some u:=hc0
 obtain rfl:=k27_open hK
 exact ⟨ad,e,hc 0 _ rfl,by rw [← add_field _ _ 1 (by omega)];exact hc 1 _ rfl,by rw [← add_field _ _ 2 (by omega)];exact hc 2 _ rfl⟩
structure S38 where
 f0 : Int
 f1 : Int
 f2 : Int
def z38 : S38:=⟨(0 : Int),(0 : Int),(0 : Int)⟩
def k38 : Kd S38:=Kd.iso (Kd.pair (Kd.int .i64) (Kd.pair (Kd.int .i64) (Kd.int .i64))) (fun x : S38=>(x.f0,x.f1,x.f2))
theorem k38_heap : Kd.Heap k38:=Kd.heap_iso _ (Kd.heap_pair (Kd.heap_int .i64) (Kd.heap_pair (Kd.heap_int .i64) (Kd.heap_int .i64)))
theorem k38_open {w : World} {x : S38} {cs : List Value} (h : k38.K w x cs) : cs = [.int .i64 x.f0,.int .i64 x.f1,.int .i64 x.f2]:=by
 obtain ⟨_,_,rfl,rfl,⟨_,_,rfl,rfl,rfl⟩⟩:=h
 exact rfl
theorem k38_openM {w : World} {base : Nat} {ok : Nat → Prop} {x : S38} {cs : List Value} (h : k38.M w base ok x cs) : cs = [.int .i64 x.f0,.int .i64 x.f1,.int .i64 x.f2]:=by
 obtain ⟨_,_,rfl,rfl,⟨_,_,rfl,rfl,rfl⟩⟩:=h
 exact rfl
theorem k38_mk (w : World) (x : S38)  : k38.K w x [.int .i64 x.f0,.int .i64 x.f1,.int .i64 x.f2]:=⟨[.int .i64 x.f0],[.int .i64 x.f1,.int .i64 x.f2],rfl,rfl,⟨[.int .i64 x.f1],[.int .i64 x.f2],rfl,rfl,rfl⟩⟩
theorem k38_mkM (w : World) (base : Nat) (ok : Nat → Prop) (x : S38)  : k38.M w base ok x [.int .i64 x.f0,.int .i64 x.f1,.int .i64 x.f2]:=⟨[.int .i64 x.f0],[.int .i64 x.f1,.int .i64 x.f2],rfl,rfl,⟨[.int .i64 x.f1],[.int .i64 x.f2],rfl,rfl,rfl⟩⟩
def rd_T38 (xs : List S38) (i : Int) : S38:=xs.getD i.toNat z38
theorem at_T38 {w : World} {A : Option Addr} {n : Nat} {xs : List S38} (h : Kd.C k38 w A n xs) (i : Int) (h0 : 0 ≤ i) (h1 : i < n) : ∃ ad ,A = some ad ∧ w.cell? (ad.add (i.toNat * 3)) = some (.int .i64 (rd_T38 xs i).f0) ∧ w.cell? ⟨(ad.add (i.toNat * 3)).block,(ad.add (i.toNat * 3)).off + 1,none⟩ = some (.int .i64 (rd_T38 xs i).f1) ∧ w.cell? ⟨(ad.add (i.toNat * 3)).block,(ad.add (i.toNat * 3)).off + 2,none⟩ = some (.int .i64 (rd_T38 xs i).f2):=by
 obtain ⟨ad,c,e,_,hK,hc0⟩:=Kd.C_get h z38 i h0 h1
 have hc : ∀ j u,c[j]? = some u → w.cell? (ad.add (i.toNat * 3 + j)) = some u:=hc0
 obtain rfl:=k38_open hK
 exact ⟨ad,e,hc 0 _ rfl,by rw [← add_field _ _ 1 (by omega)];exact hc 1 _ rfl,by rw [← add_field _ _ 2 (by omega)];exact hc 2 _ rfl⟩
structure S76 where
 f0 : ByteArray
 f1 : Int
def z76 : S76:=⟨(⟨#[]⟩ : ByteArray),(0 : Int)⟩
def k76 : Kd S76:=Kd.iso (Kd.pair Kd.string (Kd.int .i64)) (fun x : S76=>(x.f0,x.f1))
theorem k76_heap : Kd.Heap k76:=Kd.heap_iso _ (Kd.heap_pair Kd.heap_string (Kd.heap_int .i64))
theorem k76_open {w : World} {x : S76} {cs : List Value} (h : k76.K w x cs) : cs = [.string x.f0,.int .i64 x.f1]:=by
 obtain ⟨_,_,rfl,rfl,rfl⟩:=h
 exact rfl
theorem k76_openM {w : World} {base : Nat} {ok : Nat → Prop} {x : S76} {cs : List Value} (h : k76.M w base ok x cs) : cs = [.string x.f0,.int .i64 x.f1]:=by
 obtain ⟨_,_,rfl,rfl,rfl⟩:=h
 exact rfl
theorem k76_mk (w : World) (x : S76)  : k76.K w x [.string x.f0,.int .i64 x.f1]:=⟨[.string x.f0],[.int .i64 x.f1],rfl,rfl,rfl⟩
theorem k76_mkM (w : World) (base : Nat) (ok : Nat → Prop) (x : S76)  : k76.M w base ok x [.string x.f0,.int .i64 x.f1]:=⟨[.string x.f0],[.int .i64 x.f1],rfl,rfl,rfl⟩
def rd_T76 (xs : List S76) (i : Int) : S76:=xs.getD i.toNat z76
theorem at_T76 {w : World} {A : Option Addr} {n : Nat} {xs : List S76} (h : Kd.C k76 w A n xs) (i : Int) (h0 : 0 ≤ i) (h1 : i < n) : ∃ ad ,A = some ad ∧ w.cell? (ad.add (i.toNat * 2)) = some (.string (rd_T76 xs i).f0) ∧ w.cell? ⟨(ad.add (i.toNat * 2)).block,(ad.add (i.toNat * 2)).off + 1,none⟩ = some (.int .i64 (rd_T76 xs i).f1):=by
 obtain ⟨ad,c,e,_,hK,hc0⟩:=Kd.C_get h z76 i h0 h1
 have hc : ∀ j u,c[j]? = some u → w.cell? (ad.add (i.toNat * 2 + j)) = some u:=hc0
 obtain rfl:=k76_open hK
 exact ⟨ad,e,hc 0 _ rfl,by rw [← add_field _ _ 1 (by omega)];exact hc 1 _ rfl⟩
def rd_L6 (xs : List (List S76)) (i : Int) : (List S76):=xs.getD i.toNat ([] : List S76)
theorem at_L6 {w : World} {A : Option Addr} {n : Nat} {xs : List (List S76)} (h : Kd.C (Kd.slice 76 k76) w A n xs) (i : Int) (h0 : 0 ≤ i) (h1 : i < n) : ∃ ad A0 c0,A = some ad ∧ w.cell? (ad.add i.toNat) = some (.slice A0 (rd_L6 xs i).length c0) ∧ (rd_L6 xs i).length ≤ c0 ∧ k76.C w A0 (rd_L6 xs i).length (rd_L6 xs i):=by
 obtain ⟨ad,c,e,_,hK,hc0⟩:=Kd.C_get h ([] : List S76) i h0 h1
 have hc : ∀ j u,c[j]? = some u → w.cell? (ad.add (i.toNat * 1 + j)) = some u:=hc0
 obtain ⟨A0,c0,rfl,l0,g0⟩:=hK
 exact ⟨ad,A0,c0,e,by have hq:=hc 0 _ rfl;rwa [Nat.mul_one,Nat.add_zero] at hq,l0,g0⟩
structure S35 where
 f0 : (List S76)
def z35 : S35:=⟨([] : List S76)⟩
def k35 : Kd S35:=Kd.iso (Kd.slice 76 k76) (fun x : S35=>x.f0)
theorem k35_heap : Kd.Heap k35:=Kd.heap_iso _ (Kd.heap_slice 76 k76_heap)
theorem k35_open {w : World} {x : S35} {cs : List Value} (h : k35.K w x cs) : ∃ A0 c0,cs = [.slice A0 x.f0.length c0] ∧ x.f0.length ≤ c0 ∧ k76.C w A0 x.f0.length x.f0:=by
 obtain ⟨A0,c0,rfl,l0,g0⟩:=h
 exact ⟨A0,c0,rfl,l0,g0⟩
theorem k35_openM {w : World} {base : Nat} {ok : Nat → Prop} {x : S35} {cs : List Value} (h : k35.M w base ok x cs) : ∃ v0,cs = [v0] ∧ k76.R 76 w base ok v0 x.f0:=by
 obtain ⟨v0,rfl,g0⟩:=h
 exact ⟨v0,rfl,g0⟩
theorem k35_mk (w : World) (x : S35) {A0 : Option Addr} {c0 : Nat} (l0 : x.f0.length ≤ c0) (g0 : k76.C w A0 x.f0.length x.f0) : k35.K w x [.slice A0 x.f0.length c0]:=⟨A0,c0,rfl,l0,g0⟩
theorem k35_mkM (w : World) (base : Nat) (ok : Nat → Prop) (x : S35) {v0 : Value} (g0 : k76.R 76 w base ok v0 x.f0) : k35.M w base ok x [v0]:=⟨v0,rfl,g0⟩
def rd_T35 (xs : List S35) (i : Int) : S35:=xs.getD i.toNat z35
theorem at_T35 {w : World} {A : Option Addr} {n : Nat} {xs : List S35} (h : Kd.C k35 w A n xs) (i : Int) (h0 : 0 ≤ i) (h1 : i < n) : ∃ ad A0 c0,A = some ad ∧ w.cell? (ad.add i.toNat) = some (.slice A0 (rd_T35 xs i).f0.length c0) ∧ (rd_T35 xs i).f0.length ≤ c0 ∧ k76.C w A0 (rd_T35 xs i).f0.length (rd_T35 xs i).f0:=by
 obtain ⟨ad,c,e,_,hK,hc0⟩:=Kd.C_get h z35 i h0 h1
 have hc : ∀ j u,c[j]? = some u → w.cell? (ad.add (i.toNat * 1 + j)) = some u:=hc0
 obtain ⟨A0,c0,rfl,l0,g0⟩:=k35_open hK
 exact ⟨ad,A0,c0,e,by have hq:=hc 0 _ rfl;rwa [Nat.mul_one,Nat.add_zero] at hq,l0,g0⟩
def rd_L9 (xs : List (List S38)) (i : Int) : (List S38):=xs.getD i.toNat ([] : List S38)
theorem at_L9 {w : World} {A : Option Addr} {n : Nat} {xs : List (List S38)} (h : Kd.C (Kd.slice 38 k38) w A n xs) (i : Int) (h0 : 0 ≤ i) (h1 : i < n) : ∃ ad A0 c0,A = some ad ∧ w.cell? (ad.add i.toNat) = some (.slice A0 (rd_L9 xs i).length c0) ∧ (rd_L9 xs i).length ≤ c0 ∧ k38.C w A0 (rd_L9 xs i).length (rd_L9 xs i):=by
 obtain ⟨ad,c,e,_,hK,hc0⟩:=Kd.C_get h ([] : List S38) i h0 h1
 have hc : ∀ j u,c[j]? = some u → w.cell? (ad.add (i.toNat * 1 + j)) = some u:=hc0
 obtain ⟨A0,c0,rfl,l0,g0⟩:=hK
 exact ⟨ad,A0,c0,e,by have hq:=hc 0 _ rfl;rwa [Nat.mul_one,Nat.add_zero] at hq,l0,g0⟩
def rd_L11 (xs : List (List (List S38))) (i : Int) : (List (List S38)):=xs.getD i.toNat ([] : List (List S38))
theorem at_L11 {w : World} {A : Option Addr} {n : Nat} {xs : List (List (List S38))} (h : Kd.C (Kd.slice 30 (Kd.slice 38 k38)) w A n xs) (i : Int) (h0 : 0 ≤ i) (h1 : i < n) : ∃ ad A0 c0,A = some ad ∧ w.cell? (ad.add i.toNat) = some (.slice A0 (rd_L11 xs i).length c0) ∧ (rd_L11 xs i).length ≤ c0 ∧ (Kd.slice 38 k38).C w A0 (rd_L11 xs i).length (rd_L11 xs i):=by
 obtain ⟨ad,c,e,_,hK,hc0⟩:=Kd.C_get h ([] : List (List S38)) i h0 h1
 have hc : ∀ j u,c[j]? = some u → w.cell? (ad.add (i.toNat * 1 + j)) = some u:=hc0
 obtain ⟨A0,c0,rfl,l0,g0⟩:=hK
 exact ⟨ad,A0,c0,e,by have hq:=hc 0 _ rfl;rwa [Nat.mul_one,Nat.add_zero] at hq,l0,g0⟩
def rd_L12 (xs : List (List Int)) (i : Int) : (List Int):=xs.getD i.toNat ([] : List Int)
theorem at_L12 {w : World} {A : Option Addr} {n : Nat} {xs : List (List Int)} (h : Kd.C (Kd.slice 3 (Kd.int .i64)) w A n xs) (i : Int) (h0 : 0 ≤ i) (h1 : i < n) : ∃ ad A0 c0,A = some ad ∧ w.cell? (ad.add i.toNat) = some (.slice A0 (rd_L12 xs i).length c0) ∧ (rd_L12 xs i).length ≤ c0 ∧ (Kd.int .i64).C w A0 (rd_L12 xs i).length (rd_L12 xs i):=by
 obtain ⟨ad,c,e,_,hK,hc0⟩:=Kd.C_get h ([] : List Int) i h0 h1
 have hc : ∀ j u,c[j]? = some u → w.cell? (ad.add (i.toNat * 1 + j)) = some u:=hc0
 obtain ⟨A0,c0,rfl,l0,g0⟩:=hK
 exact ⟨ad,A0,c0,e,by have hq:=hc 0 _ rfl;rwa [Nat.mul_one,Nat.add_zero] at hq,l0,g0⟩
structure S135 where
 f0 : Int
 f1 : Int
 f2 : Int
 f3 : Int
def z135 : S135:=⟨(0 : Int),(0 : Int),(0 : Int),(0 : Int)⟩
def k135 : Kd S135:=Kd.iso (Kd.pair (Kd.int .i64) (Kd.pair (Kd.int .i64) (Kd.pair (Kd.int .i64) (Kd.int .i64)))) (fun x : S135=>(x.f0,x.f1,x.f2,x.f3))
theorem k135_heap : Kd.Heap k135:=Kd.heap_iso _ (Kd.heap_pair (Kd.heap_int .i64) (Kd.heap_pair (Kd.heap_int .i64) (Kd.heap_pair (Kd.heap_int .i64) (Kd.heap_int .i64))))
theorem k135_open {w : World} {x : S135} {cs : List Value} (h : k135.K w x cs) : cs = [.int .i64 x.f0,.int .i64 x.f1,.int .i64 x.f2,.int .i64 x.f3]:=by
 obtain ⟨_,_,rfl,rfl,⟨_,_,rfl,rfl,⟨_,_,rfl,rfl,rfl⟩⟩⟩:=h
 exact rfl
theorem k135_openM {w : World} {base : Nat} {ok : Nat → Prop} {x : S135} {cs : List Value} (h : k135.M w base ok x cs) : cs = [.int .i64 x.f0,.int .i64 x.f1,.int .i64 x.f2,.int .i64 x.f3]:=by
 obtain ⟨_,_,rfl,rfl,⟨_,_,rfl,rfl,⟨_,_,rfl,rfl,rfl⟩⟩⟩:=h
 exact rfl
theorem k135_mk (w : World) (x : S135)  : k135.K w x [.int .i64 x.f0,.int .i64 x.f1,.int .i64 x.f2,.int .i64 x.f3]:=⟨[.int .i64 x.f0],[.int .i64 x.f1,.int .i64 x.f2,.int .i64 x.f3],rfl,rfl,⟨[.int .i64 x.f1],[.int .i64 x.f2,.int .i64 x.f3],rfl,rfl,⟨[.int .i64 x.f2],[.int .i64 x.f3],rfl,rfl,rfl⟩⟩⟩
theorem k135_mkM (w : World) (base : Nat) (ok : Nat → Prop) (x : S135)  : k135.M w base ok x [.int .i64 x.f0,.int .i64 x.f1,.int .i64 x.f2,.int .i64 x.f3]:=⟨[.int .i64 x.f0],[.int .i64 x.f1,.int .i64 x.f2,.int .i64 x.f3],rfl,rfl,⟨[.int .i64 x.f1],[.int .i64 x.f2,.int .i64 x.f3],rfl,rfl,⟨[.int .i64 x.f2],[.int .i64 x.f3],rfl,rfl,rfl⟩⟩⟩
def rd_T135 (xs : List S135) (i : Int) : S135:=xs.getD i.toNat z135
theorem at_T135 {w : World} {A : Option Addr} {n : Nat} {xs : List S135} (h : Kd.C k135 w A n xs) (i : Int) (h0 : 0 ≤ i) (h1 : i < n) : ∃ ad ,A = some ad ∧ w.cell? (ad.add (i.toNat * 4)) = some (.int .i64 (rd_T135 xs i).f0) ∧ w.cell? ⟨(ad.add (i.toNat * 4)).block,(ad.add (i.toNat * 4)).off + 1,none⟩ = some (.int .i64 (rd_T135 xs i).f1) ∧ w.cell? ⟨(ad.add (i.toNat * 4)).block,(ad.add (i.toNat * 4)).off + 2,none⟩ = some (.int .i64 (rd_T135 xs i).f2) ∧ w.cell? ⟨(ad.add (i.toNat * 4)).block,(ad.add (i.toNat * 4)).off + 3,none⟩ = some (.int .i64 (rd_T135 xs i).f3):=by
 obtain ⟨ad,c,e,_,hK,hc0⟩:=Kd.C_get h z135 i h0 h1
 have hc : ∀ j u,c[j]? = some u → w.cell? (ad.add (i.toNat * 4 + j)) = some u:=hc0
 obtain rfl:=k135_open hK
 exact ⟨ad,e,hc 0 _ rfl,by rw [← add_field _ _ 1 (by omega)];exact hc 1 _ rfl,by rw [← add_field _ _ 2 (by omega)];exact hc 2 _ rfl,by rw [← add_field _ _ 3 (by omega)];exact hc 3 _ rfl⟩
structure S97 where
 f0 : Int
 f1 : Int
 f2 : Int
 f3 : Int
 f4 : Bool
def z97 : S97:=⟨(0 : Int),(0 : Int),(0 : Int),(0 : Int),false⟩
def k97 : Kd S97:=Kd.iso (Kd.pair (Kd.int .i64) (Kd.pair (Kd.int .i64) (Kd.pair (Kd.int .i64) (Kd.pair (Kd.int .i64) Kd.bool)))) (fun x : S97=>(x.f0,x.f1,x.f2,x.f3,x.f4))
theorem k97_heap : Kd.Heap k97:=Kd.heap_iso _ (Kd.heap_pair (Kd.heap_int .i64) (Kd.heap_pair (Kd.heap_int .i64) (Kd.heap_pair (Kd.heap_int .i64) (Kd.heap_pair (Kd.heap_int .i64) Kd.heap_bool))))
theorem k97_open {w : World} {x : S97} {cs : List Value} (h : k97.K w x cs) : cs = [.int .i64 x.f0,.int .i64 x.f1,.int .i64 x.f2,.int .i64 x.f3,.bool x.f4]:=by
 obtain ⟨_,_,rfl,rfl,⟨_,_,rfl,rfl,⟨_,_,rfl,rfl,⟨_,_,rfl,rfl,rfl⟩⟩⟩⟩:=h
 exact rfl
theorem k97_openM {w : World} {base : Nat} {ok : Nat → Prop} {x : S97} {cs : List Value} (h : k97.M w base ok x cs) : cs = [.int .i64 x.f0,.int .i64 x.f1,.int .i64 x.f2,.int .i64 x.f3,.bool x.f4]:=by
 obtain ⟨_,_,rfl,rfl,⟨_,_,rfl,rfl,⟨_,_,rfl,rfl,⟨_,_,rfl,rfl,rfl⟩⟩⟩⟩:=h
 exact rfl
theorem k97_mk (w : World) (x : S97)  : k97.K w x [.int .i64 x.f0,.int .i64 x.f1,.int .i64 x.f2,.int .i64 x.f3,.bool x.f4]:=⟨[.int .i64 x.f0],[.int .i64 x.f1,.int .i64 x.f2,.int .i64 x.f3,.bool x.f4],rfl,rfl,⟨[.int .i64 x.f1],[.int .i64 x.f2,.int .i64 x.f3,.bool x.f4],rfl,rfl,⟨[.int .i64 x.f2],[.int .i64 x.f3,.bool x.f4],rfl,rfl,⟨[.int .i64 x.f3],[.bool x.f4],rfl,rfl,rfl⟩⟩⟩⟩
theorem k97_mkM (w : World) (base : Nat) (ok : Nat → Prop) (x : S97)  : k97.M w base ok x [.int .i64 x.f0,.int .i64 x.f1,.int .i64 x.f2,.int .i64 x.f3,.bool x.f4]:=⟨[.int .i64 x.f0],[.int .i64 x.f1,.int .i64 x.f2,.int .i64 x.f3,.bool x.f4],rfl,rfl,⟨[.int .i64 x.f1],[.int .i64 x.f2,.int .i64 x.f3,.bool x.f4],rfl,rfl,⟨[.int .i64 x.f2],[.int .i64 x.f3,.bool x.f4],rfl,rfl,⟨[.int .i64 x.f3],[.bool x.f4],rfl,rfl,rfl⟩⟩⟩⟩
def rd_T97 (xs : List S97) (i : Int) : S97:=xs.getD i.toNat z97
theorem at_T97 {w : World} {A : Option Addr} {n : Nat} {xs : List S97} (h : Kd.C k97 w A n xs) (i : Int) (h0 : 0 ≤ i) (h1 : i < n) : ∃ ad ,A = some ad ∧ w.cell? (ad.add (i.toNat * 5)) = some (.int .i64 (rd_T97 xs i).f0) ∧ w.cell? ⟨(ad.add (i.toNat * 5)).block,(ad.add (i.toNat * 5)).off + 1,none⟩ = some (.int .i64 (rd_T97 xs i).f1) ∧ w.cell? ⟨(ad.add (i.toNat * 5)).block,(ad.add (i.toNat * 5)).off + 2,none⟩ = some (.int .i64 (rd_T97 xs i).f2) ∧ w.cell? ⟨(ad.add (i.toNat * 5)).block,(ad.add (i.toNat * 5)).off + 3,none⟩ = some (.int .i64 (rd_T97 xs i).f3) ∧ w.cell? ⟨(ad.add (i.toNat * 5)).block,(ad.add (i.toNat * 5)).off + 4,none⟩ = some (.bool (rd_T97 xs i).f4):=by
 obtain ⟨ad,c,e,_,hK,hc0⟩:=Kd.C_get h z97 i h0 h1
 have hc : ∀ j u,c[j]? = some u → w.cell? (ad.add (i.toNat * 5 + j)) = some u:=hc0
 obtain rfl:=k97_open hK
 exact ⟨ad,e,hc 0 _ rfl,by rw [← add_field _ _ 1 (by omega)];exact hc 1 _ rfl,by rw [← add_field _ _ 2 (by omega)];exact hc 2 _ rfl,by rw [← add_field _ _ 3 (by omega)];exact hc 3 _ rfl,by rw [← add_field _ _ 4 (by omega)];exact hc 4 _ rfl⟩
def rd_L15 (xs : List (List S97)) (i : Int) : (List S97):=xs.getD i.toNat ([] : List S97)
theorem at_L15 {w : World} {A : Option Addr} {n : Nat} {xs : List (List S97)} (h : Kd.C (Kd.slice 97 k97) w A n xs) (i : Int) (h0 : 0 ≤ i) (h1 : i < n) : ∃ ad A0 c0,A = some ad ∧ w.cell? (ad.add i.toNat) = some (.slice A0 (rd_L15 xs i).length c0) ∧ (rd_L15 xs i).length ≤ c0 ∧ k97.C w A0 (rd_L15 xs i).length (rd_L15 xs i):=by
 obtain ⟨ad,c,e,_,hK,hc0⟩:=Kd.C_get h ([] : List S97) i h0 h1
 have hc : ∀ j u,c[j]? = some u → w.cell? (ad.add (i.toNat * 1 + j)) = some u:=hc0
 obtain ⟨A0,c0,rfl,l0,g0⟩:=hK
 exact ⟨ad,A0,c0,e,by have hq:=hc 0 _ rfl;rwa [Nat.mul_one,Nat.add_zero] at hq,l0,g0⟩
structure S88 where
 f0 : (List S97)
def z88 : S88:=⟨([] : List S97)⟩
def k88 : Kd S88:=Kd.iso (Kd.slice 97 k97) (fun x : S88=>x.f0)
theorem k88_heap : Kd.Heap k88:=Kd.heap_iso _ (Kd.heap_slice 97 k97_heap)
theorem k88_open {w : World} {x : S88} {cs : List Value} (h : k88.K w x cs) : ∃ A0 c0,cs = [.slice A0 x.f0.length c0] ∧ x.f0.length ≤ c0 ∧ k97.C w A0 x.f0.length x.f0:=by
 obtain ⟨A0,c0,rfl,l0,g0⟩:=h
 exact ⟨A0,c0,rfl,l0,g0⟩
theorem k88_openM {w : World} {base : Nat} {ok : Nat → Prop} {x : S88} {cs : List Value} (h : k88.M w base ok x cs) : ∃ v0,cs = [v0] ∧ k97.R 97 w base ok v0 x.f0:=by
 obtain ⟨v0,rfl,g0⟩:=h
 exact ⟨v0,rfl,g0⟩
theorem k88_mk (w : World) (x : S88) {A0 : Option Addr} {c0 : Nat} (l0 : x.f0.length ≤ c0) (g0 : k97.C w A0 x.f0.length x.f0) : k88.K w x [.slice A0 x.f0.length c0]:=⟨A0,c0,rfl,l0,g0⟩
theorem k88_mkM (w : World) (base : Nat) (ok : Nat → Prop) (x : S88) {v0 : Value} (g0 : k97.R 97 w base ok v0 x.f0) : k88.M w base ok x [v0]:=⟨v0,rfl,g0⟩
def rd_T88 (xs : List S88) (i : Int) : S88:=xs.getD i.toNat z88
theorem at_T88 {w : World} {A : Option Addr} {n : Nat} {xs : List S88} (h : Kd.C k88 w A n xs) (i : Int) (h0 : 0 ≤ i) (h1 : i < n) : ∃ ad A0 c0,A = some ad ∧ w.cell? (ad.add i.toNat) = some (.slice A0 (rd_T88 xs i).f0.length c0) ∧ (rd_T88 xs i).f0.length ≤ c0 ∧ k97.C w A0 (rd_T88 xs i).f0.length (rd_T88 xs i).f0:=by
 obtain ⟨ad,c,e,_,hK,hc0⟩:=Kd.C_get h z88 i h0 h1
 have hc : ∀ j u,c[j]? = some u → w.cell? (ad.add (i.toNat * 1 + j)) = some u:=hc0
 obtain ⟨A0,c0,rfl,l0,g0⟩:=k88_open hK
 exact ⟨ad,A0,c0,e,by have hq:=hc 0 _ rfl;rwa [Nat.mul_one,Nat.add_zero] at hq,l0,g0⟩
structure S69 where
 f0 : Bool
 f1 : Int
 f2 : Int
def z69 : S69:=⟨false,(0 : Int),(0 : Int)⟩
def k69 : Kd S69:=Kd.iso (Kd.pair Kd.bool (Kd.pair (Kd.int .i64) (Kd.int .i64))) (fun x : S69=>(x.f0,x.f1,x.f2))
theorem k69_heap : Kd.Heap k69:=Kd.heap_iso _ (Kd.heap_pair Kd.heap_bool (Kd.heap_pair (Kd.heap_int .i64) (Kd.heap_int .i64)))
theorem k69_open {w : World} {x : S69} {cs : List Value} (h : k69.K w x cs) : cs = [.bool x.f0,.int .i64 x.f1,.int .i64 x.f2]:=by
 obtain ⟨_,_,rfl,rfl,⟨_,_,rfl,rfl,rfl⟩⟩:=h
 exact rfl
theorem k69_openM {w : World} {base : Nat} {ok : Nat → Prop} {x : S69} {cs : List Value} (h : k69.M w base ok x cs) : cs = [.bool x.f0,.int .i64 x.f1,.int .i64 x.f2]:=by
 obtain ⟨_,_,rfl,rfl,⟨_,_,rfl,rfl,rfl⟩⟩:=h
 exact rfl
theorem k69_mk (w : World) (x : S69)  : k69.K w x [.bool x.f0,.int .i64 x.f1,.int .i64 x.f2]:=⟨[.bool x.f0],[.int .i64 x.f1,.int .i64 x.f2],rfl,rfl,⟨[.int .i64 x.f1],[.int .i64 x.f2],rfl,rfl,rfl⟩⟩
theorem k69_mkM (w : World) (base : Nat) (ok : Nat → Prop) (x : S69)  : k69.M w base ok x [.bool x.f0,.int .i64 x.f1,.int .i64 x.f2]:=⟨[.bool x.f0],[.int .i64 x.f1,.int .i64 x.f2],rfl,rfl,⟨[.int .i64 x.f1],[.int .i64 x.f2],rfl,rfl,rfl⟩⟩
def rd_T69 (xs : List S69) (i : Int) : S69:=xs.getD i.toNat z69
theorem at_T69 {w : World} {A : Option Addr} {n : Nat} {xs : List S69} (h : Kd.C k69 w A n xs) (i : Int) (h0 : 0 ≤ i) (h1 : i < n) : ∃ ad ,A = some ad ∧ w.cell? (ad.add (i.toNat * 3)) = some (.bool (rd_T69 xs i).f0) ∧ w.cell? ⟨(ad.add (i.toNat * 3)).block,(ad.add (i.toNat * 3)).off + 1,none⟩ = some (.int .i64 (rd_T69 xs i).f1) ∧ w.cell? ⟨(ad.add (i.toNat * 3)).block,(ad.add (i.toNat * 3)).off + 2,none⟩ = some (.int .i64 (rd_T69 xs i).f2):=by
 obtain ⟨ad,c,e,_,hK,hc0⟩:=Kd.C_get h z69 i h0 h1
 have hc : ∀ j u,c[j]? = some u → w.cell? (ad.add (i.toNat * 3 + j)) = some u:=hc0
 obtain rfl:=k69_open hK
 exact ⟨ad,e,hc 0 _ rfl,by rw [← add_field _ _ 1 (by omega)];exact hc 1 _ rfl,by rw [← add_field _ _ 2 (by omega)];exact hc 2 _ rfl⟩
end Go.Proofs.Ytjcodcimodnbjaa.P
section
namespace Go.Proofs.Ytjcodcimodnbjaa.P
open Go.RowKit Go.Proofs.YtjcodcimodnbjaaW.PrintWords Go.Proofs.YtjcodcimodnbjaaW.PrintLast Go.Proofs.YtjcodcimodnbjaaW.PrintMore
attribute [local go_sem] max2_int min2_int max_two min_two max_three min_three max_four min_four
set_option linter.unusedVariables false
set_option linter.unusedSimpArgs false
def Ev {α : Type} (F : Nat → Option α) (x : α) : Prop:=∃ K,∀ k,K ≤ k → F k = some x
namespace Ev
variable {α β : Type}
theorem of_mono {F : Nat → Option α} {x : α} (hm : ∀ k,LeO (F k) (F (k + 1))) {K : Nat} (h : F K = some x) : Ev F x:=⟨K,fun _ hk=>at_rounds hm hk h⟩
theorem const {a : Option α} {x : α} (h : a = some x) : Ev (fun _=>a) x:=⟨0,fun _ _=>h⟩
theorem bind {F : Nat → Option α} {G : Nat → α → Option β} {x : α} {y : β} (h : Ev F x) (h2 : Ev (fun k=>G k x) y) : Ev (fun k=>(F k).bind (G k)) y:=by
 obtain ⟨K,hK⟩:=h
 obtain ⟨K2,hK2⟩:=h2
 refine ⟨max K K2,fun k hk=>?_⟩
 show (F k).bind (G k) = some y
 rw [hK k (Nat.le_trans (Nat.le_max_left _ _) hk)]
 exact hK2 k (Nat.le_trans (Nat.le_max_right _ _) hk)
theorem pos {F G : Nat → Option α} {x : α} {c : Prop} [Decidable c] (hc : c) (h : Ev F x) : Ev (fun k=>if c then F k else G k) x:=by
 obtain ⟨K,hK⟩:=h
 exact ⟨K,fun k hk=>by show (if c then F k else G k) = some x;rw [if_pos hc];exact hK k hk⟩
theorem neg {F G : Nat → Option α} {x : α} {c : Prop} [Decidable c] (hc : ¬ c) (h : Ev G x) : Ev (fun k=>if c then F k else G k) x:=by
 obtain ⟨K,hK⟩:=h
 exact ⟨K,fun k hk=>by show (if c then F k else G k) = some x;rw [if_neg hc];exact hK k hk⟩
theorem succ {F : Nat → Option α} {x : α} (h : Ev (fun k=>F (k + 1)) x) : Ev F x:=by
 obtain ⟨K,hK⟩:=h
 refine ⟨K + 1,fun k hk=>?_⟩
 obtain ⟨j,rfl⟩ : ∃ j,k = j + 1:=⟨k - 1,by omega⟩
 exact hK j (by omega)
theorem out {F : Nat → Option α} {x : α} (h : Ev F x) : ∃ k,F k = some x:=by
 obtain ⟨K,hK⟩:=h
 exact ⟨K,hK K (Nat.le_refl _)⟩
theorem congr {F G : Nat → Option α} {x : α} (h : Ev F x) (e : ∀ k,G k = F k) : Ev G x:=by
 obtain ⟨K,hK⟩:=h
 exact ⟨K,fun k hk=>(e k).trans (hK k hk)⟩
end Ev
theorem st_loop {σ ρ : Type} (L : Nat → σ → Int → Option ρ) (n : Nat) (S : Nat → σ) (v : ρ) (hstep : ∀ k i,i < n → L (k + 1) (S i) (i : Int) = L k (S (i + 1)) ((i + 1 : Nat) : Int)) (hend : ∀ k,L (k + 1) (S n) (n : Int) = some v) : L (n + 1) (S 0) 0 = some v:=by
 have key : ∀ d i k,i + d = n → L (d + 1 + k) (S i) (i : Int) = some v:=by
  intro d
  induction d with
  | zero =>
   intro i k hi
   obtain rfl : i = n:=by omega
   rw [show 0 + 1 + k = k + 1 by omega]
   exact hend k
  | succ d ih =>
   intro i k hi
   rw [show d + 1 + 1 + k = (d + 1 + k) + 1 by omega,hstep _ i (by omega)]
   exact ih (i + 1) k (by omega)
 have:=key n 0 0 (by omega)
 simpa using this
theorem fill_at {α β : Type} (xs : List α) (c : α → β) (z : α) (y : β) (i : Nat) (hi : i < xs.length) : (((xs.take i).map c) ++ List.replicate (xs.length - i) y).set i (c (xs.getD i z)) = ((xs.take (i + 1)).map c) ++ List.replicate (xs.length - (i + 1)) y:=by
 have h1 : xs.take (i + 1) = xs.take i ++ [xs.getD i z]:=by
  rw [List.take_succ_eq_append_getElem hi,List.getD_eq_getElem?_getD,List.getElem?_eq_getElem hi]
  rfl
 rw [h1,List.set_append_right _ _ (by simp;omega)]
 have h2 : i - ((xs.take i).map c).length = 0:=by simp;omega
 rw [h2,show xs.length - i = (xs.length - (i + 1)) + 1 by omega,List.replicate_succ,s2_,List.map_append,List.append_assoc]
 rfl
theorem fill_len {α β : Type} (xs : List α) (c : α → β) (y : β) (i : Nat) (hi : i ≤ xs.length) : (((xs.take i).map c) ++ List.replicate (xs.length - i) y).length = xs.length:=by
 simp
 omega
theorem rd_nat (l : List Int) (i : Nat) (hi : i < l.length) : rd l (i : Int) = l.getD i 0:=by simp [rd]
def marks (a : Int) (n : Nat) : List Int:=(List.range n).map (fun i : Nat=>a + (i : Int))
theorem marks_len (a : Int) (n : Nat) : (marks a n).length = n:=by simp [marks]
end Go.Proofs.Ytjcodcimodnbjaa.P
end
namespace Go.Proofs.Ytjcodcimodnbjaa.P
open Go.RowKit Go.Proofs.YtjcodcimodnbjaaW.PrintWords Go.Proofs.YtjcodcimodnbjaaW.PrintLast Go.Proofs.YtjcodcimodnbjaaW.PrintMore
attribute [local go_sem] max2_int min2_int max_two min_two max_three min_three max_four min_four
set_option linter.unusedVariables false
set_option linter.unusedSimpArgs false
def laws_szClass.f (a0_0 : ByteArray) (a0_1 : Int) (a1 : Int) : Option (Int):=if (wrap64 (a1 - (a0_0.size : Int))) < 0 then (some (-1)) else (some (wrap64 (a1 - (a0_0.size : Int))))
set_option maxHeartbeats 8000000 in
set_option maxRecDepth 100000 in
theorem laws_szClass.calls (a0_0 : ByteArray) (a0_1 : Int) (a1 : Int) (r : Int) (w : World) (h : laws_szClass.f a0_0 a0_1 a1 = some r) :
  Calls Try.prog 45 #[.agg #[.string a0_0,.int .i64 a0_1],.int .i64 a1] w fun e w'=>e = .returned (.int .i64 r) ∧ Below w.heap.size w w':=by
 have hu73:=Try.underlying73
 have HB:=a0_ (Below.refl w.heap.size w)
 have H : (if (wrap64 (a1 - (a0_0.size : Int))) < 0 then (some (-1)) else (some (wrap64 (a1 - (a0_0.size : Int))))) = some r:=h
 clear h
 by_cases c3 : (wrap64 (a1 - (a0_0.size : Int))) < 0
 ·rw [if_pos c3] at H
  have c3b0 : decide ((wrap64 (a1 - (a0_0.size : Int))) < 0) = true:=decide_eq_true c3
  clear c3
  obtain rfl:=Option.some.inj H
  go_enter Try.func45,Try.ntmps45
  go_wp2_with (first | ((with_reducible refine gate_dst (N:=2) rfl ?_);refine box_event ?hg (N:=2) ?hd (cs:=#[.string a0_0,.int .i64 a0_1]) (t:=73) ?hr ?_;(case hd=>rfl);(case hg=>rfl);(case hr=>first | (go_simp;done) | (go_simp;rfl));intro gb1 hg w4 hbox hb;have BK1:=a0_ (hbox);have GW1:=a0_ ((by rw [hg];exact (below_size hbw_) : w.heap.size ≤ gb1));have GE1:=a0_ ((by rw [hg];exact (below_size hbw_) : w.heap.size ≤ gb1));replace HB:=a0_ (below_step hbw_ hb);clear hb hbox hg;have hcz5_0 : w4.cell? ⟨gb1,0,none⟩ = some (.string a0_0):=(blk_cell BK1.out 0).trans rfl;have hcz5_1 : w4.cell? ⟨gb1,1,none⟩ = some (.int .i64 a0_1):=(blk_cell BK1.out 1).trans rfl;have hfz5_0:=blk_frozen BK1.out 0;have hfz5_1:=blk_frozen BK1.out 1))
  go_ret
  exact ⟨by first | rfl | (simp [errW_none,errW_some] <;> rfl) | (simp [*,errW_none,errW_some] <;> rfl),hbw_⟩
 ·rw [if_neg c3] at H
  have c3b0 : decide ((wrap64 (a1 - (a0_0.size : Int))) < 0) = false:=decide_eq_false c3
  clear c3
  obtain rfl:=Option.some.inj H
  go_enter Try.func45,Try.ntmps45
  go_wp2_with (first | ((with_reducible refine gate_dst (N:=2) rfl ?_);refine box_event ?hg (N:=2) ?hd (cs:=#[.string a0_0,.int .i64 a0_1]) (t:=73) ?hr ?_;(case hd=>rfl);(case hg=>rfl);(case hr=>first | (go_simp;done) | (go_simp;rfl));intro gb1 hg w6 hbox hb;have BK1:=a0_ (hbox);have GW1:=a0_ ((by rw [hg];exact (below_size hbw_) : w.heap.size ≤ gb1));have GE1:=a0_ ((by rw [hg];exact (below_size hbw_) : w.heap.size ≤ gb1));replace HB:=a0_ (below_step hbw_ hb);clear hb hbox hg;have hcz7_0 : w6.cell? ⟨gb1,0,none⟩ = some (.string a0_0):=(blk_cell BK1.out 0).trans rfl;have hcz7_1 : w6.cell? ⟨gb1,1,none⟩ = some (.int .i64 a0_1):=(blk_cell BK1.out 1).trans rfl;have hfz7_0:=blk_frozen BK1.out 0;have hfz7_1:=blk_frozen BK1.out 1))
  go_ret
  exact ⟨by first | rfl | (simp [errW_none,errW_some] <;> rfl) | (simp [*,errW_none,errW_some] <;> rfl),hbw_⟩
theorem laws_szClass_ev (s : ByteArray) (p : Int) (a : Int) (h0 : 0 ≤ a) (ha : a ≤ 1048576) (hs : s.size ≤ 9223372036854775807) : laws_szClass.f s p a = some (if (s.size : Int) ≤ a then a - s.size else -1):=by
 unfold laws_szClass.f
 rw [wrap_in (by omega) (by omega)]
 by_cases h : (s.size : Int) ≤ a
 ·rw [if_neg (by omega),if_pos h]
 ·rw [if_pos (by omega),if_neg h]
end Go.Proofs.Ytjcodcimodnbjaa.P
namespace Go.Proofs.Ytjcodcimodnbjaa.P
open Go.RowKit Go.Proofs.YtjcodcimodnbjaaW.PrintWords Go.Proofs.YtjcodcimodnbjaaW.PrintLast Go.Proofs.YtjcodcimodnbjaaW.PrintMore
attribute [local go_sem] max2_int min2_int max_two min_two max_three min_three max_four min_four
set_option linter.unusedVariables false
set_option linter.unusedSimpArgs false
def laws_szClassS.l0 : Nat → List (S73) → Int → Int → Option (Int)
 | 0,_,_,_=>none
 | k + 1,x0,x1,x5=>if x5 < (x0.length : Int) then (if 0 ≤ x5 then ((laws_szClass.f ((rd_T73 x0 x5).f0) ((rd_T73 x0 x5).f1) x1).bind fun t2=>(if t2 < 0 then (some (-1)) else (laws_szClassS.l0 k x0 t2 (wrap64 (x5 + 1))))) else (none)) else (some x1)
def laws_szClassS.f (k : Nat) (l0 : List (S73)) (a1 : Int) : Option (Int):=if (wrap64 (a1 - (l0.length : Int))) < 0 then (some (-1)) else (laws_szClassS.l0 k l0 (wrap64 (a1 - (l0.length : Int))) 0)
theorem laws_szClassS.mono_l : ∀ k,(∀ y0 y1 y2,LeO (laws_szClassS.l0 k y0 y1 y2) (laws_szClassS.l0 (k + 1) y0 y1 y2))
 | 0=>fun _ _ _ r h=>by simp [laws_szClassS.l0] at h
 | k + 1=>by
  have ih0:=laws_szClassS.mono_l k
  ·intro y0 y1 y2
   unfold laws_szClassS.l0
   repeat' first
   | (with_reducible exact ih0 _ _ _)
   | (with_reducible exact LeO.refl _)
   | (with_reducible exact LeO.none _)
   | (with_reducible refine LeO.ite ?_ ?_)
   | (with_reducible refine LeO.bind ?_ (fun _=>?_))
   | exact ih0 _ _ _
   | exact LeO.none _
   | refine LeO.ite ?_ ?_
   | refine LeO.bind ?_ (fun _=>?_)
theorem laws_szClassS.mono : ∀ a0 a1 k,LeO (laws_szClassS.f k a0 a1) (laws_szClassS.f (k + 1) a0 a1):=by
 intro a0 a1 k
 have ih0:=laws_szClassS.mono_l k
 unfold laws_szClassS.f
 repeat' first
   | (with_reducible exact ih0 _ _ _)
   | (with_reducible exact LeO.refl _)
   | (with_reducible exact LeO.none _)
   | (with_reducible refine LeO.ite ?_ ?_)
   | (with_reducible refine LeO.bind ?_ (fun _=>?_))
   | exact ih0 _ _ _
   | exact LeO.none _
   | refine LeO.ite ?_ ?_
   | refine LeO.bind ?_ (fun _=>?_)
set_option maxHeartbeats 8000000 in
set_option maxRecDepth 100000 in
theorem laws_szClassS.calls (k : Nat) (A0 : Option Addr) (c0 : Nat) (l0 : List (S73)) (a1 : Int) (r : Int) (w : World) (hr0 : Kd.C k73 w A0 l0.length l0) (hc0 : l0.length ≤ c0) (h : laws_szClassS.f k l0 a1 = some r) :
  Calls Try.prog 29 #[.slice A0 l0.length c0,.int .i64 a1] w fun e w'=>e = .returned (.int .i64 r) ∧ Below w.heap.size w w':=by
 have hu73:=Try.underlying73
 have HR0:=a0_ hr0
 have HC0:=a0_ hc0
 clear hr0 hc0
 have HB:=a0_ (Below.refl w.heap.size w)
 have H : (if (wrap64 (a1 - (l0.length : Int))) < 0 then (some (-1)) else (laws_szClassS.l0 k l0 (wrap64 (a1 - (l0.length : Int))) 0)) = some r:=h
 clear h
 by_cases c3 : (wrap64 (a1 - (l0.length : Int))) < 0
 ·rw [if_pos c3] at H
  have c3b0 : decide ((wrap64 (a1 - (l0.length : Int))) < 0) = true:=decide_eq_true c3
  clear c3
  obtain rfl:=Option.some.inj H
  go_enter Try.func29,Try.ntmps29
  go_wp2
  go_ret
  exact ⟨by first | rfl | (simp [errW_none,errW_some] <;> rfl) | (simp [*,errW_none,errW_some] <;> rfl),hbw_⟩
 ·rw [if_neg c3] at H
  have c3b0 : decide ((wrap64 (a1 - (l0.length : Int))) < 0) = false:=decide_eq_false c3
  clear c3
  have H':=a0_ H
  clear H
  go_enter Try.func29,Try.ntmps29
  go_wp2
  go_loopg [1,5] k (fun kq v1 v5 w'=>∃ (x1_1 : Int) (x5_1 : Int),v1 = .int .i64 x1_1 ∧ v5 = .int .i64 x5_1 ∧ Aside0 (laws_szClassS.l0 kq l0 x1_1 x5_1 = some r) ∧ Aside0 (kq ≤ k) ∧ Aside0 (Below w.heap.size w w'))
  case atStart=>exact ⟨(wrap64 (a1 - (l0.length : Int))),(0),(by first | rfl | (simp;done) | (simp [*];done)),(by first | rfl | (simp;done) | (simp [*];done)),H',⟨Nat.le_refl _⟩,⟨hbw_⟩⟩
  case round =>
   clear H'
   try clear c2
   try clear p2
   try clear c3
   try clear c3b0
   obtain ⟨x1_1,x5_1,rfl,rfl,HA,HK1,HB⟩:=hrel
   cases gk with
   | zero=>exact absurd HA.out (by simp [laws_szClassS.l0])
   | succ k1 =>
    have H:=HA.out
    clear HA
    simp only [laws_szClassS.l0] at H
    by_cases c4 : x5_1 < (l0.length : Int)
    ·rw [if_pos c4] at H
     have c4b0 : decide (x5_1 < (l0.length : Int)) = true:=decide_eq_true c4
     clear c4
     by_cases c5 : 0 ≤ x5_1
     ·rw [if_pos c5] at H
      have c5b0 : decide (0 ≤ x5_1) = true:=decide_eq_true c5
      clear c5
      replace H:=Option.bind_eq_some_iff.mp H
      obtain ⟨t2,A60,H⟩:=H
      try dsimp only at H
      have A6:=a0_ A60
      clear A60
      by_cases c7 : t2 < 0
      ·rw [if_pos c7] at H
       have c7b0 : decide (t2 < 0) = true:=decide_eq_true c7
       clear c7
       obtain rfl:=Option.some.inj H
       have p1 : 0 ≤ (x5_1 : Int):=of_decide_eq_true (by first | (with_reducible assumption) | assumption)
       have q1 : x5_1 < (l0.length : Int):=of_decide_eq_true (by first | (with_reducible assumption) | assumption)
       obtain ⟨ad1,e1,hx1_0,hx1_1⟩:=at_T73 HR0.out x5_1 p1 q1
       cases e1
       replace hx1_0:=(HB.out.cell (World.block_lt_of_cell? w _ hx1_0)).trans hx1_0
       replace hx1_1:=(HB.out.cell (World.block_lt_of_cell? w _ hx1_1)).trans hx1_1
       replace p1:=eq_true p1
       replace q1:=eq_true q1
       go_wp2_with (first | ((with_reducible refine gate_callee (f:=45) rfl ?_);refine goesL_ (some 23) rfl rfl Try.func45 (by kernel_rfl) rfl #[.agg #[.string ((rd_T73 l0 x5_1).f0),.int .i64 ((rd_T73 l0 x5_1).f1)],.int .i64 x1_1] rfl lm_ ?_;(with_reducible refine (laws_szClass.calls ((rd_T73 l0 x5_1).f0) ((rd_T73 l0 x5_1).f1) x1_1 t2 _ A6.out).mono ?_);rintro e w8 ⟨rfl,hb⟩;refine ⟨_,rfl,?_⟩;replace HB:=a0_ (below_step hbw_ hb);(try clear hb);(try clear hb2);(try clear hk);(try clear hi)))
       go_ret
       exact ⟨by first | rfl | (simp [errW_none,errW_some] <;> rfl) | (simp [*,errW_none,errW_some] <;> rfl),hbw_⟩
      ·rw [if_neg c7] at H
       have c7b0 : decide (t2 < 0) = false:=decide_eq_false c7
       clear c7
       have H':=a0_ H
       clear H
       have p1 : 0 ≤ (x5_1 : Int):=of_decide_eq_true (by first | (with_reducible assumption) | assumption)
       have q1 : x5_1 < (l0.length : Int):=of_decide_eq_true (by first | (with_reducible assumption) | assumption)
       obtain ⟨ad1,e1,hx1_0,hx1_1⟩:=at_T73 HR0.out x5_1 p1 q1
       cases e1
       replace hx1_0:=(HB.out.cell (World.block_lt_of_cell? w _ hx1_0)).trans hx1_0
       replace hx1_1:=(HB.out.cell (World.block_lt_of_cell? w _ hx1_1)).trans hx1_1
       replace p1:=eq_true p1
       replace q1:=eq_true q1
       go_wp2_with (first | ((with_reducible refine gate_callee (f:=45) rfl ?_);refine goesL_ (some 23) rfl rfl Try.func45 (by kernel_rfl) rfl #[.agg #[.string ((rd_T73 l0 x5_1).f0),.int .i64 ((rd_T73 l0 x5_1).f1)],.int .i64 x1_1] rfl lm_ ?_;(with_reducible refine (laws_szClass.calls ((rd_T73 l0 x5_1).f0) ((rd_T73 l0 x5_1).f1) x1_1 t2 _ A6.out).mono ?_);rintro e w9 ⟨rfl,hb⟩;refine ⟨_,rfl,?_⟩;replace HB:=a0_ (below_step hbw_ hb);(try clear hb);(try clear hb2);(try clear hk);(try clear hi)))
       go_roundg k1
       case measure=>have:=HK1.out;omega
       case rel=>exact ⟨(t2),(wrap64 (x5_1 + 1)),(by first | rfl | (simp;done) | (simp [*];done)),(by first | rfl | (simp;done) | (simp [*];done)),H',⟨by have:=HK1.out;omega⟩,⟨hbw_⟩⟩
     ·rw [if_neg c5] at H
      exact absurd H (by simp)
    ·rw [if_neg c4] at H
     have c4b0 : decide (x5_1 < (l0.length : Int)) = false:=decide_eq_false c4
     clear c4
     obtain rfl:=Option.some.inj H
     go_wp2
     go_ret
     exact ⟨by first | rfl | (simp [errW_none,errW_some] <;> rfl) | (simp [*,errW_none,errW_some] <;> rfl),hbw_⟩
theorem laws_szClassS_ev (t : List S73) (a : Int) (h0 : 0 ≤ a) (ha : a ≤ 1048576) (ht : t.length ≤ 9223372036854775807) (hs : ∀ x ∈ t,x.f0.size ≤ 9223372036854775807) :
  ∃ v,Ev (fun k=>laws_szClassS.f k t a) v ∧ (0 ≤ v → v ≤ a ∧ t.length ≤ a ∧ ∀ x ∈ t,(x.f0.size : Int) ≤ a):=by
 have key : ∀ d i k (left : Int),i + d = t.length → 0 ≤ left → left ≤ a → ∃ v,laws_szClassS.l0 (d + 1 + k) t left (i : Int) = some v ∧ (0 ≤ v → v ≤ left ∧ ∀ x ∈ t.drop i,(x.f0.size : Int) ≤ a):=by
  intro d
  induction d with
  | zero =>
   intro i k left hi hl hl2
   rw [show 0 + 1 + k = k + 1 by omega]
   simp only [laws_szClassS.l0]
   rw [if_neg (by omega)]
   exact ⟨left,rfl,fun _=>⟨Int.le_refl _,by rw [List.drop_eq_nil_of_le (by omega)];simp⟩⟩
  | succ d ih =>
   intro i k left hi hl hl2
   have hlt : i < t.length:=by omega
   rw [show d + 1 + 1 + k = (d + 1 + k) + 1 by omega]
   simp only [laws_szClassS.l0]
   have hx : rd_T73 t (i : Int) = t[i]:=by simp [rd_T73,hlt]
   rw [if_pos (by omega),if_pos (by omega),hx,laws_szClass_ev _ _ left hl (by omega) (hs _ (List.getElem_mem hlt))]
   simp only [Option.bind_some]
   by_cases h : (t[i].f0.size : Int) ≤ left
   ·rw [if_pos h,if_neg (by omega),wrap_succ (i:=(i : Int)) (n:=t.length) (by omega) (by omega) (by omega)]
    obtain ⟨v,hv,hg⟩:=ih (i + 1) k (left - t[i].f0.size) (by omega) (by omega) (by omega)
    refine ⟨v,hv,fun hv0=>?_⟩
    obtain ⟨h1,h2⟩:=hg hv0
    refine ⟨by omega,?_⟩
    rw [List.drop_eq_getElem_cons hlt]
    intro x hx'
    rcases List.mem_cons.1 hx' with rfl | hx'
    ·omega
    ·exact h2 x hx'
   ·rw [if_neg h,if_pos (by omega)]
    exact ⟨-1,rfl,fun h=>by omega⟩
 by_cases hl : (t.length : Int) ≤ a
 ·obtain ⟨v,hv,hg⟩:=key t.length 0 0 (a - t.length) (by omega) (by omega) (by omega)
  refine ⟨v,Ev.of_mono (laws_szClassS.mono t a) (K:=t.length + 1) ?_,fun hv0=>⟨by have:=hg hv0;omega,hl,by simpa using (hg hv0).2⟩⟩
  unfold laws_szClassS.f
  rw [wrap_in (by omega) (by omega),if_neg (by omega)]
  simpa using hv
 ·refine ⟨-1,Ev.of_mono (laws_szClassS.mono t a) (K:=0) ?_,fun h=>by omega⟩
  unfold laws_szClassS.f
  rw [wrap_in (by omega) (by omega),if_pos (by omega)]
end Go.Proofs.Ytjcodcimodnbjaa.P
namespace Go.Proofs.Ytjcodcimodnbjaa.P
open Go.RowKit Go.Proofs.YtjcodcimodnbjaaW.PrintWords Go.Proofs.YtjcodcimodnbjaaW.PrintLast Go.Proofs.YtjcodcimodnbjaaW.PrintMore
attribute [local go_sem] max2_int min2_int max_two min_two max_three min_three max_four min_four
set_option linter.unusedVariables false
set_option linter.unusedSimpArgs false
def laws_szTree.f (k : Nat) (l0_0 : List (S73)) (a1 : Int) : Option (Int):=(laws_szClassS.f k l0_0 a1).bind fun t2=>(if t2 < 0 then (some (-1)) else (some t2))
theorem laws_szTree.mono : ∀ a0 a1 k,LeO (laws_szTree.f k a0 a1) (laws_szTree.f (k + 1) a0 a1):=by
 intro a0 a1 k
 unfold laws_szTree.f
 repeat' first
   | (with_reducible exact laws_szClassS.mono _ _ _)
   | (with_reducible exact LeO.refl _)
   | (with_reducible exact LeO.none _)
   | (with_reducible refine LeO.ite ?_ ?_)
   | (with_reducible refine LeO.bind ?_ (fun _=>?_))
   | exact laws_szClassS.mono _ _ _
   | exact LeO.none _
   | refine LeO.ite ?_ ?_
   | refine LeO.bind ?_ (fun _=>?_)
set_option maxHeartbeats 8000000 in
set_option maxRecDepth 100000 in
theorem laws_szTree.calls (k : Nat) (A0_0 : Option Addr) (c0_0 : Nat) (l0_0 : List (S73)) (a1 : Int) (r : Int) (w : World) (hr0_0 : Kd.C k73 w A0_0 l0_0.length l0_0) (hc0_0 : l0_0.length ≤ c0_0) (h : laws_szTree.f k l0_0 a1 = some r) :
  Calls Try.prog 7 #[.agg #[.slice A0_0 l0_0.length c0_0],.int .i64 a1] w fun e w'=>e = .returned (.int .i64 r) ∧ Below w.heap.size w w':=by
 have hu24:=Try.underlying24
 have HR0_0:=a0_ hr0_0
 have HC0_0:=a0_ hc0_0
 clear hr0_0 hc0_0
 have HB:=a0_ (Below.refl w.heap.size w)
 have H : ((laws_szClassS.f k l0_0 a1).bind fun t2=>(if t2 < 0 then (some (-1)) else (some t2))) = some r:=h
 clear h
 replace H:=Option.bind_eq_some_iff.mp H
 obtain ⟨t2,A30,H⟩:=H
 replace H : (if t2 < 0 then (some (-1)) else (some t2)) = some r:=H
 have A3:=a0_ A30
 clear A30
 by_cases c4 : t2 < 0
 ·rw [if_pos c4] at H
  have c4b0 : decide (t2 < 0) = true:=decide_eq_true c4
  clear c4
  obtain rfl:=Option.some.inj H
  go_enter Try.func7,Try.ntmps7
  go_wp2_with (first | ((with_reducible refine gate_dst (N:=2) rfl ?_);refine box_event ?hg (N:=2) ?hd (cs:=#[.slice A0_0 l0_0.length c0_0]) (t:=24) ?hr ?_;(case hd=>rfl);(case hg=>rfl);(case hr=>first | (go_simp;done) | (go_simp;rfl));intro gb1 hg w5 hbox hb;have BK1:=a0_ (hbox);have GW1:=a0_ ((by rw [hg];exact (below_size hbw_) : w.heap.size ≤ gb1));have GE1:=a0_ ((by rw [hg];exact (below_size hbw_) : w.heap.size ≤ gb1));replace HB:=a0_ (below_step hbw_ hb);clear hb hbox hg;have hcz6_0 : w5.cell? ⟨gb1,0,none⟩ = some (.slice A0_0 l0_0.length c0_0):=(blk_cell BK1.out 0).trans rfl;have hfz6_0:=blk_frozen BK1.out 0) | ((with_reducible refine gate_callee (f:=29) rfl ?_);refine goesL_ (some 8) rfl rfl Try.func29 (by kernel_rfl) rfl #[.slice A0_0 l0_0.length c0_0,.int .i64 a1] rfl lm_ ?_;(with_reducible refine (laws_szClassS.calls k _ _ l0_0 a1 t2 _ ?side1 ?side2 A3.out).mono ?_);(case side1=>exact cc_ (Kd.C_below HR0_0.out HB.out));(case side2=>exact HC0_0.out);rintro e w7 ⟨rfl,hb⟩;refine ⟨_,rfl,?_⟩;replace BK1:=kb_ BK1 hb;replace HB:=a0_ (below_step hbw_ hb);(try clear hb);(try clear hb2);(try clear hk);(try clear hi)))
  go_ret
  exact ⟨by first | rfl | (simp [errW_none,errW_some] <;> rfl) | (simp [*,errW_none,errW_some] <;> rfl),hbw_⟩
 ·rw [if_neg c4] at H
  have c4b0 : decide (t2 < 0) = false:=decide_eq_false c4
  clear c4
  obtain rfl:=Option.some.inj H
  go_enter Try.func7,Try.ntmps7
  go_wp2_with (first | ((with_reducible refine gate_dst (N:=2) rfl ?_);refine box_event ?hg (N:=2) ?hd (cs:=#[.slice A0_0 l0_0.length c0_0]) (t:=24) ?hr ?_;(case hd=>rfl);(case hg=>rfl);(case hr=>first | (go_simp;done) | (go_simp;rfl));intro gb1 hg w8 hbox hb;have BK1:=a0_ (hbox);have GW1:=a0_ ((by rw [hg];exact (below_size hbw_) : w.heap.size ≤ gb1));have GE1:=a0_ ((by rw [hg];exact (below_size hbw_) : w.heap.size ≤ gb1));replace HB:=a0_ (below_step hbw_ hb);clear hb hbox hg;have hcz9_0 : w8.cell? ⟨gb1,0,none⟩ = some (.slice A0_0 l0_0.length c0_0):=(blk_cell BK1.out 0).trans rfl;have hfz9_0:=blk_frozen BK1.out 0) | ((with_reducible refine gate_callee (f:=29) rfl ?_);refine goesL_ (some 8) rfl rfl Try.func29 (by kernel_rfl) rfl #[.slice A0_0 l0_0.length c0_0,.int .i64 a1] rfl lm_ ?_;(with_reducible refine (laws_szClassS.calls k _ _ l0_0 a1 t2 _ ?side1 ?side2 A3.out).mono ?_);(case side1=>exact cc_ (Kd.C_below HR0_0.out HB.out));(case side2=>exact HC0_0.out);rintro e w10 ⟨rfl,hb⟩;refine ⟨_,rfl,?_⟩;replace BK1:=kb_ BK1 hb;replace HB:=a0_ (below_step hbw_ hb);(try clear hb);(try clear hb2);(try clear hk);(try clear hi)))
  go_ret
  exact ⟨by first | rfl | (simp [errW_none,errW_some] <;> rfl) | (simp [*,errW_none,errW_some] <;> rfl),hbw_⟩
theorem laws_szTree_ev (t : List S73) (a : Int) (h0 : 0 ≤ a) (ha : a ≤ 1048576) (ht : t.length ≤ 9223372036854775807) (hs : ∀ x ∈ t,x.f0.size ≤ 9223372036854775807) :
  ∃ v,Ev (fun k=>laws_szTree.f k t a) v ∧ (0 ≤ v → v ≤ a ∧ t.length ≤ a ∧ ∀ x ∈ t,(x.f0.size : Int) ≤ a):=by
 obtain ⟨v,hv,hg⟩:=laws_szClassS_ev t a h0 ha ht hs
 by_cases h : v < 0
 ·exact ⟨-1,Ev.bind hv (Ev.pos h (Ev.const rfl)),fun h=>by omega⟩
 ·exact ⟨v,Ev.bind hv (Ev.neg h (Ev.const rfl)),hg⟩
end Go.Proofs.Ytjcodcimodnbjaa.P
namespace Go.Proofs.Ytjcodcimodnbjaa.P
open Go.RowKit Go.Proofs.YtjcodcimodnbjaaW.PrintWords Go.Proofs.YtjcodcimodnbjaaW.PrintLast Go.Proofs.YtjcodcimodnbjaaW.PrintMore
attribute [local go_sem] max2_int min2_int max_two min_two max_three min_three max_four min_four
set_option linter.unusedVariables false
set_option linter.unusedSimpArgs false
def laws_szExitS.f (l0 : List (S27)) (a1 : Int) : Option (Int):=if (wrap64 (a1 - (l0.length : Int))) < 0 then (some (-1)) else (some (wrap64 (a1 - (l0.length : Int))))
set_option maxHeartbeats 8000000 in
set_option maxRecDepth 100000 in
theorem laws_szExitS.calls (A0 : Option Addr) (c0 : Nat) (l0 : List (S27)) (a1 : Int) (r : Int) (w : World) (hr0 : Kd.C k27 w A0 l0.length l0) (hc0 : l0.length ≤ c0) (h : laws_szExitS.f l0 a1 = some r) :
  Calls Try.prog 8 #[.slice A0 l0.length c0,.int .i64 a1] w fun e w'=>e = .returned (.int .i64 r) ∧ Drawn0 w w':=by
 have HR0:=a0_ hr0
 have HC0:=a0_ hc0
 clear hr0 hc0
 have H : (if (wrap64 (a1 - (l0.length : Int))) < 0 then (some (-1)) else (some (wrap64 (a1 - (l0.length : Int))))) = some r:=h
 clear h
 by_cases c3 : (wrap64 (a1 - (l0.length : Int))) < 0
 ·rw [if_pos c3] at H
  have c3b0 : decide ((wrap64 (a1 - (l0.length : Int))) < 0) = true:=decide_eq_true c3
  clear c3
  obtain rfl:=Option.some.inj H
  go_enter Try.func8,Try.ntmps8
  go_wp2
  go_ret
  exact ⟨by first | rfl | (simp;done) | (simp [*];done),by repeat (first | exact Drawn0.refl _ | apply Drawn0.step)⟩
 ·rw [if_neg c3] at H
  have c3b0 : decide ((wrap64 (a1 - (l0.length : Int))) < 0) = false:=decide_eq_false c3
  clear c3
  obtain rfl:=Option.some.inj H
  go_enter Try.func8,Try.ntmps8
  go_wp2
  go_ret
  exact ⟨by first | rfl | (simp;done) | (simp [*];done),by repeat (first | exact Drawn0.refl _ | apply Drawn0.step)⟩
theorem laws_szExitS_ev (l : List S27) (a : Int) (h0 : 0 ≤ a) (ha : a ≤ 1048576) (hl : l.length ≤ 9223372036854775807) : ∃ v,Ev (fun _=>laws_szExitS.f l a) v ∧ (0 ≤ v → v ≤ a ∧ l.length ≤ a):=by
 by_cases h : (l.length : Int) ≤ a
 ·refine ⟨a - l.length,Ev.const ?_,fun _=>⟨by omega,h⟩⟩
  unfold laws_szExitS.f
  rw [wrap_in (by omega) (by omega),if_neg (by omega)]
 ·refine ⟨-1,Ev.const ?_,fun h=>by omega⟩
  unfold laws_szExitS.f
  rw [wrap_in (by omega) (by omega),if_pos (by omega)]
end Go.Proofs.Ytjcodcimodnbjaa.P
namespace Go.Proofs.Ytjcodcimodnbjaa.P
open Go.RowKit Go.Proofs.YtjcodcimodnbjaaW.PrintWords Go.Proofs.YtjcodcimodnbjaaW.PrintLast Go.Proofs.YtjcodcimodnbjaaW.PrintMore
attribute [local go_sem] max2_int min2_int max_two min_two max_three min_three max_four min_four
set_option linter.unusedVariables false
set_option linter.unusedSimpArgs false
abbrev Cls:=S76
def okName (s : ByteArray) : Bool:=s.data.toList.all (fun c=>decide (97 ≤ c.toNat) && decide (c.toNat ≤ 122)) && (decide (1 ≤ s.size) && decide (s.size ≤ 6))
def named (t : List Cls) (n : ByteArray) : Int:=idxP (fun x : Cls=>x.f0.toList == n.toList) t
def okCls (t : List Cls) (i : Nat) (x : Cls) : Bool:=okName x.f0 && (decide (named t x.f0 = (i : Int)) && (if i = 0 then decide (x.f1 = -1) else decide (0 ≤ x.f1) && decide (x.f1 ≤ (i : Int) - 1)))
def vT (t : List Cls) : Bool:=(List.range t.length).all (fun i=>okCls t i (t.getD i z76)) && (decide (1 ≤ t.length) && decide (t.length ≤ 8))
def smT (t : List Cls) : Bool:=t.all fun x=>decide (x.f0.size < 9223372036854775807)
def hasC (t : List Cls) (a : Int) : Bool:=decide (0 ≤ a) && decide (a < (t.length : Int))
def upF (t : List Cls) : Nat → Int → List Int
 | 0,_=>[]
 | n + 1,a=>if 0 ≤ a then a :: upF t n (rd_T76 t a).f1 else []
def abv (t : List Cls) (a : Int) : List Int:=upF t (a.toNat + 1) a
def isA (t : List Cls) (a b : Int) : Bool:=(abv t a).contains b
theorem vT_len {t : List Cls} (h : vT t = true) : 1 ≤ t.length ∧ t.length ≤ 8:=by
 unfold vT at h
 simp only [Bool.and_eq_true,decide_eq_true_eq] at h
 exact h.2
theorem vT_at {t : List Cls} (h : vT t = true) (i : Nat) (hi : i < t.length) : okCls t i (t.getD i z76) = true:=by
 unfold vT at h
 simp only [Bool.and_eq_true,List.all_eq_true,List.mem_range] at h
 exact h.1 i hi
theorem vT_name {t : List Cls} (h : vT t = true) (i : Nat) (hi : i < t.length) : okName (t.getD i z76).f0 = true ∧ named t (t.getD i z76).f0 = i:=by
 have:=vT_at h i hi
 unfold okCls at this
 simp only [Bool.and_eq_true,decide_eq_true_eq] at this
 exact ⟨this.1,this.2.1⟩
theorem vT_root {t : List Cls} (h : vT t = true) : (t.getD 0 z76).f1 = -1:=by
 have:=vT_at h 0 (by have:=vT_len h;omega)
 unfold okCls at this
 simp only [Bool.and_eq_true,decide_eq_true_eq,if_pos] at this
 exact this.2.2
theorem vT_par {t : List Cls} (h : vT t = true) (i : Nat) (h0 : 0 < i) (hi : i < t.length) : 0 ≤ (t.getD i z76).f1 ∧ (t.getD i z76).f1 ≤ (i : Int) - 1:=by
 have:=vT_at h i hi
 unfold okCls at this
 rw [if_neg (by omega)] at this
 simp only [Bool.and_eq_true,decide_eq_true_eq] at this
 exact this.2.2
theorem vT_par' {t : List Cls} (h : vT t = true) (a : Int) (h0 : 0 ≤ a) (ha : a < (t.length : Int)) : -1 ≤ (rd_T76 t a).f1 ∧ (rd_T76 t a).f1 < a:=by
 unfold rd_T76
 by_cases e : a = 0
 ·subst e
  have:=vT_root h
  simp only [Int.toNat_zero]
  omega
 ·have:=vT_par h a.toNat (by omega) (by omega)
  omega
theorem upF_more {t : List Cls} (h : vT t = true) : ∀ (n m : Nat) (a : Int),a < (t.length : Int) → a < (n : Int) → a < (m : Int) → upF t n a = upF t m a:=by
 intro n
 induction n with
 | zero=>intro m a ha hn hm;cases m with
  | zero=>rfl
  | succ m=>simp only [upF];rw [if_neg (by omega)]
 | succ n ih =>
  intro m a ha hn hm
  cases m with
  | zero=>simp only [upF];rw [if_neg (by omega)]
  | succ m =>
   simp only [upF]
   by_cases h0 : 0 ≤ a
   ·rw [if_pos h0,if_pos h0]
    have:=vT_par' h a h0 ha
    rw [ih m _ (by omega) (by omega) (by omega)]
   ·rw [if_neg h0,if_neg h0]
theorem abv_step {t : List Cls} (h : vT t = true) (a : Int) (h0 : 0 ≤ a) (ha : a < (t.length : Int)) : abv t a = a :: abv t (rd_T76 t a).f1:=by
 have:=vT_par' h a h0 ha
 unfold abv
 rw [upF,if_pos h0,upF_more h a.toNat ((rd_T76 t a).f1.toNat + 1) _ (by omega) (by omega) (by omega)]
theorem abv_neg (t : List Cls) (a : Int) (h0 : a < 0) : abv t a = []:=by
 unfold abv
 rw [upF,if_neg (by omega)]
theorem upF_len (t : List Cls) : ∀ (n : Nat) (a : Int),(upF t n a).length ≤ n:=by
 intro n
 induction n with
 | zero=>intro a;simp [upF]
 | succ n ih =>
  intro a
  simp only [upF]
  split
  ·have:=ih (rd_T76 t a).f1
   simp only [List.length_cons];omega
  ·simp
theorem vT_small {t : List Cls} (h : vT t = true) : smT t = true:=by
 unfold smT
 rw [List.all_eq_true]
 intro x hx
 obtain ⟨i,hi,rfl⟩:=List.getElem_of_mem hx
 have:=(vT_name h i hi).1
 unfold okName at this
 simp only [Bool.and_eq_true,decide_eq_true_eq] at this
 have h2 : (t.getD i z76) = t[i]:=by simp [hi]
 rw [h2] at this
 simp only [decide_eq_true_eq]
 omega
theorem smT_at {t : List Cls} (h : smT t = true) (i : Nat) (hi : i < t.length) : t[i].f0.size ≤ 9223372036854775806:=by
 unfold smT at h
 rw [List.all_eq_true] at h
 have:=h t[i] (List.getElem_mem hi)
 simp only [decide_eq_true_eq] at this
 omega
theorem hasC_iff {t : List Cls} {a : Int} : hasC t a = true ↔ 0 ≤ a ∧ a < (t.length : Int):=by
 unfold hasC;simp
theorem abv_len {t : List Cls} (h : vT t = true) (a : Int) (ha : a < (t.length : Int)) : (abv t a).length ≤ 8:=by
 have h1:=upF_len t (a.toNat + 1) a
 have h2:=vT_len h
 unfold abv
 by_cases h0 : 0 ≤ a
 ·omega
 ·rw [upF,if_neg h0];simp
end Go.Proofs.Ytjcodcimodnbjaa.P
namespace Go.Proofs.Ytjcodcimodnbjaa.P
open Go.RowKit Go.Proofs.YtjcodcimodnbjaaW.PrintWords Go.Proofs.YtjcodcimodnbjaaW.PrintLast Go.Proofs.YtjcodcimodnbjaaW.PrintMore
attribute [local go_sem] max2_int min2_int max_two min_two max_three min_three max_four min_four
set_option linter.unusedVariables false
set_option linter.unusedSimpArgs false
def toC (x : S73) : Cls:=⟨x.f0,x.f1⟩
theorem smT_of {t : List S73} (h : ∀ x ∈ t,(x.f0.size : Int) ≤ 1048576) : smT (t.map toC) = true:=by
 unfold smT
 rw [List.all_eq_true]
 intro x hx
 obtain ⟨y,hy,rfl⟩:=List.mem_map.1 hx
 exact decide_eq_true (show y.f0.size < 9223372036854775807 by have:=h y hy;omega)
end Go.Proofs.Ytjcodcimodnbjaa.P
namespace Go.Proofs.Ytjcodcimodnbjaa.P
open Go.RowKit Go.Proofs.YtjcodcimodnbjaaW.PrintWords Go.Proofs.YtjcodcimodnbjaaW.PrintLast Go.Proofs.YtjcodcimodnbjaaW.PrintMore
attribute [local go_sem] max2_int min2_int max_two min_two max_three min_three max_four min_four
set_option linter.unusedVariables false
set_option linter.unusedSimpArgs false
def laws_toClass.f (a0_0 : ByteArray) (a0_1 : Int) : Option (ByteArray × Int):=some (a0_0,a0_1)
set_option maxHeartbeats 8000000 in
set_option maxRecDepth 100000 in
theorem laws_toClass.calls (a0_0 : ByteArray) (a0_1 : Int) (r1 : ByteArray) (r2 : Int) (w : World) (h : laws_toClass.f a0_0 a0_1 = some (r1,r2)) :
  Calls Try.prog 48 #[.agg #[.string a0_0,.int .i64 a0_1]] w fun e w'=>e = .returned (.agg #[.string r1,.int .i64 r2]) ∧ Below w.heap.size w w':=by
 have hu73:=Try.underlying73
 have hu76:=Try.underlying76
 have HB:=a0_ (Below.refl w.heap.size w)
 have H : (some (a0_0,a0_1)) = some (r1,r2):=h
 clear h
 simp only [Option.some.injEq,Prod.mk.injEq] at H
 obtain ⟨rfl,rfl⟩:=H
 go_enter Try.func48,Try.ntmps48
 go_wp2_with (first | ((with_reducible refine gate_dst (N:=1) rfl ?_);refine box_event ?hg (N:=1) ?hd (cs:=#[.string a0_0,.int .i64 a0_1]) (t:=73) ?hr ?_;(case hd=>rfl);(case hg=>rfl);(case hr=>first | (go_simp;done) | (go_simp;rfl));intro gb1 hg w2 hbox hb;have BK1:=a0_ (hbox);have GW1:=a0_ ((by rw [hg];exact (below_size hbw_) : w.heap.size ≤ gb1));have GE1:=a0_ ((by rw [hg];exact (below_size hbw_) : w.heap.size ≤ gb1));replace HB:=a0_ (below_step hbw_ hb);clear hb hbox hg) | ((with_reducible refine gate_dst (N:=2) rfl ?_);refine box_event ?hg (N:=2) ?hd (cs:=#[.string (⟨#[]⟩ : ByteArray),.int .i64 0]) (t:=76) ?hr ?_;(case hd=>rfl);(case hg=>rfl);(case hr=>first | (go_simp;done) | (go_simp;rfl));intro gb2 hg w3 hbox hb;have n0_:=kb_ BK1 hb;have n1_:=a0_ (below_step hbw_ hb);have n2_:=a0_ (hbox);have n3_:=a0_ ((by rw [hg];exact (below_size hbw_) : w.heap.size ≤ gb2));have n4_:=a0_ ((by rw [hg];exact (below_size hbw_) : w.heap.size ≤ gb2));have n5_:=a0_ ((by rw [hg];exact Nat.ne_of_lt (blk_lt (bb_ BK1.out)) : gb1 ≠ gb2));have n6_:=a0_ ((by rw [hg];exact Nat.ne_of_gt (blk_lt (bb_ BK1.out)) : gb2 ≠ gb1));clear BK1 HB;have BK1:=n0_;have HB:=n1_;have BK2:=n2_;have GW2:=n3_;have GE2:=n4_;have NB1_2:=n5_;have NB2_1:=n6_;clear n0_ n1_ n2_ n3_ n4_ n5_ n6_;clear hb hbox hg) | ((with_reducible refine gate_dst (N:=3) rfl ?_);refine box_event ?hg (N:=3) ?hd (cs:=#[.string (⟨#[]⟩ : ByteArray),.int .i64 0]) (t:=76) ?hr ?_;(case hd=>rfl);(case hg=>rfl);(case hr=>first | (go_simp;done) | (go_simp;rfl));intro gb3 hg w4 hbox hb;have n0_:=kb_ BK1 hb;have n1_:=kb_ BK2 hb;have n2_:=a0_ (below_step hbw_ hb);have n3_:=a0_ (hbox);have n4_:=a0_ ((by rw [hg];exact (below_size hbw_) : w.heap.size ≤ gb3));have n5_:=a0_ ((by rw [hg];exact (below_size hbw_) : w.heap.size ≤ gb3));have n6_:=a0_ ((by rw [hg];exact Nat.ne_of_lt (blk_lt (bb_ BK1.out)) : gb1 ≠ gb3));have n7_:=a0_ ((by rw [hg];exact Nat.ne_of_gt (blk_lt (bb_ BK1.out)) : gb3 ≠ gb1));have n8_:=a0_ ((by rw [hg];exact Nat.ne_of_lt (blk_lt (bb_ BK2.out)) : gb2 ≠ gb3));have n9_:=a0_ ((by rw [hg];exact Nat.ne_of_gt (blk_lt (bb_ BK2.out)) : gb3 ≠ gb2));clear BK1 BK2 HB;have BK1:=n0_;have BK2:=n1_;have HB:=n2_;have BK3:=n3_;have GW3:=n4_;have GE3:=n5_;have NB1_3:=n6_;have NB3_1:=n7_;have NB2_3:=n8_;have NB3_2:=n9_;clear n0_ n1_ n2_ n3_ n4_ n5_ n6_ n7_ n8_ n9_;clear hb hbox hg;have hnb5:=NB1_2.out;have hnc5:=NB2_1.out;have hnb6:=NB1_3.out;have hnc6:=NB3_1.out;have hcz7_0 : w4.cell? ⟨gb1,0,none⟩ = some (.string a0_0):=(blk_cell BK1.out 0).trans rfl;have hcz7_1 : w4.cell? ⟨gb1,1,none⟩ = some (.int .i64 a0_1):=(blk_cell BK1.out 1).trans rfl;have hfz7_0:=blk_frozen BK1.out 0;have hfz7_1:=blk_frozen BK1.out 1;have hnb8:=NB3_2.out;have hnc8:=NB2_3.out;have hcz9_0 : w4.cell? ⟨gb3,0,none⟩ = some (.string (⟨#[]⟩ : ByteArray)):=(blk_cell BK3.out 0).trans rfl;have hcz9_1 : w4.cell? ⟨gb3,1,none⟩ = some (.int .i64 0):=(blk_cell BK3.out 1).trans rfl;have hfz9_0:=blk_frozen BK3.out 0;have hfz9_1:=blk_frozen BK3.out 1;have hcz10_0 : w4.cell? ⟨gb2,0,none⟩ = some (.string (⟨#[]⟩ : ByteArray)):=(blk_cell BK2.out 0).trans rfl;have hcz10_1 : w4.cell? ⟨gb2,1,none⟩ = some (.int .i64 0):=(blk_cell BK2.out 1).trans rfl;have hfz10_0:=blk_frozen BK2.out 0;have hfz10_1:=blk_frozen BK2.out 1))
 refine bodyPost_ret (results_cell_row rfl _ _ gb2 76 #[.string a0_0,.int .i64 a0_1] (0,0) _ rfl (by (with_reducible repeat (first | refine blk_drewN ?_ _ | refine blk_drew ?_ | refine blk_alloc ?_ _));refine blk_put (cs:=#[.string a0_0,.int .i64 0]) ?_ 1 _ rfl;(with_reducible repeat (first | refine blk_drewN ?_ _ | refine blk_drew ?_ | refine blk_alloc ?_ _));refine blk_put (cs:=#[.string (⟨#[]⟩ : ByteArray),.int .i64 0]) ?_ 0 _ rfl;(with_reducible repeat (first | refine blk_drewN ?_ _ | refine blk_drew ?_ | refine blk_alloc ?_ _));refine blk_far ?_ NB2_3.out _;(with_reducible repeat (first | refine blk_drewN ?_ _ | refine blk_drew ?_ | refine blk_alloc ?_ _));refine blk_far ?_ NB2_3.out _;(with_reducible repeat (first | refine blk_drewN ?_ _ | refine blk_drew ?_ | refine blk_alloc ?_ _));exact BK2.out) Try.underlying76 rfl (by kernel_rfl)) rfl ?_
 exact ⟨by first | rfl | (simp [errW_none,errW_some] <;> rfl) | (simp [*,errW_none,errW_some] <;> rfl),hbw_⟩
end Go.Proofs.Ytjcodcimodnbjaa.P
namespace Go.Proofs.Ytjcodcimodnbjaa.P
open Go.RowKit Go.Proofs.YtjcodcimodnbjaaW.PrintWords Go.Proofs.YtjcodcimodnbjaaW.PrintLast Go.Proofs.YtjcodcimodnbjaaW.PrintMore
attribute [local go_sem] max2_int min2_int max_two min_two max_three min_three max_four min_four
set_option linter.unusedVariables false
set_option linter.unusedSimpArgs false
def laws_toClassS.l0 : Nat → List (S73) → List (S76) → Int → Option ((List (S76)))
 | 0,_,_,_=>none
 | k + 1,x0,x3,x4=>if x4 < (x0.length : Int) then (if 0 ≤ x4 then ((laws_toClass.f ((rd_T73 x0 x4).f0) ((rd_T73 x0 x4).f1)).bind fun bt5=>(if x4 < (x3.length : Int) then (laws_toClassS.l0 k x0 (x3.set (x4 : Int).toNat (⟨bt5.1,bt5.2⟩ : S76)) (wrap64 (x4 + 1))) else (none))) else (none)) else (some x3)
def laws_toClassS.f (k : Nat) (l0 : List (S73)) : Option ((List (S76))):=if 0 ≤ (l0.length : Int) then (if ((l0.length : Int) : Int).toNat ≤ 11728124029610 then (laws_toClassS.l0 k l0 (List.replicate ((l0.length : Int) : Int).toNat z76) 0) else (none)) else (none)
theorem laws_toClassS.mono_l : ∀ k,(∀ y0 y1 y2,LeO (laws_toClassS.l0 k y0 y1 y2) (laws_toClassS.l0 (k + 1) y0 y1 y2))
 | 0=>fun _ _ _ r h=>by simp [laws_toClassS.l0] at h
 | k + 1=>by
  have ih0:=laws_toClassS.mono_l k
  ·intro y0 y1 y2
   unfold laws_toClassS.l0
   repeat' first
   | (with_reducible exact ih0 _ _ _)
   | (with_reducible exact LeO.refl _)
   | (with_reducible exact LeO.none _)
   | (with_reducible refine LeO.ite ?_ ?_)
   | (with_reducible refine LeO.bind ?_ (fun _=>?_))
   | exact ih0 _ _ _
   | exact LeO.none _
   | refine LeO.ite ?_ ?_
   | refine LeO.bind ?_ (fun _=>?_)
theorem laws_toClassS.mono : ∀ a0 k,LeO (laws_toClassS.f k a0) (laws_toClassS.f (k + 1) a0):=by
 intro a0 k
 have ih0:=laws_toClassS.mono_l k
 unfold laws_toClassS.f
 repeat' first
   | (with_reducible exact ih0 _ _ _)
   | (with_reducible exact LeO.refl _)
   | (with_reducible exact LeO.none _)
   | (with_reducible refine LeO.ite ?_ ?_)
   | (with_reducible refine LeO.bind ?_ (fun _=>?_))
   | exact ih0 _ _ _
   | exact LeO.none _
   | refine LeO.ite ?_ ?_
   | refine LeO.bind ?_ (fun _=>?_)
set_option maxHeartbeats 8000000 in
set_option maxRecDepth 100000 in
theorem laws_toClassS.calls (k : Nat) (A0 : Option Addr) (c0 : Nat) (l0 : List (S73)) (r : List (S76)) (w : World) (hr0 : Kd.C k73 w A0 l0.length l0) (hc0 : l0.length ≤ c0) (h : laws_toClassS.f k l0 = some r) :
  Calls Try.prog 32 #[.slice A0 l0.length c0] w fun e w'=>∃ v0_ : Value,e = .returned (v0_) ∧ Kd.R k76 76 w' w.heap.size (fun _=>True) v0_ r ∧ Below w.heap.size w w':=by
 have hu73:=Try.underlying73
 have hu76:=Try.underlying76
 have HR0:=a0_ hr0
 have HC0:=a0_ hc0
 clear hr0 hc0
 have HB:=a0_ (Below.refl w.heap.size w)
 have H : (if 0 ≤ (l0.length : Int) then (if ((l0.length : Int) : Int).toNat ≤ 11728124029610 then (laws_toClassS.l0 k l0 (List.replicate ((l0.length : Int) : Int).toNat z76) 0) else (none)) else (none)) = some r:=h
 clear h
 by_cases c2 : 0 ≤ (l0.length : Int)
 ·rw [if_pos c2] at H
  have c2b0:=eq_true c2
  have c2b1 : decide (0 ≤ (l0.length : Int)) = true:=decide_eq_true c2
  clear c2
  by_cases c3 : ((l0.length : Int) : Int).toNat ≤ 11728124029610
  ·rw [if_pos c3] at H
   have c3b0:=eq_true c3
   have c3b1 : decide (((l0.length : Int) : Int).toNat ≤ 11728124029610) = true:=decide_eq_true c3
   clear c3
   obtain ⟨y1,hy1⟩ : ∃ y_ : List (S76),y_ = (List.replicate ((l0.length : Int) : Int).toNat z76):=⟨_,rfl⟩
   replace H : (laws_toClassS.l0 k l0 y1 0) = some r:=by first | (rw [hy1];with_reducible exact H) | (have H2_:=(Option.bind_some _ _).symm.trans H;rw [hy1];with_reducible exact H2_) | (have H2_:=(Option.bind_some _ _).symm.trans H;with_reducible exact H2_) | with_reducible exact H | (rw [hy1];exact H) | exact H
   have Ny1:=a0_ hy1
   clear hy1
   have H':=a0_ H
   clear H
   go_enter Try.func32,Try.ntmps32
   go_wp2_with (first | ((with_reducible refine gate_dst (N:=7) rfl ?_);refine Kd.R_make k76 _ 76 rfl (N:=7) rfl 33 _ _ rfl (l0.length : Int) rfl rfl Try.underlying33 (.agg #[(.string ⟨#[]⟩),(.int .i64 0)]) 24 info76 rfl (by decide) (by omega) z76 (ok:=fun _=>True) (okp:=fun _=>True) (k76_mkM _ _ _ z76 ) (fun _ hk=>hk) trivial (of_decide_eq_true (by first | (with_reducible assumption) | assumption)) (Nat.le_trans (Nat.mul_le_mul_right _ (of_decide_eq_true (by first | (with_reducible assumption) | assumption) : (l0.length : Int).toNat ≤ 11728124029610)) (by omega)) (Below.refl _ _) (Nat.le_refl _) ?_;intro v2 w4 ho5 hb hg_ hnew_;clear hg_ hnew_;(first | rw [← Ny1.out] at ho5 | (simp only [Int.reduceToNat] at ho5;rw [← Ny1.out] at ho5));have HO3:=a0_ (Kd.R_lower ho5 (below_size hbw_));replace HB:=a0_ (below_step hbw_ hb);clear hb ho5))
   go_loopg [4] k (fun kq v4 w'=>∃ (x3_1 : List (S76)) (x4_1 : Int),v4 = .int .i64 x4_1 ∧ Aside0 (laws_toClassS.l0 kq l0 x3_1 x4_1 = some r) ∧ Aside0 (kq ≤ k) ∧ Aside0 (Kd.R k76 76 w' w.heap.size (fun _=>True) v2 x3_1) ∧ Aside0 (Below w.heap.size w w'))
   case atStart=>exact ⟨(y1),(0),(by first | rfl | (simp;done) | (simp [*];done)),H',⟨Nat.le_refl _⟩,⟨by (with_reducible repeat (first | apply Kd.R_alloc | apply Kd.R_drewN | apply Kd.R_drew));exact HO3.out⟩,⟨hbw_⟩⟩
   case round =>
    clear H'
    try clear c2
    try clear c2b0
    try clear c2b1
    try clear p2
    try clear c3
    try clear c3b0
    try clear c3b1
    obtain ⟨x3_1,x4_1,rfl,HA,HK1,HO_3,HB⟩:=hrel
    cases gk with
    | zero=>exact absurd HA.out (by simp [laws_toClassS.l0])
    | succ k1 =>
     have H:=HA.out
     clear HA
     simp only [laws_toClassS.l0] at H
     by_cases c6 : x4_1 < (l0.length : Int)
     ·rw [if_pos c6] at H
      have c6b0 : decide (x4_1 < (l0.length : Int)) = true:=decide_eq_true c6
      clear c6
      by_cases c7 : 0 ≤ x4_1
      ·rw [if_pos c7] at H
       have c7b0 : decide (0 ≤ x4_1) = true:=decide_eq_true c7
       clear c7
       replace H:=Option.bind_eq_some_iff.mp H
       obtain ⟨⟨t5,t6⟩,A80,H⟩:=H
       try dsimp only at H
       have A8:=a0_ A80
       clear A80
       by_cases c9 : x4_1 < (x3_1.length : Int)
       ·rw [if_pos c9] at H
        have c9b0 : decide (x4_1 < (x3_1.length : Int)) = true:=decide_eq_true c9
        clear c9
        obtain ⟨y7,hy7⟩ : ∃ y_ : List (S76),y_ = (x3_1.set (x4_1 : Int).toNat (⟨t5,t6⟩ : S76)):=⟨_,rfl⟩
        replace H : (laws_toClassS.l0 k1 l0 y7 (wrap64 (x4_1 + 1))) = some r:=by first | (rw [hy7];with_reducible exact H) | (have H2_:=(Option.bind_some _ _).symm.trans H;rw [hy7];with_reducible exact H2_) | (have H2_:=(Option.bind_some _ _).symm.trans H;with_reducible exact H2_) | with_reducible exact H | (rw [hy7];exact H) | exact H
        have Ny7:=a0_ hy7
        clear hy7
        have H':=a0_ H
        clear H
        have p4 : 0 ≤ (x4_1 : Int):=of_decide_eq_true (by first | (with_reducible assumption) | assumption)
        have q4 : x4_1 < (l0.length : Int):=of_decide_eq_true (by first | (with_reducible assumption) | assumption)
        obtain ⟨ad4,e4,hx4_0,hx4_1⟩:=at_T73 HR0.out x4_1 p4 q4
        cases e4
        replace hx4_0:=(HB.out.cell (World.block_lt_of_cell? w _ hx4_0)).trans hx4_0
        replace hx4_1:=(HB.out.cell (World.block_lt_of_cell? w _ hx4_1)).trans hx4_1
        replace p4:=eq_true p4
        replace q4:=eq_true q4
        go_wp2_with (first | ((with_reducible refine gate_callee (f:=48) rfl ?_);refine goesL_ (some 20) rfl rfl Try.func48 (by kernel_rfl) rfl #[.agg #[.string ((rd_T73 l0 x4_1).f0),.int .i64 ((rd_T73 l0 x4_1).f1)]] rfl lm_ ?_;(with_reducible refine (laws_toClass.calls ((rd_T73 l0 x4_1).f0) ((rd_T73 l0 x4_1).f1) t5 t6 _ A8.out).mono ?_);rintro e w11 ⟨rfl,hb⟩;refine ⟨_,rfl,?_⟩;replace HO_3:=rb_ HO_3 hb;replace HB:=a0_ (below_step hbw_ hb);(try clear hb);have p10 : 0 ≤ (x4_1 : Int):=of_decide_eq_true (by first | (with_reducible assumption) | assumption);have q10 : (x4_1 : Int) < ((x3_1.length : Int) : Int):=of_decide_eq_true (by first | (with_reducible assumption) | assumption);obtain ⟨go10,co10,eo10,gb10,gl10,cl10,HG10⟩:=Kd.R_form HO_3.out (by omega);(first | cases eo10 | (injection eo10 with ea_ en_ ec_;(first | subst ea_ | (injection ea_ with ea_;subst ea_));subst ec_;clear en_));have GB10:=a0_ gb10;have GG10:=a0_ HG10;clear gb10 gl10 HG10;obtain ⟨ce10,hcl10,hM10,hcc10,hfr10⟩:=Kd.R_elem HO_3.out z76 (x4_1 : Int) p10 q10;obtain rfl:=k76_openM hM10;have hx10_0 : w11.cell? ⟨go10,(x4_1 : Int).toNat * 2,none⟩ = some (.string ((rd_T76 x3_1 x4_1).f0)):=hcc10 0 _ rfl;have hx10_1 : w11.cell? ⟨go10,(x4_1 : Int).toNat * 2 + 1,none⟩ = some (.int .i64 ((rd_T76 x3_1 x4_1).f1)):=hcc10 1 _ rfl;have hf10_0 : w11.frozen? ⟨go10,(x4_1 : Int).toNat * 2,none⟩ = false:=hfr10 0;have hf10_1 : w11.frozen? ⟨go10,(x4_1 : Int).toNat * 2 + 1,none⟩ = false:=hfr10 1;clear hcl10 hcc10 hfr10 hM10;replace p10:=eq_true p10;replace q10:=eq_true q10;have HX12:=a0_ (show Kd.R k76 76 w11 w.heap.size (fun _=>True) (.slice (some ⟨go10,0,none⟩) x3_1.length co10) x3_1 from (rr_ HO_3.out));obtain ⟨ce12,hcl12,hM12,hcc12,hfr12⟩:=Kd.R_elem HX12.out z76 (x4_1 : Int) (of_decide_eq_true (by first | (with_reducible assumption) | assumption)) (by have h_ : (x4_1 : Int) < ((x3_1.length : Int) : Int):=of_decide_eq_true (by first | (with_reducible assumption) | assumption);first | exact h_ | (have e_:=(Kd.R_reads' HO_3.out).1;omega) | simpa using h_);obtain rfl:=k76_openM hM12;have HP12:=Kd.R_seg HX12.out (x4_1 : Int) (of_decide_eq_true (by first | (with_reducible assumption) | assumption)) (by have h_ : (x4_1 : Int) < ((x3_1.length : Int) : Int):=of_decide_eq_true (by first | (with_reducible assumption) | assumption);first | exact h_ | (have e_:=(Kd.R_reads' HO_3.out).1;omega) | simpa using h_) (seg:=[.string t5,.int .i64 t6]) (j:=0) hcl12 hcc12 (show 2 ≤ 2 from by decide) (x':=(⟨t5,t6⟩ : S76)) (k76_mkM _ _ _ (⟨t5,t6⟩ : S76) ) (fun _ hk=>hk);have hx12_0:=hcc12 0 _ rfl;(try simp only [show (k76).sz = 2 from rfl,Nat.mul_one,Nat.add_zero] at hx12_0);have hf12_0:=hfr12 0;(try simp only [show (k76).sz = 2 from rfl,Nat.mul_one,Nat.add_zero] at hf12_0);have hx12_1:=hcc12 1 _ rfl;(try simp only [show (k76).sz = 2 from rfl,Nat.mul_one,Nat.add_zero] at hx12_1);have hf12_1:=hfr12 1;(try simp only [show (k76).sz = 2 from rfl,Nat.mul_one,Nat.add_zero] at hf12_1);clear hcl12 hcc12 hfr12 hM12) | ((with_reducible refine gate_store (t:=76) (p:=21) rfl ?_);refine store_event (t:=76) (p:=21) (v:=?vo_w13) (w1:=((w11.setCell ⟨go10,(x4_1 : Int).toNat * 2,none⟩ (.string t5)).setCell ⟨go10,(x4_1 : Int).toNat * 2 + 1,none⟩ (.int .i64 t6))) ?hg ?ho ?hn ?hr ?_;(case ho=>rfl);(case hg=>rfl);(case hn=>rfl);(case hr=>first | (go_simp;done) | (go_simp;rfl));intro w13 hw;have hg : w11.grownBy w13 (some go10):=(by rw [hw];exact HP12.2);have hp_ : Kd.R k76 76 w13 w.heap.size (fun _=>True) (.slice (some ⟨go10,0,none⟩) x3_1.length co10) y7:=(by rw [hw,Ny7.out];exact HP12.1);clear HP12;replace HO_3:=a0_ (hp_);replace HB:=a0_ ((by rw [hw];exact below_set (below_set (HB.out) GB10.out) GB10.out : Below w.heap.size w w13));clear hg hw hp_))
        go_roundg k1
        case measure=>have:=HK1.out;omega
        case rel=>exact ⟨(y7),(wrap64 (x4_1 + 1)),(by first | rfl | (simp;done) | (simp [*];done)),H',⟨by have:=HK1.out;omega⟩,⟨by (with_reducible repeat (first | apply Kd.R_alloc | apply Kd.R_drewN | apply Kd.R_drew));exact HO_3.out⟩,⟨hbw_⟩⟩
       ·rw [if_neg c9] at H
        exact absurd H (by simp)
      ·rw [if_neg c7] at H
       exact absurd H (by simp)
     ·rw [if_neg c6] at H
      have c6b0 : decide (x4_1 < (l0.length : Int)) = false:=decide_eq_false c6
      clear c6
      obtain rfl:=Option.some.inj H
      go_wp2
      go_ret
      exact ⟨_,by first | rfl | (simp [errW_none,errW_some] <;> rfl) | (simp [*,errW_none,errW_some] <;> rfl),by (with_reducible repeat (first | apply Kd.R_alloc | apply Kd.R_drewN | apply Kd.R_drew));exact HO_3.out,hbw_⟩
  ·rw [if_neg c3] at H
   exact absurd H (by simp)
 ·rw [if_neg c2] at H
  exact absurd H (by simp)
theorem laws_toClassS_ev (t : List S73) (ht : t.length ≤ 1048576) : Ev (fun k=>laws_toClassS.f k t) (t.map toC):=by
 have h:=st_loop (fun k acc i=>laws_toClassS.l0 k t acc i) t.length (fun i=>((t.take i).map toC) ++ List.replicate (t.length - i) z76) (t.map toC) (by
  intro k i hi
  simp only [laws_toClassS.l0,laws_toClass.f,Option.bind_some]
  rw [if_pos (by omega),if_pos (by omega),if_pos (by rw [fill_len _ _ _ _ (by omega)];omega),wrap_succ (i:=(i : Int)) (n:=t.length) (by omega) (by omega) (by omega)]
  have:=fill_at t toC z73 z76 i hi
  rw [show ((i : Int) : Int).toNat = i by omega]
  rw [show (⟨(rd_T73 t (i : Int)).f0,(rd_T73 t (i : Int)).f1⟩ : Cls) = toC (t.getD i z73) from by simp [toC,rd_T73],this]
  rfl) (by
  intro k
  simp only [laws_toClassS.l0]
  rw [if_neg (by omega)]
  simp)
 refine Ev.of_mono (laws_toClassS.mono t) (K:=t.length + 1) ?_
 unfold laws_toClassS.f
 rw [if_pos (by omega),if_pos (by omega)]
 simpa using h
end Go.Proofs.Ytjcodcimodnbjaa.P
namespace Go.Proofs.Ytjcodcimodnbjaa.P
open Go.RowKit Go.Proofs.YtjcodcimodnbjaaW.PrintWords Go.Proofs.YtjcodcimodnbjaaW.PrintLast Go.Proofs.YtjcodcimodnbjaaW.PrintMore
attribute [local go_sem] max2_int min2_int max_two min_two max_three min_three max_four min_four
set_option linter.unusedVariables false
set_option linter.unusedSimpArgs false
def laws_toTree.f (k : Nat) (l0_0 : List (S73)) : Option ((List (S76))):=(laws_toClassS.f k l0_0).bind fun t4=>(some t4)
theorem laws_toTree.mono : ∀ a0 k,LeO (laws_toTree.f k a0) (laws_toTree.f (k + 1) a0):=by
 intro a0 k
 unfold laws_toTree.f
 repeat' first
   | (with_reducible exact laws_toClassS.mono _ _)
   | (with_reducible exact LeO.refl _)
   | (with_reducible exact LeO.none _)
   | (with_reducible refine LeO.ite ?_ ?_)
   | (with_reducible refine LeO.bind ?_ (fun _=>?_))
   | exact laws_toClassS.mono _ _
   | exact LeO.none _
   | refine LeO.ite ?_ ?_
   | refine LeO.bind ?_ (fun _=>?_)
set_option maxHeartbeats 8000000 in
set_option maxRecDepth 100000 in
theorem laws_toTree.calls (k : Nat) (A0_0 : Option Addr) (c0_0 : Nat) (l0_0 : List (S73)) (r : List (S76)) (w : World) (hr0_0 : Kd.C k73 w A0_0 l0_0.length l0_0) (hc0_0 : l0_0.length ≤ c0_0) (h : laws_toTree.f k l0_0 = some r) :
  Calls Try.prog 10 #[.agg #[.slice A0_0 l0_0.length c0_0]] w fun e w'=>∃ v0_ : Value,e = .returned (.agg #[v0_]) ∧ Kd.R k76 76 w' w.heap.size (fun _=>True) v0_ r ∧ Below w.heap.size w w':=by
 have hu24:=Try.underlying24
 have hu35:=Try.underlying35
 have HR0_0:=a0_ hr0_0
 have HC0_0:=a0_ hc0_0
 clear hr0_0 hc0_0
 have HB:=a0_ (Below.refl w.heap.size w)
 have H : ((laws_toClassS.f k l0_0).bind fun t4=>(some t4)) = some r:=h
 clear h
 replace H:=Option.bind_eq_some_iff.mp H
 obtain ⟨t4,A20,H⟩:=H
 replace H : (some t4) = some r:=H
 have A2:=a0_ A20
 clear A20
 obtain rfl:=Option.some.inj H
 go_enter Try.func10,Try.ntmps10
 go_wp2_with (first | ((with_reducible refine gate_dst (N:=1) rfl ?_);refine box_event ?hg (N:=1) ?hd (cs:=#[.slice A0_0 l0_0.length c0_0]) (t:=24) ?hr ?_;(case hd=>rfl);(case hg=>rfl);(case hr=>first | (go_simp;done) | (go_simp;rfl));intro gb1 hg w3 hbox hb;have BK1:=a0_ (hbox);have GW1:=a0_ ((by rw [hg];exact (below_size hbw_) : w.heap.size ≤ gb1));have GE1:=a0_ ((by rw [hg];exact (below_size hbw_) : w.heap.size ≤ gb1));replace HB:=a0_ (below_step hbw_ hb);clear hb hbox hg) | ((with_reducible refine gate_dst (N:=2) rfl ?_);refine box_event ?hg (N:=2) ?hd (cs:=#[.slice none 0 0]) (t:=35) ?hr ?_;(case hd=>rfl);(case hg=>rfl);(case hr=>first | (go_simp;done) | (go_simp;rfl));intro gb2 hg w4 hbox hb;have n0_:=kb_ BK1 hb;have n1_:=a0_ (below_step hbw_ hb);have n2_:=a0_ (hbox);have n3_:=a0_ ((by rw [hg];exact (below_size hbw_) : w.heap.size ≤ gb2));have n4_:=a0_ ((by rw [hg];exact (below_size hbw_) : w.heap.size ≤ gb2));have n5_:=a0_ ((by rw [hg];exact Nat.ne_of_lt (blk_lt (bb_ BK1.out)) : gb1 ≠ gb2));have n6_:=a0_ ((by rw [hg];exact Nat.ne_of_gt (blk_lt (bb_ BK1.out)) : gb2 ≠ gb1));clear BK1 HB;have BK1:=n0_;have HB:=n1_;have BK2:=n2_;have GW2:=n3_;have GE2:=n4_;have NB1_2:=n5_;have NB2_1:=n6_;clear n0_ n1_ n2_ n3_ n4_ n5_ n6_;clear hb hbox hg) | ((with_reducible refine gate_dst (N:=3) rfl ?_);refine box_event ?hg (N:=3) ?hd (cs:=#[.slice none 0 0]) (t:=35) ?hr ?_;(case hd=>rfl);(case hg=>rfl);(case hr=>first | (go_simp;done) | (go_simp;rfl));intro gb3 hg w5 hbox hb;have n0_:=kb_ BK1 hb;have n1_:=kb_ BK2 hb;have n2_:=a0_ (below_step hbw_ hb);have n3_:=a0_ (hbox);have n4_:=a0_ ((by rw [hg];exact (below_size hbw_) : w.heap.size ≤ gb3));have n5_:=a0_ ((by rw [hg];exact (below_size hbw_) : w.heap.size ≤ gb3));have n6_:=a0_ ((by rw [hg];exact Nat.ne_of_lt (blk_lt (bb_ BK1.out)) : gb1 ≠ gb3));have n7_:=a0_ ((by rw [hg];exact Nat.ne_of_gt (blk_lt (bb_ BK1.out)) : gb3 ≠ gb1));have n8_:=a0_ ((by rw [hg];exact Nat.ne_of_lt (blk_lt (bb_ BK2.out)) : gb2 ≠ gb3));have n9_:=a0_ ((by rw [hg];exact Nat.ne_of_gt (blk_lt (bb_ BK2.out)) : gb3 ≠ gb2));clear BK1 BK2 HB;have BK1:=n0_;have BK2:=n1_;have HB:=n2_;have BK3:=n3_;have GW3:=n4_;have GE3:=n5_;have NB1_3:=n6_;have NB3_1:=n7_;have NB2_3:=n8_;have NB3_2:=n9_;clear n0_ n1_ n2_ n3_ n4_ n5_ n6_ n7_ n8_ n9_;clear hb hbox hg;have hnb6:=NB1_2.out;have hnc6:=NB2_1.out;have hnb7:=NB1_3.out;have hnc7:=NB3_1.out;have hcz8_0 : w5.cell? ⟨gb1,0,none⟩ = some (.slice A0_0 l0_0.length c0_0):=(blk_cell BK1.out 0).trans rfl;have hfz8_0:=blk_frozen BK1.out 0) | ((with_reducible refine gate_callee (f:=32) rfl ?_);refine goesL_ (some 6) rfl rfl Try.func32 (by kernel_rfl) rfl #[.slice A0_0 l0_0.length c0_0] rfl lm_ ?_;(with_reducible refine (laws_toClassS.calls k _ _ l0_0 t4 _ ?side1 ?side2 A2.out).mono ?_);(case side1=>exact cc_ (Kd.C_below HR0_0.out HB.out));(case side2=>exact HC0_0.out);rintro e w9 ⟨v5,rfl,ho0,hb⟩;refine ⟨_,rfl,?_⟩;have HO6:=a0_ (Kd.R_lower ho0 (below_size hbw_));replace BK1:=kb_ BK1 hb;replace BK2:=kb_ BK2 hb;replace BK3:=kb_ BK3 hb;replace HB:=a0_ (below_step hbw_ hb);(try clear hb);(try clear ho0);obtain ⟨Ao10,co10,eo10⟩:=Kd.R_slice HO6.out;subst eo10;have hnb11:=NB3_2.out;have hnc11:=NB2_3.out;have hcz12_0 : w9.cell? ⟨gb3,0,none⟩ = some (.slice none 0 0):=(blk_cell BK3.out 0).trans rfl;have hfz12_0:=blk_frozen BK3.out 0;have hcz13_0 : w9.cell? ⟨gb2,0,none⟩ = some (.slice none 0 0):=(blk_cell BK2.out 0).trans rfl;have hfz13_0:=blk_frozen BK2.out 0))
 refine bodyPost_ret (results_cell_row rfl _ _ gb2 35 #[.slice Ao10 t4.length co10] (0,0) _ rfl (by (with_reducible repeat (first | refine blk_drewN ?_ _ | refine blk_drew ?_ | refine blk_alloc ?_ _));refine blk_put (cs:=#[.slice none 0 0]) ?_ 0 _ rfl;(with_reducible repeat (first | refine blk_drewN ?_ _ | refine blk_drew ?_ | refine blk_alloc ?_ _));refine blk_far ?_ NB2_3.out _;(with_reducible repeat (first | refine blk_drewN ?_ _ | refine blk_drew ?_ | refine blk_alloc ?_ _));exact BK2.out) Try.underlying35 rfl (by kernel_rfl)) rfl ?_
 exact ⟨_,by first | rfl | (simp [errW_none,errW_some] <;> rfl) | (simp [*,errW_none,errW_some] <;> rfl),by (with_reducible repeat (first | apply Kd.R_alloc | apply Kd.R_drewN | apply Kd.R_drew));exact Kd.R_mono (Kd.R_far (p:=⟨gb2,0,none⟩) (Kd.R_far (p:=⟨gb3,0,none⟩) (Kd.R_types (Kd.R_types HO6.out BK3.out (by decide)) BK2.out (by decide)) (fun _ hk=>hk.1.2) (.slice Ao10 t4.length co10)) (fun _ hk=>hk.2) (.slice Ao10 t4.length co10)) (fun _ hk=>trivial),hbw_⟩
theorem laws_toTree_ev (t : List S73) (ht : t.length ≤ 1048576) : Ev (fun k=>laws_toTree.f k t) (t.map toC) :=
 Ev.bind (laws_toClassS_ev t ht) (Ev.const rfl)
end Go.Proofs.Ytjcodcimodnbjaa.P
namespace Go.Proofs.Ytjcodcimodnbjaa.P
open Go.RowKit Go.Proofs.YtjcodcimodnbjaaW.PrintWords Go.Proofs.YtjcodcimodnbjaaW.PrintLast Go.Proofs.YtjcodcimodnbjaaW.PrintMore
attribute [local go_sem] max2_int min2_int max_two min_two max_three min_three max_four min_four
set_option linter.unusedVariables false
set_option linter.unusedSimpArgs false
def toExit (x : S27) : S38:=⟨x.f0,x.f1,x.f2⟩
end Go.Proofs.Ytjcodcimodnbjaa.P
namespace Go.Proofs.Ytjcodcimodnbjaa.P
open Go.RowKit Go.Proofs.YtjcodcimodnbjaaW.PrintWords Go.Proofs.YtjcodcimodnbjaaW.PrintLast Go.Proofs.YtjcodcimodnbjaaW.PrintMore
attribute [local go_sem] max2_int min2_int max_two min_two max_three min_three max_four min_four
set_option linter.unusedVariables false
set_option linter.unusedSimpArgs false
def laws_toExit.f (a0_0 : Int) (a0_1 : Int) (a0_2 : Int) : Option (Int × Int × Int):=some (a0_0,a0_1,a0_2)
set_option maxHeartbeats 8000000 in
set_option maxRecDepth 100000 in
theorem laws_toExit.calls (a0_0 : Int) (a0_1 : Int) (a0_2 : Int) (r1 : Int) (r2 : Int) (r3 : Int) (w : World) (h : laws_toExit.f a0_0 a0_1 a0_2 = some (r1,r2,r3)) :
  Calls Try.prog 12 #[.agg #[.int .i64 a0_0,.int .i64 a0_1,.int .i64 a0_2]] w fun e w'=>e = .returned (.agg #[.int .i64 r1,.int .i64 r2,.int .i64 r3]) ∧ Below w.heap.size w w':=by
 have hu27:=Try.underlying27
 have hu38:=Try.underlying38
 have HB:=a0_ (Below.refl w.heap.size w)
 have H : (some (a0_0,a0_1,a0_2)) = some (r1,r2,r3):=h
 clear h
 simp only [Option.some.injEq,Prod.mk.injEq] at H
 obtain ⟨rfl,rfl,rfl⟩:=H
 go_enter Try.func12,Try.ntmps12
 go_wp2_with (first | ((with_reducible refine gate_dst (N:=1) rfl ?_);refine box_event ?hg (N:=1) ?hd (cs:=#[.int .i64 a0_0,.int .i64 a0_1,.int .i64 a0_2]) (t:=27) ?hr ?_;(case hd=>rfl);(case hg=>rfl);(case hr=>first | (go_simp;done) | (go_simp;rfl));intro gb1 hg w2 hbox hb;have BK1:=a0_ (hbox);have GW1:=a0_ ((by rw [hg];exact (below_size hbw_) : w.heap.size ≤ gb1));have GE1:=a0_ ((by rw [hg];exact (below_size hbw_) : w.heap.size ≤ gb1));replace HB:=a0_ (below_step hbw_ hb);clear hb hbox hg) | ((with_reducible refine gate_dst (N:=2) rfl ?_);refine box_event ?hg (N:=2) ?hd (cs:=#[.int .i64 0,.int .i64 0,.int .i64 0]) (t:=38) ?hr ?_;(case hd=>rfl);(case hg=>rfl);(case hr=>first | (go_simp;done) | (go_simp;rfl));intro gb2 hg w3 hbox hb;have n0_:=kb_ BK1 hb;have n1_:=a0_ (below_step hbw_ hb);have n2_:=a0_ (hbox);have n3_:=a0_ ((by rw [hg];exact (below_size hbw_) : w.heap.size ≤ gb2));have n4_:=a0_ ((by rw [hg];exact (below_size hbw_) : w.heap.size ≤ gb2));have n5_:=a0_ ((by rw [hg];exact Nat.ne_of_lt (blk_lt (bb_ BK1.out)) : gb1 ≠ gb2));have n6_:=a0_ ((by rw [hg];exact Nat.ne_of_gt (blk_lt (bb_ BK1.out)) : gb2 ≠ gb1));clear BK1 HB;have BK1:=n0_;have HB:=n1_;have BK2:=n2_;have GW2:=n3_;have GE2:=n4_;have NB1_2:=n5_;have NB2_1:=n6_;clear n0_ n1_ n2_ n3_ n4_ n5_ n6_;clear hb hbox hg) | ((with_reducible refine gate_dst (N:=3) rfl ?_);refine box_event ?hg (N:=3) ?hd (cs:=#[.int .i64 0,.int .i64 0,.int .i64 0]) (t:=38) ?hr ?_;(case hd=>rfl);(case hg=>rfl);(case hr=>first | (go_simp;done) | (go_simp;rfl));intro gb3 hg w4 hbox hb;have n0_:=kb_ BK1 hb;have n1_:=kb_ BK2 hb;have n2_:=a0_ (below_step hbw_ hb);have n3_:=a0_ (hbox);have n4_:=a0_ ((by rw [hg];exact (below_size hbw_) : w.heap.size ≤ gb3));have n5_:=a0_ ((by rw [hg];exact (below_size hbw_) : w.heap.size ≤ gb3));have n6_:=a0_ ((by rw [hg];exact Nat.ne_of_lt (blk_lt (bb_ BK1.out)) : gb1 ≠ gb3));have n7_:=a0_ ((by rw [hg];exact Nat.ne_of_gt (blk_lt (bb_ BK1.out)) : gb3 ≠ gb1));have n8_:=a0_ ((by rw [hg];exact Nat.ne_of_lt (blk_lt (bb_ BK2.out)) : gb2 ≠ gb3));have n9_:=a0_ ((by rw [hg];exact Nat.ne_of_gt (blk_lt (bb_ BK2.out)) : gb3 ≠ gb2));clear BK1 BK2 HB;have BK1:=n0_;have BK2:=n1_;have HB:=n2_;have BK3:=n3_;have GW3:=n4_;have GE3:=n5_;have NB1_3:=n6_;have NB3_1:=n7_;have NB2_3:=n8_;have NB3_2:=n9_;clear n0_ n1_ n2_ n3_ n4_ n5_ n6_ n7_ n8_ n9_;clear hb hbox hg;have hnb5:=NB1_2.out;have hnc5:=NB2_1.out;have hnb6:=NB1_3.out;have hnc6:=NB3_1.out;have hcz7_0 : w4.cell? ⟨gb1,0,none⟩ = some (.int .i64 a0_0):=(blk_cell BK1.out 0).trans rfl;have hcz7_1 : w4.cell? ⟨gb1,1,none⟩ = some (.int .i64 a0_1):=(blk_cell BK1.out 1).trans rfl;have hcz7_2 : w4.cell? ⟨gb1,2,none⟩ = some (.int .i64 a0_2):=(blk_cell BK1.out 2).trans rfl;have hfz7_0:=blk_frozen BK1.out 0;have hfz7_1:=blk_frozen BK1.out 1;have hfz7_2:=blk_frozen BK1.out 2;have hnb8:=NB3_2.out;have hnc8:=NB2_3.out;have hcz9_0 : w4.cell? ⟨gb3,0,none⟩ = some (.int .i64 0):=(blk_cell BK3.out 0).trans rfl;have hcz9_1 : w4.cell? ⟨gb3,1,none⟩ = some (.int .i64 0):=(blk_cell BK3.out 1).trans rfl;have hcz9_2 : w4.cell? ⟨gb3,2,none⟩ = some (.int .i64 0):=(blk_cell BK3.out 2).trans rfl;have hfz9_0:=blk_frozen BK3.out 0;have hfz9_1:=blk_frozen BK3.out 1;have hfz9_2:=blk_frozen BK3.out 2;have hcz10_0 : w4.cell? ⟨gb2,0,none⟩ = some (.int .i64 0):=(blk_cell BK2.out 0).trans rfl;have hcz10_1 : w4.cell? ⟨gb2,1,none⟩ = some (.int .i64 0):=(blk_cell BK2.out 1).trans rfl;have hcz10_2 : w4.cell? ⟨gb2,2,none⟩ = some (.int .i64 0):=(blk_cell BK2.out 2).trans rfl;have hfz10_0:=blk_frozen BK2.out 0;have hfz10_1:=blk_frozen BK2.out 1;have hfz10_2:=blk_frozen BK2.out 2))
 refine bodyPost_ret (results_cell_row rfl _ _ gb2 38 #[.int .i64 a0_0,.int .i64 a0_1,.int .i64 a0_2] (0,0) _ rfl (by (with_reducible repeat (first | refine blk_drewN ?_ _ | refine blk_drew ?_ | refine blk_alloc ?_ _));refine blk_put (cs:=#[.int .i64 a0_0,.int .i64 a0_1,.int .i64 0]) ?_ 2 _ rfl;(with_reducible repeat (first | refine blk_drewN ?_ _ | refine blk_drew ?_ | refine blk_alloc ?_ _));refine blk_put (cs:=#[.int .i64 a0_0,.int .i64 0,.int .i64 0]) ?_ 1 _ rfl;(with_reducible repeat (first | refine blk_drewN ?_ _ | refine blk_drew ?_ | refine blk_alloc ?_ _));refine blk_put (cs:=#[.int .i64 0,.int .i64 0,.int .i64 0]) ?_ 0 _ rfl;(with_reducible repeat (first | refine blk_drewN ?_ _ | refine blk_drew ?_ | refine blk_alloc ?_ _));refine blk_far ?_ NB2_3.out _;(with_reducible repeat (first | refine blk_drewN ?_ _ | refine blk_drew ?_ | refine blk_alloc ?_ _));refine blk_far ?_ NB2_3.out _;(with_reducible repeat (first | refine blk_drewN ?_ _ | refine blk_drew ?_ | refine blk_alloc ?_ _));refine blk_far ?_ NB2_3.out _;(with_reducible repeat (first | refine blk_drewN ?_ _ | refine blk_drew ?_ | refine blk_alloc ?_ _));exact BK2.out) Try.underlying38 rfl (by kernel_rfl)) rfl ?_
 exact ⟨by first | rfl | (simp [errW_none,errW_some] <;> rfl) | (simp [*,errW_none,errW_some] <;> rfl),hbw_⟩
end Go.Proofs.Ytjcodcimodnbjaa.P
namespace Go.Proofs.Ytjcodcimodnbjaa.P
open Go.RowKit Go.Proofs.YtjcodcimodnbjaaW.PrintWords Go.Proofs.YtjcodcimodnbjaaW.PrintLast Go.Proofs.YtjcodcimodnbjaaW.PrintMore
attribute [local go_sem] max2_int min2_int max_two min_two max_three min_three max_four min_four
set_option linter.unusedVariables false
set_option linter.unusedSimpArgs false
def laws_toExitS.l0 : Nat → List (S27) → List (S38) → Int → Option ((List (S38)))
 | 0,_,_,_=>none
 | k + 1,x0,x3,x4=>if x4 < (x0.length : Int) then (if 0 ≤ x4 then ((laws_toExit.f ((rd_T27 x0 x4).f0) ((rd_T27 x0 x4).f1) ((rd_T27 x0 x4).f2)).bind fun bt5=>(if x4 < (x3.length : Int) then (laws_toExitS.l0 k x0 (x3.set (x4 : Int).toNat (⟨bt5.1,bt5.2.1,bt5.2.2⟩ : S38)) (wrap64 (x4 + 1))) else (none))) else (none)) else (some x3)
def laws_toExitS.f (k : Nat) (l0 : List (S27)) : Option ((List (S38))):=if 0 ≤ (l0.length : Int) then (if ((l0.length : Int) : Int).toNat ≤ 11728124029610 then (laws_toExitS.l0 k l0 (List.replicate ((l0.length : Int) : Int).toNat z38) 0) else (none)) else (none)
theorem laws_toExitS.mono_l : ∀ k,(∀ y0 y1 y2,LeO (laws_toExitS.l0 k y0 y1 y2) (laws_toExitS.l0 (k + 1) y0 y1 y2))
 | 0=>fun _ _ _ r h=>by simp [laws_toExitS.l0] at h
 | k + 1=>by
  have ih0:=laws_toExitS.mono_l k
  ·intro y0 y1 y2
   unfold laws_toExitS.l0
   repeat' first
   | (with_reducible exact ih0 _ _ _)
   | (with_reducible exact LeO.refl _)
   | (with_reducible exact LeO.none _)
   | (with_reducible refine LeO.ite ?_ ?_)
   | (with_reducible refine LeO.bind ?_ (fun _=>?_))
   | exact ih0 _ _ _
   | exact LeO.none _
   | refine LeO.ite ?_ ?_
   | refine LeO.bind ?_ (fun _=>?_)
theorem laws_toExitS.mono : ∀ a0 k,LeO (laws_toExitS.f k a0) (laws_toExitS.f (k + 1) a0):=by
 intro a0 k
 have ih0:=laws_toExitS.mono_l k
 unfold laws_toExitS.f
 repeat' first
   | (with_reducible exact ih0 _ _ _)
   | (with_reducible exact LeO.refl _)
   | (with_reducible exact LeO.none _)
   | (with_reducible refine LeO.ite ?_ ?_)
   | (with_reducible refine LeO.bind ?_ (fun _=>?_))
   | exact ih0 _ _ _
   | exact LeO.none _
   | refine LeO.ite ?_ ?_
   | refine LeO.bind ?_ (fun _=>?_)
set_option maxHeartbeats 8000000 in
set_option maxRecDepth 100000 in
theorem laws_toExitS.calls (k : Nat) (A0 : Option Addr) (c0 : Nat) (l0 : List (S27)) (r : List (S38)) (w : World) (hr0 : Kd.C k27 w A0 l0.length l0) (hc0 : l0.length ≤ c0) (h : laws_toExitS.f k l0 = some r) :
  Calls Try.prog 11 #[.slice A0 l0.length c0] w fun e w'=>∃ v0_ : Value,e = .returned (v0_) ∧ Kd.R k38 38 w' w.heap.size (fun _=>True) v0_ r ∧ Below w.heap.size w w':=by
 have hu27:=Try.underlying27
 have hu38:=Try.underlying38
 have HR0:=a0_ hr0
 have HC0:=a0_ hc0
 clear hr0 hc0
 have HB:=a0_ (Below.refl w.heap.size w)
 have H : (if 0 ≤ (l0.length : Int) then (if ((l0.length : Int) : Int).toNat ≤ 11728124029610 then (laws_toExitS.l0 k l0 (List.replicate ((l0.length : Int) : Int).toNat z38) 0) else (none)) else (none)) = some r:=h
 clear h
 by_cases c2 : 0 ≤ (l0.length : Int)
 ·rw [if_pos c2] at H
  have c2b0:=eq_true c2
  have c2b1 : decide (0 ≤ (l0.length : Int)) = true:=decide_eq_true c2
  clear c2
  by_cases c3 : ((l0.length : Int) : Int).toNat ≤ 11728124029610
  ·rw [if_pos c3] at H
   have c3b0:=eq_true c3
   have c3b1 : decide (((l0.length : Int) : Int).toNat ≤ 11728124029610) = true:=decide_eq_true c3
   clear c3
   obtain ⟨y1,hy1⟩ : ∃ y_ : List (S38),y_ = (List.replicate ((l0.length : Int) : Int).toNat z38):=⟨_,rfl⟩
   replace H : (laws_toExitS.l0 k l0 y1 0) = some r:=by first | (rw [hy1];with_reducible exact H) | (have H2_:=(Option.bind_some _ _).symm.trans H;rw [hy1];with_reducible exact H2_) | (have H2_:=(Option.bind_some _ _).symm.trans H;with_reducible exact H2_) | with_reducible exact H | (rw [hy1];exact H) | exact H
   have Ny1:=a0_ hy1
   clear hy1
   have H':=a0_ H
   clear H
   go_enter Try.func11,Try.ntmps11
   go_wp2_with (first | ((with_reducible refine gate_dst (N:=7) rfl ?_);refine Kd.R_make k38 _ 38 rfl (N:=7) rfl 30 _ _ rfl (l0.length : Int) rfl rfl Try.underlying30 (.agg #[(.int .i64 0),(.int .i64 0),(.int .i64 0)]) 24 info38 rfl (by decide) (by omega) z38 (ok:=fun _=>True) (okp:=fun _=>True) (k38_mkM _ _ _ z38 ) (fun _ hk=>hk) trivial (of_decide_eq_true (by first | (with_reducible assumption) | assumption)) (Nat.le_trans (Nat.mul_le_mul_right _ (of_decide_eq_true (by first | (with_reducible assumption) | assumption) : (l0.length : Int).toNat ≤ 11728124029610)) (by omega)) (Below.refl _ _) (Nat.le_refl _) ?_;intro v2 w4 ho5 hb hg_ hnew_;clear hg_ hnew_;(first | rw [← Ny1.out] at ho5 | (simp only [Int.reduceToNat] at ho5;rw [← Ny1.out] at ho5));have HO3:=a0_ (Kd.R_lower ho5 (below_size hbw_));replace HB:=a0_ (below_step hbw_ hb);clear hb ho5))
   go_loopg [4] k (fun kq v4 w'=>∃ (x3_1 : List (S38)) (x4_1 : Int),v4 = .int .i64 x4_1 ∧ Aside0 (laws_toExitS.l0 kq l0 x3_1 x4_1 = some r) ∧ Aside0 (kq ≤ k) ∧ Aside0 (Kd.R k38 38 w' w.heap.size (fun _=>True) v2 x3_1) ∧ Aside0 (Below w.heap.size w w'))
   case atStart=>exact ⟨(y1),(0),(by first | rfl | (simp;done) | (simp [*];done)),H',⟨Nat.le_refl _⟩,⟨by (with_reducible repeat (first | apply Kd.R_alloc | apply Kd.R_drewN | apply Kd.R_drew));exact HO3.out⟩,⟨hbw_⟩⟩
   case round =>
    clear H'
    try clear c1
    try clear c2
    try clear c2b0
    try clear c2b1
    try clear p2
    try clear c3
    try clear c3b0
    try clear c3b1
    obtain ⟨x3_1,x4_1,rfl,HA,HK1,HO_3,HB⟩:=hrel
    cases gk with
    | zero=>exact absurd HA.out (by simp [laws_toExitS.l0])
    | succ k1 =>
     have H:=HA.out
     clear HA
     simp only [laws_toExitS.l0] at H
     by_cases c6 : x4_1 < (l0.length : Int)
     ·rw [if_pos c6] at H
      have c6b0 : decide (x4_1 < (l0.length : Int)) = true:=decide_eq_true c6
      clear c6
      by_cases c7 : 0 ≤ x4_1
      ·rw [if_pos c7] at H
       have c7b0 : decide (0 ≤ x4_1) = true:=decide_eq_true c7
       clear c7
       replace H:=Option.bind_eq_some_iff.mp H
       obtain ⟨⟨t5,t6,t7⟩,A80,H⟩:=H
       try dsimp only at H
       have A8:=a0_ A80
       clear A80
       by_cases c9 : x4_1 < (x3_1.length : Int)
       ·rw [if_pos c9] at H
        have c9b0 : decide (x4_1 < (x3_1.length : Int)) = true:=decide_eq_true c9
        clear c9
        obtain ⟨y8,hy8⟩ : ∃ y_ : List (S38),y_ = (x3_1.set (x4_1 : Int).toNat (⟨t5,t6,t7⟩ : S38)):=⟨_,rfl⟩
        replace H : (laws_toExitS.l0 k1 l0 y8 (wrap64 (x4_1 + 1))) = some r:=by first | (rw [hy8];with_reducible exact H) | (have H2_:=(Option.bind_some _ _).symm.trans H;rw [hy8];with_reducible exact H2_) | (have H2_:=(Option.bind_some _ _).symm.trans H;with_reducible exact H2_) | with_reducible exact H | (rw [hy8];exact H) | exact H
        have Ny8:=a0_ hy8
        clear hy8
        have H':=a0_ H
        clear H
        have p4 : 0 ≤ (x4_1 : Int):=of_decide_eq_true (by first | (with_reducible assumption) | assumption)
        have q4 : x4_1 < (l0.length : Int):=of_decide_eq_true (by first | (with_reducible assumption) | assumption)
        obtain ⟨ad4,e4,hx4_0,hx4_1,hx4_2⟩:=at_T27 HR0.out x4_1 p4 q4
        cases e4
        replace hx4_0:=(HB.out.cell (World.block_lt_of_cell? w _ hx4_0)).trans hx4_0
        replace hx4_1:=(HB.out.cell (World.block_lt_of_cell? w _ hx4_1)).trans hx4_1
        replace hx4_2:=(HB.out.cell (World.block_lt_of_cell? w _ hx4_2)).trans hx4_2
        replace p4:=eq_true p4
        replace q4:=eq_true q4
        go_wp2_with (first | ((with_reducible refine gate_callee (f:=12) rfl ?_);refine goesL_ (some 20) rfl rfl Try.func12 (by kernel_rfl) rfl #[.agg #[.int .i64 ((rd_T27 l0 x4_1).f0),.int .i64 ((rd_T27 l0 x4_1).f1),.int .i64 ((rd_T27 l0 x4_1).f2)]] rfl lm_ ?_;(with_reducible refine (laws_toExit.calls ((rd_T27 l0 x4_1).f0) ((rd_T27 l0 x4_1).f1) ((rd_T27 l0 x4_1).f2) t5 t6 t7 _ A8.out).mono ?_);rintro e w11 ⟨rfl,hb⟩;refine ⟨_,rfl,?_⟩;replace HO_3:=rb_ HO_3 hb;replace HB:=a0_ (below_step hbw_ hb);(try clear hb);have p10 : 0 ≤ (x4_1 : Int):=of_decide_eq_true (by first | (with_reducible assumption) | assumption);have q10 : (x4_1 : Int) < ((x3_1.length : Int) : Int):=of_decide_eq_true (by first | (with_reducible assumption) | assumption);obtain ⟨go10,co10,eo10,gb10,gl10,cl10,HG10⟩:=Kd.R_form HO_3.out (by omega);(first | cases eo10 | (injection eo10 with ea_ en_ ec_;(first | subst ea_ | (injection ea_ with ea_;subst ea_));subst ec_;clear en_));have GB10:=a0_ gb10;have GG10:=a0_ HG10;clear gb10 gl10 HG10;obtain ⟨ce10,hcl10,hM10,hcc10,hfr10⟩:=Kd.R_elem HO_3.out z38 (x4_1 : Int) p10 q10;obtain rfl:=k38_openM hM10;have hx10_0 : w11.cell? ⟨go10,(x4_1 : Int).toNat * 3,none⟩ = some (.int .i64 ((rd_T38 x3_1 x4_1).f0)):=hcc10 0 _ rfl;have hx10_1 : w11.cell? ⟨go10,(x4_1 : Int).toNat * 3 + 1,none⟩ = some (.int .i64 ((rd_T38 x3_1 x4_1).f1)):=hcc10 1 _ rfl;have hx10_2 : w11.cell? ⟨go10,(x4_1 : Int).toNat * 3 + 2,none⟩ = some (.int .i64 ((rd_T38 x3_1 x4_1).f2)):=hcc10 2 _ rfl;have hf10_0 : w11.frozen? ⟨go10,(x4_1 : Int).toNat * 3,none⟩ = false:=hfr10 0;have hf10_1 : w11.frozen? ⟨go10,(x4_1 : Int).toNat * 3 + 1,none⟩ = false:=hfr10 1;have hf10_2 : w11.frozen? ⟨go10,(x4_1 : Int).toNat * 3 + 2,none⟩ = false:=hfr10 2;clear hcl10 hcc10 hfr10 hM10;replace p10:=eq_true p10;replace q10:=eq_true q10;have HX12:=a0_ (show Kd.R k38 38 w11 w.heap.size (fun _=>True) (.slice (some ⟨go10,0,none⟩) x3_1.length co10) x3_1 from (rr_ HO_3.out));obtain ⟨ce12,hcl12,hM12,hcc12,hfr12⟩:=Kd.R_elem HX12.out z38 (x4_1 : Int) (of_decide_eq_true (by first | (with_reducible assumption) | assumption)) (by have h_ : (x4_1 : Int) < ((x3_1.length : Int) : Int):=of_decide_eq_true (by first | (with_reducible assumption) | assumption);first | exact h_ | (have e_:=(Kd.R_reads' HO_3.out).1;omega) | simpa using h_);obtain rfl:=k38_openM hM12;have HP12:=Kd.R_seg HX12.out (x4_1 : Int) (of_decide_eq_true (by first | (with_reducible assumption) | assumption)) (by have h_ : (x4_1 : Int) < ((x3_1.length : Int) : Int):=of_decide_eq_true (by first | (with_reducible assumption) | assumption);first | exact h_ | (have e_:=(Kd.R_reads' HO_3.out).1;omega) | simpa using h_) (seg:=[.int .i64 t5,.int .i64 t6,.int .i64 t7]) (j:=0) hcl12 hcc12 (show 3 ≤ 3 from by decide) (x':=(⟨t5,t6,t7⟩ : S38)) (k38_mkM _ _ _ (⟨t5,t6,t7⟩ : S38) ) (fun _ hk=>hk);have hx12_0:=hcc12 0 _ rfl;(try simp only [show (k38).sz = 3 from rfl,Nat.mul_one,Nat.add_zero] at hx12_0);have hf12_0:=hfr12 0;(try simp only [show (k38).sz = 3 from rfl,Nat.mul_one,Nat.add_zero] at hf12_0);have hx12_1:=hcc12 1 _ rfl;(try simp only [show (k38).sz = 3 from rfl,Nat.mul_one,Nat.add_zero] at hx12_1);have hf12_1:=hfr12 1;(try simp only [show (k38).sz = 3 from rfl,Nat.mul_one,Nat.add_zero] at hf12_1);have hx12_2:=hcc12 2 _ rfl;(try simp only [show (k38).sz = 3 from rfl,Nat.mul_one,Nat.add_zero] at hx12_2);have hf12_2:=hfr12 2;(try simp only [show (k38).sz = 3 from rfl,Nat.mul_one,Nat.add_zero] at hf12_2);clear hcl12 hcc12 hfr12 hM12) | ((with_reducible refine gate_store (t:=38) (p:=21) rfl ?_);refine store_event (t:=38) (p:=21) (v:=?vo_w13) (w1:=(((w11.setCell ⟨go10,(x4_1 : Int).toNat * 3,none⟩ (.int .i64 t5)).setCell ⟨go10,(x4_1 : Int).toNat * 3 + 1,none⟩ (.int .i64 t6)).setCell ⟨go10,(x4_1 : Int).toNat * 3 + 2,none⟩ (.int .i64 t7))) ?hg ?ho ?hn ?hr ?_;(case ho=>rfl);(case hg=>rfl);(case hn=>rfl);(case hr=>first | (go_simp;done) | (go_simp;rfl));intro w13 hw;have hg : w11.grownBy w13 (some go10):=(by rw [hw];exact HP12.2);have hp_ : Kd.R k38 38 w13 w.heap.size (fun _=>True) (.slice (some ⟨go10,0,none⟩) x3_1.length co10) y8:=(by rw [hw,Ny8.out];exact HP12.1);clear HP12;replace HO_3:=a0_ (hp_);replace HB:=a0_ ((by rw [hw];exact below_set (below_set (below_set (HB.out) GB10.out) GB10.out) GB10.out : Below w.heap.size w w13));clear hg hw hp_))
        go_roundg k1
        case measure=>have:=HK1.out;omega
        case rel=>exact ⟨(y8),(wrap64 (x4_1 + 1)),(by first | rfl | (simp;done) | (simp [*];done)),H',⟨by have:=HK1.out;omega⟩,⟨by (with_reducible repeat (first | apply Kd.R_alloc | apply Kd.R_drewN | apply Kd.R_drew));exact HO_3.out⟩,⟨hbw_⟩⟩
       ·rw [if_neg c9] at H
        exact absurd H (by simp)
      ·rw [if_neg c7] at H
       exact absurd H (by simp)
     ·rw [if_neg c6] at H
      have c6b0 : decide (x4_1 < (l0.length : Int)) = false:=decide_eq_false c6
      clear c6
      obtain rfl:=Option.some.inj H
      go_wp2
      go_ret
      exact ⟨_,by first | rfl | (simp [errW_none,errW_some] <;> rfl) | (simp [*,errW_none,errW_some] <;> rfl),by (with_reducible repeat (first | apply Kd.R_alloc | apply Kd.R_drewN | apply Kd.R_drew));exact HO_3.out,hbw_⟩
  ·rw [if_neg c3] at H
   exact absurd H (by simp)
 ·rw [if_neg c2] at H
  exact absurd H (by simp)
theorem laws_toExitS_ev (t : List S27) (ht : t.length ≤ 1048576) : Ev (fun k=>laws_toExitS.f k t) (t.map toExit):=by
 have h:=st_loop (fun k acc i=>laws_toExitS.l0 k t acc i) t.length (fun i=>((t.take i).map toExit) ++ List.replicate (t.length - i) z38) (t.map toExit) (by
  intro k i hi
  simp only [laws_toExitS.l0,laws_toExit.f,Option.bind_some]
  rw [if_pos (by omega),if_pos (by omega),if_pos (by rw [fill_len _ _ _ _ (by omega)];omega),wrap_succ (i:=(i : Int)) (n:=t.length) (by omega) (by omega) (by omega)]
  have:=fill_at t toExit z27 z38 i hi
  rw [show ((i : Int) : Int).toNat = i by omega]
  rw [show (⟨(rd_T27 t (i : Int)).f0,(rd_T27 t (i : Int)).f1,(rd_T27 t (i : Int)).f2⟩ : S38) = toExit (t.getD i z27) from by simp [toExit,rd_T27],this]
  rfl) (by
  intro k
  simp only [laws_toExitS.l0]
  rw [if_neg (by omega)]
  simp)
 refine Ev.of_mono (laws_toExitS.mono t) (K:=t.length + 1) ?_
 unfold laws_toExitS.f
 rw [if_pos (by omega),if_pos (by omega)]
 simpa using h
end Go.Proofs.Ytjcodcimodnbjaa.P
namespace Go.Proofs.Ytjcodcimodnbjaa.P
open Go.RowKit Go.Proofs.YtjcodcimodnbjaaW.PrintWords Go.Proofs.YtjcodcimodnbjaaW.PrintLast Go.Proofs.YtjcodcimodnbjaaW.PrintMore
attribute [local go_sem] max2_int min2_int max_two min_two max_three min_three max_four min_four
set_option linter.unusedVariables false
set_option linter.unusedSimpArgs false
def laws_eqExit.f (a0_0 : Int) (a0_1 : Int) (a0_2 : Int) (a1_0 : Int) (a1_1 : Int) (a1_2 : Int) : Option (Bool):=if a0_0 = a1_0 then (if a0_1 = a1_1 then (if a0_2 = a1_2 then (some true) else (some false)) else (some false)) else (some false)
set_option maxHeartbeats 8000000 in
set_option maxRecDepth 100000 in
theorem laws_eqExit.calls (a0_0 : Int) (a0_1 : Int) (a0_2 : Int) (a1_0 : Int) (a1_1 : Int) (a1_2 : Int) (r : Bool) (w : World) (h : laws_eqExit.f a0_0 a0_1 a0_2 a1_0 a1_1 a1_2 = some r) :
  Calls Try.prog 21 #[.agg #[.int .i64 a0_0,.int .i64 a0_1,.int .i64 a0_2],.agg #[.int .i64 a1_0,.int .i64 a1_1,.int .i64 a1_2]] w fun e w'=>e = .returned (.bool r) ∧ Below w.heap.size w w':=by
 have hu38:=Try.underlying38
 have HB:=a0_ (Below.refl w.heap.size w)
 have H : (if a0_0 = a1_0 then (if a0_1 = a1_1 then (if a0_2 = a1_2 then (some true) else (some false)) else (some false)) else (some false)) = some r:=h
 clear h
 by_cases c3 : a0_0 = a1_0
 ·rw [if_pos c3] at H
  have c3b0 : (a0_0 == a1_0) = true:=beq_iff_eq.mpr c3
  have c3b1 : (a0_0 != a1_0) = false:=bne_eq_false_iff_eq.mpr c3
  clear c3
  by_cases c4 : a0_1 = a1_1
  ·rw [if_pos c4] at H
   have c4b0 : (a0_1 == a1_1) = true:=beq_iff_eq.mpr c4
   have c4b1 : (a0_1 != a1_1) = false:=bne_eq_false_iff_eq.mpr c4
   clear c4
   by_cases c5 : a0_2 = a1_2
   ·rw [if_pos c5] at H
    have c5b0 : (a0_2 == a1_2) = true:=beq_iff_eq.mpr c5
    have c5b1 : (a0_2 != a1_2) = false:=bne_eq_false_iff_eq.mpr c5
    clear c5
    obtain rfl:=Option.some.inj H
    go_enter Try.func21,Try.ntmps21
    go_wp2_with (first | ((with_reducible refine gate_dst (N:=2) rfl ?_);refine box_event ?hg (N:=2) ?hd (cs:=#[.int .i64 a0_0,.int .i64 a0_1,.int .i64 a0_2]) (t:=38) ?hr ?_;(case hd=>rfl);(case hg=>rfl);(case hr=>first | (go_simp;done) | (go_simp;rfl));intro gb1 hg w6 hbox hb;have BK1:=a0_ (hbox);have GW1:=a0_ ((by rw [hg];exact (below_size hbw_) : w.heap.size ≤ gb1));have GE1:=a0_ ((by rw [hg];exact (below_size hbw_) : w.heap.size ≤ gb1));replace HB:=a0_ (below_step hbw_ hb);clear hb hbox hg) | ((with_reducible refine gate_dst (N:=3) rfl ?_);refine box_event ?hg (N:=3) ?hd (cs:=#[.int .i64 a1_0,.int .i64 a1_1,.int .i64 a1_2]) (t:=38) ?hr ?_;(case hd=>rfl);(case hg=>rfl);(case hr=>first | (go_simp;done) | (go_simp;rfl));intro gb2 hg w7 hbox hb;have n0_:=kb_ BK1 hb;have n1_:=a0_ (below_step hbw_ hb);have n2_:=a0_ (hbox);have n3_:=a0_ ((by rw [hg];exact (below_size hbw_) : w.heap.size ≤ gb2));have n4_:=a0_ ((by rw [hg];exact (below_size hbw_) : w.heap.size ≤ gb2));have n5_:=a0_ ((by rw [hg];exact Nat.ne_of_lt (blk_lt (bb_ BK1.out)) : gb1 ≠ gb2));have n6_:=a0_ ((by rw [hg];exact Nat.ne_of_gt (blk_lt (bb_ BK1.out)) : gb2 ≠ gb1));clear BK1 HB;have BK1:=n0_;have HB:=n1_;have BK2:=n2_;have GW2:=n3_;have GE2:=n4_;have NB1_2:=n5_;have NB2_1:=n6_;clear n0_ n1_ n2_ n3_ n4_ n5_ n6_;clear hb hbox hg;have hnb8:=NB1_2.out;have hnc8:=NB2_1.out;have hcz9_0 : w7.cell? ⟨gb1,0,none⟩ = some (.int .i64 a0_0):=(blk_cell BK1.out 0).trans rfl;have hcz9_1 : w7.cell? ⟨gb1,1,none⟩ = some (.int .i64 a0_1):=(blk_cell BK1.out 1).trans rfl;have hcz9_2 : w7.cell? ⟨gb1,2,none⟩ = some (.int .i64 a0_2):=(blk_cell BK1.out 2).trans rfl;have hfz9_0:=blk_frozen BK1.out 0;have hfz9_1:=blk_frozen BK1.out 1;have hfz9_2:=blk_frozen BK1.out 2;have hcz10_0 : w7.cell? ⟨gb2,0,none⟩ = some (.int .i64 a1_0):=(blk_cell BK2.out 0).trans rfl;have hcz10_1 : w7.cell? ⟨gb2,1,none⟩ = some (.int .i64 a1_1):=(blk_cell BK2.out 1).trans rfl;have hcz10_2 : w7.cell? ⟨gb2,2,none⟩ = some (.int .i64 a1_2):=(blk_cell BK2.out 2).trans rfl;have hfz10_0:=blk_frozen BK2.out 0;have hfz10_1:=blk_frozen BK2.out 1;have hfz10_2:=blk_frozen BK2.out 2))
    go_ret
    exact ⟨by first | rfl | (simp [errW_none,errW_some] <;> rfl) | (simp [*,errW_none,errW_some] <;> rfl),hbw_⟩
   ·rw [if_neg c5] at H
    have c5b0 : (a0_2 == a1_2) = false:=beq_eq_false_iff_ne.mpr c5
    have c5b1 : (a0_2 != a1_2) = true:=bne_iff_ne.mpr c5
    obtain rfl:=Option.some.inj H
    go_enter Try.func21,Try.ntmps21
    go_wp2_with (first | ((with_reducible refine gate_dst (N:=2) rfl ?_);refine box_event ?hg (N:=2) ?hd (cs:=#[.int .i64 a0_0,.int .i64 a0_1,.int .i64 a0_2]) (t:=38) ?hr ?_;(case hd=>rfl);(case hg=>rfl);(case hr=>first | (go_simp;done) | (go_simp;rfl));intro gb1 hg w11 hbox hb;have BK1:=a0_ (hbox);have GW1:=a0_ ((by rw [hg];exact (below_size hbw_) : w.heap.size ≤ gb1));have GE1:=a0_ ((by rw [hg];exact (below_size hbw_) : w.heap.size ≤ gb1));replace HB:=a0_ (below_step hbw_ hb);clear hb hbox hg) | ((with_reducible refine gate_dst (N:=3) rfl ?_);refine box_event ?hg (N:=3) ?hd (cs:=#[.int .i64 a1_0,.int .i64 a1_1,.int .i64 a1_2]) (t:=38) ?hr ?_;(case hd=>rfl);(case hg=>rfl);(case hr=>first | (go_simp;done) | (go_simp;rfl));intro gb2 hg w12 hbox hb;have n0_:=kb_ BK1 hb;have n1_:=a0_ (below_step hbw_ hb);have n2_:=a0_ (hbox);have n3_:=a0_ ((by rw [hg];exact (below_size hbw_) : w.heap.size ≤ gb2));have n4_:=a0_ ((by rw [hg];exact (below_size hbw_) : w.heap.size ≤ gb2));have n5_:=a0_ ((by rw [hg];exact Nat.ne_of_lt (blk_lt (bb_ BK1.out)) : gb1 ≠ gb2));have n6_:=a0_ ((by rw [hg];exact Nat.ne_of_gt (blk_lt (bb_ BK1.out)) : gb2 ≠ gb1));clear BK1 HB;have BK1:=n0_;have HB:=n1_;have BK2:=n2_;have GW2:=n3_;have GE2:=n4_;have NB1_2:=n5_;have NB2_1:=n6_;clear n0_ n1_ n2_ n3_ n4_ n5_ n6_;clear hb hbox hg;have hnb13:=NB1_2.out;have hnc13:=NB2_1.out;have hcz14_0 : w12.cell? ⟨gb1,0,none⟩ = some (.int .i64 a0_0):=(blk_cell BK1.out 0).trans rfl;have hcz14_1 : w12.cell? ⟨gb1,1,none⟩ = some (.int .i64 a0_1):=(blk_cell BK1.out 1).trans rfl;have hcz14_2 : w12.cell? ⟨gb1,2,none⟩ = some (.int .i64 a0_2):=(blk_cell BK1.out 2).trans rfl;have hfz14_0:=blk_frozen BK1.out 0;have hfz14_1:=blk_frozen BK1.out 1;have hfz14_2:=blk_frozen BK1.out 2;have hcz15_0 : w12.cell? ⟨gb2,0,none⟩ = some (.int .i64 a1_0):=(blk_cell BK2.out 0).trans rfl;have hcz15_1 : w12.cell? ⟨gb2,1,none⟩ = some (.int .i64 a1_1):=(blk_cell BK2.out 1).trans rfl;have hcz15_2 : w12.cell? ⟨gb2,2,none⟩ = some (.int .i64 a1_2):=(blk_cell BK2.out 2).trans rfl;have hfz15_0:=blk_frozen BK2.out 0;have hfz15_1:=blk_frozen BK2.out 1;have hfz15_2:=blk_frozen BK2.out 2))
    go_ret
    exact ⟨by first | rfl | (simp [errW_none,errW_some] <;> rfl) | (simp [*,errW_none,errW_some] <;> rfl),hbw_⟩
  ·rw [if_neg c4] at H
   have c4b0 : (a0_1 == a1_1) = false:=beq_eq_false_iff_ne.mpr c4
   have c4b1 : (a0_1 != a1_1) = true:=bne_iff_ne.mpr c4
   obtain rfl:=Option.some.inj H
   go_enter Try.func21,Try.ntmps21
   go_wp2_with (first | ((with_reducible refine gate_dst (N:=2) rfl ?_);refine box_event ?hg (N:=2) ?hd (cs:=#[.int .i64 a0_0,.int .i64 a0_1,.int .i64 a0_2]) (t:=38) ?hr ?_;(case hd=>rfl);(case hg=>rfl);(case hr=>first | (go_simp;done) | (go_simp;rfl));intro gb1 hg w16 hbox hb;have BK1:=a0_ (hbox);have GW1:=a0_ ((by rw [hg];exact (below_size hbw_) : w.heap.size ≤ gb1));have GE1:=a0_ ((by rw [hg];exact (below_size hbw_) : w.heap.size ≤ gb1));replace HB:=a0_ (below_step hbw_ hb);clear hb hbox hg) | ((with_reducible refine gate_dst (N:=3) rfl ?_);refine box_event ?hg (N:=3) ?hd (cs:=#[.int .i64 a1_0,.int .i64 a1_1,.int .i64 a1_2]) (t:=38) ?hr ?_;(case hd=>rfl);(case hg=>rfl);(case hr=>first | (go_simp;done) | (go_simp;rfl));intro gb2 hg w17 hbox hb;have n0_:=kb_ BK1 hb;have n1_:=a0_ (below_step hbw_ hb);have n2_:=a0_ (hbox);have n3_:=a0_ ((by rw [hg];exact (below_size hbw_) : w.heap.size ≤ gb2));have n4_:=a0_ ((by rw [hg];exact (below_size hbw_) : w.heap.size ≤ gb2));have n5_:=a0_ ((by rw [hg];exact Nat.ne_of_lt (blk_lt (bb_ BK1.out)) : gb1 ≠ gb2));have n6_:=a0_ ((by rw [hg];exact Nat.ne_of_gt (blk_lt (bb_ BK1.out)) : gb2 ≠ gb1));clear BK1 HB;have BK1:=n0_;have HB:=n1_;have BK2:=n2_;have GW2:=n3_;have GE2:=n4_;have NB1_2:=n5_;have NB2_1:=n6_;clear n0_ n1_ n2_ n3_ n4_ n5_ n6_;clear hb hbox hg;have hnb18:=NB1_2.out;have hnc18:=NB2_1.out;have hcz19_0 : w17.cell? ⟨gb1,0,none⟩ = some (.int .i64 a0_0):=(blk_cell BK1.out 0).trans rfl;have hcz19_1 : w17.cell? ⟨gb1,1,none⟩ = some (.int .i64 a0_1):=(blk_cell BK1.out 1).trans rfl;have hcz19_2 : w17.cell? ⟨gb1,2,none⟩ = some (.int .i64 a0_2):=(blk_cell BK1.out 2).trans rfl;have hfz19_0:=blk_frozen BK1.out 0;have hfz19_1:=blk_frozen BK1.out 1;have hfz19_2:=blk_frozen BK1.out 2;have hcz20_0 : w17.cell? ⟨gb2,0,none⟩ = some (.int .i64 a1_0):=(blk_cell BK2.out 0).trans rfl;have hcz20_1 : w17.cell? ⟨gb2,1,none⟩ = some (.int .i64 a1_1):=(blk_cell BK2.out 1).trans rfl;have hcz20_2 : w17.cell? ⟨gb2,2,none⟩ = some (.int .i64 a1_2):=(blk_cell BK2.out 2).trans rfl;have hfz20_0:=blk_frozen BK2.out 0;have hfz20_1:=blk_frozen BK2.out 1;have hfz20_2:=blk_frozen BK2.out 2))
   go_ret
   exact ⟨by first | rfl | (simp [errW_none,errW_some] <;> rfl) | (simp [*,errW_none,errW_some] <;> rfl),hbw_⟩
 ·rw [if_neg c3] at H
  have c3b0 : (a0_0 == a1_0) = false:=beq_eq_false_iff_ne.mpr c3
  have c3b1 : (a0_0 != a1_0) = true:=bne_iff_ne.mpr c3
  obtain rfl:=Option.some.inj H
  go_enter Try.func21,Try.ntmps21
  go_wp2_with (first | ((with_reducible refine gate_dst (N:=2) rfl ?_);refine box_event ?hg (N:=2) ?hd (cs:=#[.int .i64 a0_0,.int .i64 a0_1,.int .i64 a0_2]) (t:=38) ?hr ?_;(case hd=>rfl);(case hg=>rfl);(case hr=>first | (go_simp;done) | (go_simp;rfl));intro gb1 hg w21 hbox hb;have BK1:=a0_ (hbox);have GW1:=a0_ ((by rw [hg];exact (below_size hbw_) : w.heap.size ≤ gb1));have GE1:=a0_ ((by rw [hg];exact (below_size hbw_) : w.heap.size ≤ gb1));replace HB:=a0_ (below_step hbw_ hb);clear hb hbox hg) | ((with_reducible refine gate_dst (N:=3) rfl ?_);refine box_event ?hg (N:=3) ?hd (cs:=#[.int .i64 a1_0,.int .i64 a1_1,.int .i64 a1_2]) (t:=38) ?hr ?_;(case hd=>rfl);(case hg=>rfl);(case hr=>first | (go_simp;done) | (go_simp;rfl));intro gb2 hg w22 hbox hb;have n0_:=kb_ BK1 hb;have n1_:=a0_ (below_step hbw_ hb);have n2_:=a0_ (hbox);have n3_:=a0_ ((by rw [hg];exact (below_size hbw_) : w.heap.size ≤ gb2));have n4_:=a0_ ((by rw [hg];exact (below_size hbw_) : w.heap.size ≤ gb2));have n5_:=a0_ ((by rw [hg];exact Nat.ne_of_lt (blk_lt (bb_ BK1.out)) : gb1 ≠ gb2));have n6_:=a0_ ((by rw [hg];exact Nat.ne_of_gt (blk_lt (bb_ BK1.out)) : gb2 ≠ gb1));clear BK1 HB;have BK1:=n0_;have HB:=n1_;have BK2:=n2_;have GW2:=n3_;have GE2:=n4_;have NB1_2:=n5_;have NB2_1:=n6_;clear n0_ n1_ n2_ n3_ n4_ n5_ n6_;clear hb hbox hg;have hnb23:=NB1_2.out;have hnc23:=NB2_1.out;have hcz24_0 : w22.cell? ⟨gb1,0,none⟩ = some (.int .i64 a0_0):=(blk_cell BK1.out 0).trans rfl;have hcz24_1 : w22.cell? ⟨gb1,1,none⟩ = some (.int .i64 a0_1):=(blk_cell BK1.out 1).trans rfl;have hcz24_2 : w22.cell? ⟨gb1,2,none⟩ = some (.int .i64 a0_2):=(blk_cell BK1.out 2).trans rfl;have hfz24_0:=blk_frozen BK1.out 0;have hfz24_1:=blk_frozen BK1.out 1;have hfz24_2:=blk_frozen BK1.out 2;have hcz25_0 : w22.cell? ⟨gb2,0,none⟩ = some (.int .i64 a1_0):=(blk_cell BK2.out 0).trans rfl;have hcz25_1 : w22.cell? ⟨gb2,1,none⟩ = some (.int .i64 a1_1):=(blk_cell BK2.out 1).trans rfl;have hcz25_2 : w22.cell? ⟨gb2,2,none⟩ = some (.int .i64 a1_2):=(blk_cell BK2.out 2).trans rfl;have hfz25_0:=blk_frozen BK2.out 0;have hfz25_1:=blk_frozen BK2.out 1;have hfz25_2:=blk_frozen BK2.out 2))
  go_ret
  exact ⟨by first | rfl | (simp [errW_none,errW_some] <;> rfl) | (simp [*,errW_none,errW_some] <;> rfl),hbw_⟩
end Go.Proofs.Ytjcodcimodnbjaa.P
namespace Go.Proofs.Ytjcodcimodnbjaa.P
open Go.RowKit Go.Proofs.YtjcodcimodnbjaaW.PrintWords Go.Proofs.YtjcodcimodnbjaaW.PrintLast Go.Proofs.YtjcodcimodnbjaaW.PrintMore
attribute [local go_sem] max2_int min2_int max_two min_two max_three min_three max_four min_four
set_option linter.unusedVariables false
set_option linter.unusedSimpArgs false
def laws_eqExitS.l0 : Nat → List (S38) → List (S38) → Int → Option (Bool)
 | 0,_,_,_=>none
 | k + 1,x0,x1,x5=>if x5 < (x0.length : Int) then (if 0 ≤ x5 then (if x5 < (x1.length : Int) then ((laws_eqExit.f ((rd_T38 x0 x5).f0) ((rd_T38 x0 x5).f1) ((rd_T38 x0 x5).f2) ((rd_T38 x1 x5).f0) ((rd_T38 x1 x5).f1) ((rd_T38 x1 x5).f2)).bind fun t3=>(if t3 = true then (laws_eqExitS.l0 k x0 x1 (wrap64 (x5 + 1))) else (some false))) else (none)) else (none)) else (some true)
def laws_eqExitS.f (k : Nat) (l0 : List (S38)) (l1 : List (S38)) : Option (Bool):=if (l0.length : Int) = (l1.length : Int) then (laws_eqExitS.l0 k l0 l1 0) else (some false)
theorem laws_eqExitS.mono_l : ∀ k,(∀ y0 y1 y2,LeO (laws_eqExitS.l0 k y0 y1 y2) (laws_eqExitS.l0 (k + 1) y0 y1 y2))
 | 0=>fun _ _ _ r h=>by simp [laws_eqExitS.l0] at h
 | k + 1=>by
  have ih0:=laws_eqExitS.mono_l k
  ·intro y0 y1 y2
   unfold laws_eqExitS.l0
   repeat' first
   | (with_reducible exact ih0 _ _ _)
   | (with_reducible exact LeO.refl _)
   | (with_reducible exact LeO.none _)
   | (with_reducible refine LeO.ite ?_ ?_)
   | (with_reducible refine LeO.bind ?_ (fun _=>?_))
   | exact ih0 _ _ _
   | exact LeO.none _
   | refine LeO.ite ?_ ?_
   | refine LeO.bind ?_ (fun _=>?_)
theorem laws_eqExitS.mono : ∀ a0 a1 k,LeO (laws_eqExitS.f k a0 a1) (laws_eqExitS.f (k + 1) a0 a1):=by
 intro a0 a1 k
 have ih0:=laws_eqExitS.mono_l k
 unfold laws_eqExitS.f
 repeat' first
   | (with_reducible exact ih0 _ _ _)
   | (with_reducible exact LeO.refl _)
   | (with_reducible exact LeO.none _)
   | (with_reducible refine LeO.ite ?_ ?_)
   | (with_reducible refine LeO.bind ?_ (fun _=>?_))
   | exact ih0 _ _ _
   | exact LeO.none _
   | refine LeO.ite ?_ ?_
   | refine LeO.bind ?_ (fun _=>?_)
def laws_eqExitS.T6 : Bool × List (List Nat × List Nat):=(true,[([],[]),([],[]),([0,1],[0,1]),([2],[2]),([],[]),([],[]),([4,5],[4,5]),([6],[6]),([3,7],[3,7]),([8],[8])])
def laws_eqExitS.B6 : List Nat:=[0,0,3,7,0,0,48,112,255,511]
theorem laws_eqExitS.tab6 : rtab .any (opsOf Try.f14 6) = laws_eqExitS.T6:=by kernel_rfl
theorem laws_eqExitS.bits6 : waitsOk laws_eqExitS.T6.2 laws_eqExitS.B6 = true:=by kernel_rfl
set_option maxHeartbeats 8000000 in
set_option maxRecDepth 100000 in
theorem laws_eqExitS.calls (k : Nat) (A0 : Option Addr) (c0 : Nat) (l0 : List (S38)) (A1 : Option Addr) (c1 : Nat) (l1 : List (S38)) (r : Bool) (w : World) (hr0 : Kd.C k38 w A0 l0.length l0) (hc0 : l0.length ≤ c0) (hr1 : Kd.C k38 w A1 l1.length l1) (hc1 : l1.length ≤ c1) (h : laws_eqExitS.f k l0 l1 = some r) :
  Calls Try.prog 14 #[.slice A0 l0.length c0,.slice A1 l1.length c1] w fun e w'=>e = .returned (.bool r) ∧ Below w.heap.size w w':=by
 have hu38:=Try.underlying38
 have HR0:=a0_ hr0
 have HC0:=a0_ hc0
 clear hr0 hc0
 have HR1:=a0_ hr1
 have HC1:=a0_ hc1
 clear hr1 hc1
 have HB:=a0_ (Below.refl w.heap.size w)
 have H : (if (l0.length : Int) = (l1.length : Int) then (laws_eqExitS.l0 k l0 l1 0) else (some false)) = some r:=h
 clear h
 by_cases c3 : (l0.length : Int) = (l1.length : Int)
 ·rw [if_pos c3] at H
  have c3b0 : ((l0.length : Int) == (l1.length : Int)) = true:=beq_iff_eq.mpr c3
  have c3b1 : ((l0.length : Int) != (l1.length : Int)) = false:=bne_eq_false_iff_eq.mpr c3
  have c3b2 : (l0.length == l1.length) = true:=by first | simpa using c3 | (simp at c3 ⊢;omega)
  clear c3
  have H':=a0_ H
  clear H
  go_enter Try.func14,Try.ntmps14
  go_wp2
  go_loopg [5] k (fun kq v5 w'=>∃ (x5_1 : Int),v5 = .int .i64 x5_1 ∧ Aside0 (laws_eqExitS.l0 kq l0 l1 x5_1 = some r) ∧ Aside0 (kq ≤ k) ∧ Aside0 (Below w.heap.size w w'))
  case atStart=>exact ⟨(0),(by first | rfl | (simp;done) | (simp [*];done)),H',⟨Nat.le_refl _⟩,⟨hbw_⟩⟩
  case round =>
   clear H'
   try clear c1
   try clear p2
   try clear c3
   try clear c3b0
   try clear c3b1
   try clear c3b2
   obtain ⟨x5_1,rfl,HA,HK1,HB⟩:=hrel
   cases gk with
   | zero=>exact absurd HA.out (by simp [laws_eqExitS.l0])
   | succ k1 =>
    have H:=HA.out
    clear HA
    simp only [laws_eqExitS.l0] at H
    by_cases c4 : x5_1 < (l0.length : Int)
    ·rw [if_pos c4] at H
     have c4b0 : decide (x5_1 < (l0.length : Int)) = true:=decide_eq_true c4
     clear c4
     by_cases c5 : 0 ≤ x5_1
     ·rw [if_pos c5] at H
      have c5b0 : decide (0 ≤ x5_1) = true:=decide_eq_true c5
      clear c5
      by_cases c6 : x5_1 < (l1.length : Int)
      ·rw [if_pos c6] at H
       have c6b0 : decide (x5_1 < (l1.length : Int)) = true:=decide_eq_true c6
       clear c6
       replace H:=Option.bind_eq_some_iff.mp H
       obtain ⟨t3,A70,H⟩:=H
       try dsimp only at H
       have A7:=a0_ A70
       clear A70
       by_cases c8 : t3 = true
       ·subst c8
        have H1 : (laws_eqExitS.l0 k1 l0 l1 (wrap64 (x5_1 + 1))) = some r:=by rw [if_pos rfl] at H;exact H
        clear H
        have H:=H1
        clear H1
        have H':=a0_ H
        clear H
        try go_wp2
        have n0_:=a0_ (below_drew1 HB.out)
        clear HB
        have HB:=n0_
        clear n0_
        have p1 : 0 ≤ (x5_1 : Int):=of_decide_eq_true (by first | (with_reducible assumption) | assumption)
        have q1 : x5_1 < (l0.length : Int):=of_decide_eq_true (by first | (with_reducible assumption) | assumption)
        obtain ⟨ad1,e1,hx1_0,hx1_1,hx1_2⟩:=at_T38 HR0.out x5_1 p1 q1
        have hw1_2:=hx1_2
        have hw1_1:=hx1_1
        have hw1_0:=hx1_0
        cases e1
        replace hx1_0:=(HB.out.cell (World.block_lt_of_cell? w _ hx1_0)).trans hx1_0
        replace hx1_1:=(HB.out.cell (World.block_lt_of_cell? w _ hx1_1)).trans hx1_1
        replace hx1_2:=(HB.out.cell (World.block_lt_of_cell? w _ hx1_2)).trans hx1_2
        replace p1:=eq_true p1
        replace q1:=eq_true q1
        have p2 : 0 ≤ (x5_1 : Int):=of_decide_eq_true (by first | (with_reducible assumption) | assumption)
        have q2 : x5_1 < (l1.length : Int):=of_decide_eq_true (by first | (with_reducible assumption) | assumption)
        obtain ⟨ad2,e2,hx2_0,hx2_1,hx2_2⟩:=at_T38 HR1.out x5_1 p2 q2
        have hw2_2:=hx2_2
        have hw2_1:=hx2_1
        have hw2_0:=hx2_0
        cases e2
        replace hx2_0:=(HB.out.cell (World.block_lt_of_cell? w _ hx2_0)).trans hx2_0
        replace hx2_1:=(HB.out.cell (World.block_lt_of_cell? w _ hx2_1)).trans hx2_1
        replace hx2_2:=(HB.out.cell (World.block_lt_of_cell? w _ hx2_2)).trans hx2_2
        replace p2:=eq_true p2
        replace q2:=eq_true q2
        refine start_ (n:=10) (S:=fun w'=>w'.cell? (ad1.add ((x5_1).toNat * 3)) = some (.int .i64 ((rd_T38 l0 x5_1).f0)) ∧ w'.cell? ⟨(ad1.add ((x5_1).toNat * 3)).block,(ad1.add ((x5_1).toNat * 3)).off + 1,none⟩ = some (.int .i64 ((rd_T38 l0 x5_1).f1)) ∧ w'.cell? ⟨(ad1.add ((x5_1).toNat * 3)).block,(ad1.add ((x5_1).toNat * 3)).off + 2,none⟩ = some (.int .i64 ((rd_T38 l0 x5_1).f2)) ∧ w'.cell? (ad2.add ((x5_1).toNat * 3)) = some (.int .i64 ((rd_T38 l1 x5_1).f0)) ∧ w'.cell? ⟨(ad2.add ((x5_1).toNat * 3)).block,(ad2.add ((x5_1).toNat * 3)).off + 1,none⟩ = some (.int .i64 ((rd_T38 l1 x5_1).f1)) ∧ w'.cell? ⟨(ad2.add ((x5_1).toNat * 3)).block,(ad2.add ((x5_1).toNat * 3)).off + 2,none⟩ = some (.int .i64 ((rd_T38 l1 x5_1).f2))) (ds:=[]) #[false,false,false,false,false,false,false,false,false,false] (by kernel_rfl) rfl rfl ⟨((HB.out.cell (World.block_lt_of_cell? w _ hw1_0)).trans hw1_0),((HB.out.cell (World.block_lt_of_cell? w _ hw1_1)).trans hw1_1),((HB.out.cell (World.block_lt_of_cell? w _ hw1_2)).trans hw1_2),((HB.out.cell (World.block_lt_of_cell? w _ hw2_0)).trans hw2_0),((HB.out.cell (World.block_lt_of_cell? w _ hw2_1)).trans hw2_1),((HB.out.cell (World.block_lt_of_cell? w _ hw2_2)).trans hw2_2)⟩ (fun hHeld=>?_);refine with_tabW laws_eqExitS.tab6 laws_eqExitS.bits6 (fun HT_ HW_=>?_)
        generalize wr.drew = w9 at HB hx1_0 hx1_1 hx1_2 hx2_0 hx2_1 hx2_2 hHeld ⊢
        refine pure_ (i:=0) (N:=some 17) (v:=?_) (a':=?_) #[true,false,false,false,false,false,false,false,false,false] rfl rfl (any_of HT_.out (by kernel_rfl)) (fun _ _ _ h=>h) (Or.inl ⟨by rfl,?_⟩) ?_ ?_
        rotate_left
        ·intro w'
         go_simp
         with_reducible rfl
        rotate_left
        ·simp only [Act.put,s1_,s2_,s3_,i64_w,i32_w]
         rfl
        refine pure_ (i:=1) (N:=some 18) (v:=?_) (a':=?_) #[true,true,false,false,false,false,false,false,false,false] rfl rfl (any_of HT_.out (by kernel_rfl)) (fun _ _ _ h=>h) (Or.inl ⟨by rfl,?_⟩) ?_ ?_
        rotate_left
        ·intro w'
         go_simp
         with_reducible rfl
        rotate_left
        ·simp only [Act.put,s1_,s2_,s3_,i64_w,i32_w]
         rfl
        refine pure_ (i:=2) (N:=some 19) (v:=?_) (a':=?_) #[true,true,true,false,false,false,false,false,false,false] rfl rfl (any_of HT_.out (by kernel_rfl)) (fun _ _ _ h=>h) (Or.inl ⟨by rfl,?_⟩) ?_ ?_
        rotate_left
        ·intro w'
         go_simp
         with_reducible rfl
        rotate_left
        ·simp only [Act.put,s1_,s2_,s3_,i64_w,i32_w]
         rfl
        refine pure_ (i:=4) (N:=some 21) (v:=?_) (a':=?_) #[true,true,true,false,true,false,false,false,false,false] rfl rfl (any_of HT_.out (by kernel_rfl)) (fun _ _ _ h=>h) (Or.inl ⟨by rfl,?_⟩) ?_ ?_
        rotate_left
        ·intro w'
         go_simp
         with_reducible rfl
        rotate_left
        ·simp only [Act.put,s1_,s2_,s3_,i64_w,i32_w]
         rfl
        refine pure_ (i:=5) (N:=some 22) (v:=?_) (a':=?_) #[true,true,true,false,true,true,false,false,false,false] rfl rfl (any_of HT_.out (by kernel_rfl)) (fun _ _ _ h=>h) (Or.inl ⟨by rfl,?_⟩) ?_ ?_
        rotate_left
        ·intro w'
         go_simp
         with_reducible rfl
        rotate_left
        ·simp only [Act.put,s1_,s2_,s3_,i64_w,i32_w]
         rfl
        refine pure_ (i:=6) (N:=some 23) (v:=?_) (a':=?_) #[true,true,true,false,true,true,true,false,false,false] rfl rfl (any_of HT_.out (by kernel_rfl)) (fun _ _ _ h=>h) (Or.inl ⟨by rfl,?_⟩) ?_ ?_
        rotate_left
        ·intro w'
         go_simp
         with_reducible rfl
        rotate_left
        ·simp only [Act.put,s1_,s2_,s3_,i64_w,i32_w]
         rfl
        refine take_ (i:=3) (N:=some 20) (v:=?_) (a':=?_) #[true,true,true,true,true,true,true,false,false,false] rfl rfl (take_ofW HT_.out HW_.out (by kernel_rfl)) (fun _ _ _ h=>h) (Or.inl ⟨by rfl,?_⟩) hHeld ?_ ?_
        rotate_left
        ·rintro w' ⟨s0,s1,s2,s3,s4,s5⟩
         go_simp
         with_reducible rfl
        rotate_left
        ·simp only [Act.put,s1_,s2_,s3_,i64_w,i32_w]
         rfl
        refine take_ (i:=7) (N:=some 24) (v:=?_) (a':=?_) #[true,true,true,true,true,true,true,true,false,false] rfl rfl (take_ofW HT_.out HW_.out (by kernel_rfl)) (fun _ _ _ h=>h) (Or.inl ⟨by rfl,?_⟩) hHeld ?_ ?_
        rotate_left
        ·rintro w' ⟨s0,s1,s2,s3,s4,s5⟩
         go_simp
         with_reducible rfl
        rotate_left
        ·simp only [Act.put,s1_,s2_,s3_,i64_w,i32_w]
         rfl
        refine one_ (i:=8) (N:=some 25) #[true,true,true,true,true,true,true,true,true,false] rfl rfl (one_of HT_.out (by kernel_rfl)) (by decide) (fun K hK=>?_)
        refine goes_ Try.func21 (by kernel_rfl) rfl #[.agg #[.int .i64 ((rd_T38 l0 x5_1).f0),.int .i64 ((rd_T38 l0 x5_1).f1),.int .i64 ((rd_T38 l0 x5_1).f2)],.agg #[.int .i64 ((rd_T38 l1 x5_1).f0),.int .i64 ((rd_T38 l1 x5_1).f1),.int .i64 ((rd_T38 l1 x5_1).f2)]] (by rfl) rfl rfl lm_ ?_
        with_reducible refine (laws_eqExit.calls ((rd_T38 l0 x5_1).f0) ((rd_T38 l0 x5_1).f1) ((rd_T38 l0 x5_1).f2) ((rd_T38 l1 x5_1).f0) ((rd_T38 l1 x5_1).f1) ((rd_T38 l1 x5_1).f2) true _ A7.out).mono ?_
        rintro e w10 ⟨rfl,hb⟩
        refine ⟨_,rfl,?_⟩
        have n0_:=a0_ (below_step hbw_ hb)
        clear HB
        have HB:=n0_
        clear n0_
        (try clear hb)
        (try clear hb2)
        (try clear hk)
        (try clear hi)
        refine hK.out _ _ ⟨((HB.out.cell (World.block_lt_of_cell? w _ hw1_0)).trans hw1_0),((HB.out.cell (World.block_lt_of_cell? w _ hw1_1)).trans hw1_1),((HB.out.cell (World.block_lt_of_cell? w _ hw1_2)).trans hw1_2),((HB.out.cell (World.block_lt_of_cell? w _ hw2_0)).trans hw2_0),((HB.out.cell (World.block_lt_of_cell? w _ hw2_1)).trans hw2_1),((HB.out.cell (World.block_lt_of_cell? w _ hw2_2)).trans hw2_2)⟩ (fun hHeld=>?_)
        clear hK K
        refine norm_ (a':=?_) ?_ ?_
        rotate_left
        ·show Act.put _ (some 25) _ = _
         simp only [Act.put,s1_,s2_,s3_,i64_w,i32_w]
         rfl
        refine pure_ (i:=9) (N:=some 26) (v:=?_) (a':=?_) #[true,true,true,true,true,true,true,true,true,true] rfl rfl (any_of HT_.out (by kernel_rfl)) (fun _ _ _ h=>h) (Or.inl ⟨by rfl,?_⟩) ?_ ?_
        rotate_left
        ·intro w'
         go_simp
         with_reducible rfl
        rotate_left
        ·simp only [Act.put,s1_,s2_,s3_,i64_w,i32_w]
         rfl
        refine done_ (done_of HT_.out (by kernel_rfl)) ?_
        try go_wp2
        go_roundg k1
        case measure=>have:=HK1.out;omega
        case rel=>exact ⟨(wrap64 (x5_1 + 1)),(by first | rfl | (simp;done) | (simp [*];done)),H',⟨by have:=HK1.out;omega⟩,⟨hbw_⟩⟩
       ·replace c8:=Bool.eq_false_iff.mpr c8
        subst c8
        have H1 : (some false) = some r:=by rw [if_neg (show ¬ (false = true) by decide)] at H;exact H
        clear H
        have H:=H1
        clear H1
        obtain rfl:=Option.some.inj H
        try go_wp2
        have n0_:=a0_ (below_drew1 HB.out)
        clear HB
        have HB:=n0_
        clear n0_
        have p1 : 0 ≤ (x5_1 : Int):=of_decide_eq_true (by first | (with_reducible assumption) | assumption)
        have q1 : x5_1 < (l0.length : Int):=of_decide_eq_true (by first | (with_reducible assumption) | assumption)
        obtain ⟨ad1,e1,hx1_0,hx1_1,hx1_2⟩:=at_T38 HR0.out x5_1 p1 q1
        have hw1_2:=hx1_2
        have hw1_1:=hx1_1
        have hw1_0:=hx1_0
        cases e1
        replace hx1_0:=(HB.out.cell (World.block_lt_of_cell? w _ hx1_0)).trans hx1_0
        replace hx1_1:=(HB.out.cell (World.block_lt_of_cell? w _ hx1_1)).trans hx1_1
        replace hx1_2:=(HB.out.cell (World.block_lt_of_cell? w _ hx1_2)).trans hx1_2
        replace p1:=eq_true p1
        replace q1:=eq_true q1
        have p2 : 0 ≤ (x5_1 : Int):=of_decide_eq_true (by first | (with_reducible assumption) | assumption)
        have q2 : x5_1 < (l1.length : Int):=of_decide_eq_true (by first | (with_reducible assumption) | assumption)
        obtain ⟨ad2,e2,hx2_0,hx2_1,hx2_2⟩:=at_T38 HR1.out x5_1 p2 q2
        have hw2_2:=hx2_2
        have hw2_1:=hx2_1
        have hw2_0:=hx2_0
        cases e2
        replace hx2_0:=(HB.out.cell (World.block_lt_of_cell? w _ hx2_0)).trans hx2_0
        replace hx2_1:=(HB.out.cell (World.block_lt_of_cell? w _ hx2_1)).trans hx2_1
        replace hx2_2:=(HB.out.cell (World.block_lt_of_cell? w _ hx2_2)).trans hx2_2
        replace p2:=eq_true p2
        replace q2:=eq_true q2
        refine start_ (n:=10) (S:=fun w'=>w'.cell? (ad1.add ((x5_1).toNat * 3)) = some (.int .i64 ((rd_T38 l0 x5_1).f0)) ∧ w'.cell? ⟨(ad1.add ((x5_1).toNat * 3)).block,(ad1.add ((x5_1).toNat * 3)).off + 1,none⟩ = some (.int .i64 ((rd_T38 l0 x5_1).f1)) ∧ w'.cell? ⟨(ad1.add ((x5_1).toNat * 3)).block,(ad1.add ((x5_1).toNat * 3)).off + 2,none⟩ = some (.int .i64 ((rd_T38 l0 x5_1).f2)) ∧ w'.cell? (ad2.add ((x5_1).toNat * 3)) = some (.int .i64 ((rd_T38 l1 x5_1).f0)) ∧ w'.cell? ⟨(ad2.add ((x5_1).toNat * 3)).block,(ad2.add ((x5_1).toNat * 3)).off + 1,none⟩ = some (.int .i64 ((rd_T38 l1 x5_1).f1)) ∧ w'.cell? ⟨(ad2.add ((x5_1).toNat * 3)).block,(ad2.add ((x5_1).toNat * 3)).off + 2,none⟩ = some (.int .i64 ((rd_T38 l1 x5_1).f2))) (ds:=[]) #[false,false,false,false,false,false,false,false,false,false] (by kernel_rfl) rfl rfl ⟨((HB.out.cell (World.block_lt_of_cell? w _ hw1_0)).trans hw1_0),((HB.out.cell (World.block_lt_of_cell? w _ hw1_1)).trans hw1_1),((HB.out.cell (World.block_lt_of_cell? w _ hw1_2)).trans hw1_2),((HB.out.cell (World.block_lt_of_cell? w _ hw2_0)).trans hw2_0),((HB.out.cell (World.block_lt_of_cell? w _ hw2_1)).trans hw2_1),((HB.out.cell (World.block_lt_of_cell? w _ hw2_2)).trans hw2_2)⟩ (fun hHeld=>?_);refine with_tabW laws_eqExitS.tab6 laws_eqExitS.bits6 (fun HT_ HW_=>?_)
        generalize wr.drew = w11 at HB hx1_0 hx1_1 hx1_2 hx2_0 hx2_1 hx2_2 hHeld ⊢
        refine pure_ (i:=0) (N:=some 17) (v:=?_) (a':=?_) #[true,false,false,false,false,false,false,false,false,false] rfl rfl (any_of HT_.out (by kernel_rfl)) (fun _ _ _ h=>h) (Or.inl ⟨by rfl,?_⟩) ?_ ?_
        rotate_left
        ·intro w'
         go_simp
         with_reducible rfl
        rotate_left
        ·simp only [Act.put,s1_,s2_,s3_,i64_w,i32_w]
         rfl
        refine pure_ (i:=1) (N:=some 18) (v:=?_) (a':=?_) #[true,true,false,false,false,false,false,false,false,false] rfl rfl (any_of HT_.out (by kernel_rfl)) (fun _ _ _ h=>h) (Or.inl ⟨by rfl,?_⟩) ?_ ?_
        rotate_left
        ·intro w'
         go_simp
         with_reducible rfl
        rotate_left
        ·simp only [Act.put,s1_,s2_,s3_,i64_w,i32_w]
         rfl
        refine pure_ (i:=2) (N:=some 19) (v:=?_) (a':=?_) #[true,true,true,false,false,false,false,false,false,false] rfl rfl (any_of HT_.out (by kernel_rfl)) (fun _ _ _ h=>h) (Or.inl ⟨by rfl,?_⟩) ?_ ?_
        rotate_left
        ·intro w'
         go_simp
         with_reducible rfl
        rotate_left
        ·simp only [Act.put,s1_,s2_,s3_,i64_w,i32_w]
         rfl
        refine pure_ (i:=4) (N:=some 21) (v:=?_) (a':=?_) #[true,true,true,false,true,false,false,false,false,false] rfl rfl (any_of HT_.out (by kernel_rfl)) (fun _ _ _ h=>h) (Or.inl ⟨by rfl,?_⟩) ?_ ?_
        rotate_left
        ·intro w'
         go_simp
         with_reducible rfl
        rotate_left
        ·simp only [Act.put,s1_,s2_,s3_,i64_w,i32_w]
         rfl
        refine pure_ (i:=5) (N:=some 22) (v:=?_) (a':=?_) #[true,true,true,false,true,true,false,false,false,false] rfl rfl (any_of HT_.out (by kernel_rfl)) (fun _ _ _ h=>h) (Or.inl ⟨by rfl,?_⟩) ?_ ?_
        rotate_left
        ·intro w'
         go_simp
         with_reducible rfl
        rotate_left
        ·simp only [Act.put,s1_,s2_,s3_,i64_w,i32_w]
         rfl
        refine pure_ (i:=6) (N:=some 23) (v:=?_) (a':=?_) #[true,true,true,false,true,true,true,false,false,false] rfl rfl (any_of HT_.out (by kernel_rfl)) (fun _ _ _ h=>h) (Or.inl ⟨by rfl,?_⟩) ?_ ?_
        rotate_left
        ·intro w'
         go_simp
         with_reducible rfl
        rotate_left
        ·simp only [Act.put,s1_,s2_,s3_,i64_w,i32_w]
         rfl
        refine take_ (i:=3) (N:=some 20) (v:=?_) (a':=?_) #[true,true,true,true,true,true,true,false,false,false] rfl rfl (take_ofW HT_.out HW_.out (by kernel_rfl)) (fun _ _ _ h=>h) (Or.inl ⟨by rfl,?_⟩) hHeld ?_ ?_
        rotate_left
        ·rintro w' ⟨s0,s1,s2,s3,s4,s5⟩
         go_simp
         with_reducible rfl
        rotate_left
        ·simp only [Act.put,s1_,s2_,s3_,i64_w,i32_w]
         rfl
        refine take_ (i:=7) (N:=some 24) (v:=?_) (a':=?_) #[true,true,true,true,true,true,true,true,false,false] rfl rfl (take_ofW HT_.out HW_.out (by kernel_rfl)) (fun _ _ _ h=>h) (Or.inl ⟨by rfl,?_⟩) hHeld ?_ ?_
        rotate_left
        ·rintro w' ⟨s0,s1,s2,s3,s4,s5⟩
         go_simp
         with_reducible rfl
        rotate_left
        ·simp only [Act.put,s1_,s2_,s3_,i64_w,i32_w]
         rfl
        refine one_ (i:=8) (N:=some 25) #[true,true,true,true,true,true,true,true,true,false] rfl rfl (one_of HT_.out (by kernel_rfl)) (by decide) (fun K hK=>?_)
        refine goes_ Try.func21 (by kernel_rfl) rfl #[.agg #[.int .i64 ((rd_T38 l0 x5_1).f0),.int .i64 ((rd_T38 l0 x5_1).f1),.int .i64 ((rd_T38 l0 x5_1).f2)],.agg #[.int .i64 ((rd_T38 l1 x5_1).f0),.int .i64 ((rd_T38 l1 x5_1).f1),.int .i64 ((rd_T38 l1 x5_1).f2)]] (by rfl) rfl rfl lm_ ?_
        with_reducible refine (laws_eqExit.calls ((rd_T38 l0 x5_1).f0) ((rd_T38 l0 x5_1).f1) ((rd_T38 l0 x5_1).f2) ((rd_T38 l1 x5_1).f0) ((rd_T38 l1 x5_1).f1) ((rd_T38 l1 x5_1).f2) false _ A7.out).mono ?_
        rintro e w12 ⟨rfl,hb⟩
        refine ⟨_,rfl,?_⟩
        have n0_:=a0_ (below_step hbw_ hb)
        clear HB
        have HB:=n0_
        clear n0_
        (try clear hb)
        (try clear hb2)
        (try clear hk)
        (try clear hi)
        refine hK.out _ _ ⟨((HB.out.cell (World.block_lt_of_cell? w _ hw1_0)).trans hw1_0),((HB.out.cell (World.block_lt_of_cell? w _ hw1_1)).trans hw1_1),((HB.out.cell (World.block_lt_of_cell? w _ hw1_2)).trans hw1_2),((HB.out.cell (World.block_lt_of_cell? w _ hw2_0)).trans hw2_0),((HB.out.cell (World.block_lt_of_cell? w _ hw2_1)).trans hw2_1),((HB.out.cell (World.block_lt_of_cell? w _ hw2_2)).trans hw2_2)⟩ (fun hHeld=>?_)
        clear hK K
        refine norm_ (a':=?_) ?_ ?_
        rotate_left
        ·show Act.put _ (some 25) _ = _
         simp only [Act.put,s1_,s2_,s3_,i64_w,i32_w]
         rfl
        refine pure_ (i:=9) (N:=some 26) (v:=?_) (a':=?_) #[true,true,true,true,true,true,true,true,true,true] rfl rfl (any_of HT_.out (by kernel_rfl)) (fun _ _ _ h=>h) (Or.inl ⟨by rfl,?_⟩) ?_ ?_
        rotate_left
        ·intro w'
         go_simp
         with_reducible rfl
        rotate_left
        ·simp only [Act.put,s1_,s2_,s3_,i64_w,i32_w]
         rfl
        refine done_ (done_of HT_.out (by kernel_rfl)) ?_
        try go_wp2
        go_ret
        exact ⟨by first | rfl | (simp [errW_none,errW_some] <;> rfl) | (simp [*,errW_none,errW_some] <;> rfl),hbw_⟩
      ·rw [if_neg c6] at H
       exact absurd H (by simp)
     ·rw [if_neg c5] at H
      exact absurd H (by simp)
    ·rw [if_neg c4] at H
     have c4b0 : decide (x5_1 < (l0.length : Int)) = false:=decide_eq_false c4
     clear c4
     obtain rfl:=Option.some.inj H
     go_wp2
     go_ret
     exact ⟨by first | rfl | (simp [errW_none,errW_some] <;> rfl) | (simp [*,errW_none,errW_some] <;> rfl),hbw_⟩
 ·rw [if_neg c3] at H
  have c3b0 : ((l0.length : Int) == (l1.length : Int)) = false:=beq_eq_false_iff_ne.mpr c3
  have c3b1 : ((l0.length : Int) != (l1.length : Int)) = true:=bne_iff_ne.mpr c3
  have c3b2 : (l0.length == l1.length) = false:=by first | simpa using c3 | (simp at c3 ⊢;omega)
  obtain rfl:=Option.some.inj H
  go_enter Try.func14,Try.ntmps14
  go_wp2
  go_ret
  exact ⟨by first | rfl | (simp [errW_none,errW_some] <;> rfl) | (simp [*,errW_none,errW_some] <;> rfl),hbw_⟩
theorem laws_eqExitS_ev (l : List S38) (hl : l.length ≤ 9223372036854775807) : Ev (fun k=>laws_eqExitS.f k l l) true:=by
 have h:=st_loop (fun k (_ : Unit) i=>laws_eqExitS.l0 k l l i) l.length (fun _=>()) true (by
  intro k i hi
  have he : ∀ x : S38,laws_eqExit.f x.f0 x.f1 x.f2 x.f0 x.f1 x.f2 = some true:=by
   intro x
   simp [laws_eqExit.f]
  simp only [laws_eqExitS.l0,he,Option.bind_some]
  rw [if_pos (by omega),if_pos (by omega),if_pos (by omega),if_pos trivial,wrap_succ (i:=(i : Int)) (n:=l.length) (by omega) (by omega) (by omega)]
  rfl) (by
  intro k
  simp only [laws_eqExitS.l0]
  rw [if_neg (by omega)])
 refine Ev.of_mono (laws_eqExitS.mono l l) (K:=l.length + 1) ?_
 unfold laws_eqExitS.f
 rw [if_pos rfl]
 exact h
end Go.Proofs.Ytjcodcimodnbjaa.P
namespace Go.Proofs.Ytjcodcimodnbjaa.P
open Go.RowKit Go.Proofs.YtjcodcimodnbjaaW.PrintWords Go.Proofs.YtjcodcimodnbjaaW.PrintLast Go.Proofs.YtjcodcimodnbjaaW.PrintMore
attribute [local go_sem] max2_int min2_int max_two min_two max_three min_three max_four min_four
set_option linter.unusedVariables false
set_option linter.unusedSimpArgs false
def laws_eqClass.f (a0_0 : ByteArray) (a0_1 : Int) (a1_0 : ByteArray) (a1_1 : Int) : Option (Bool):=if a0_0.toList = a1_0.toList then (if a0_1 = a1_1 then (some true) else (some false)) else (some false)
set_option maxHeartbeats 8000000 in
set_option maxRecDepth 100000 in
theorem laws_eqClass.calls (a0_0 : ByteArray) (a0_1 : Int) (a1_0 : ByteArray) (a1_1 : Int) (r : Bool) (w : World) (h : laws_eqClass.f a0_0 a0_1 a1_0 a1_1 = some r) :
  Calls Try.prog 53 #[.agg #[.string a0_0,.int .i64 a0_1],.agg #[.string a1_0,.int .i64 a1_1]] w fun e w'=>e = .returned (.bool r) ∧ Below w.heap.size w w':=by
 have hu76:=Try.underlying76
 have HB:=a0_ (Below.refl w.heap.size w)
 have H : (if a0_0.toList = a1_0.toList then (if a0_1 = a1_1 then (some true) else (some false)) else (some false)) = some r:=h
 clear h
 by_cases c3 : a0_0.toList = a1_0.toList
 ·rw [if_pos c3] at H
  have c3b0 : (a0_0.toList == a1_0.toList) = true:=beq_iff_eq.mpr c3
  have c3b1 : (a0_0.toList != a1_0.toList) = false:=bne_eq_false_iff_eq.mpr c3
  clear c3
  by_cases c4 : a0_1 = a1_1
  ·rw [if_pos c4] at H
   have c4b0 : (a0_1 == a1_1) = true:=beq_iff_eq.mpr c4
   have c4b1 : (a0_1 != a1_1) = false:=bne_eq_false_iff_eq.mpr c4
   clear c4
   obtain rfl:=Option.some.inj H
   go_enter Try.func53,Try.ntmps53
   go_wp2_with (first | ((with_reducible refine gate_dst (N:=2) rfl ?_);refine box_event ?hg (N:=2) ?hd (cs:=#[.string a0_0,.int .i64 a0_1]) (t:=76) ?hr ?_;(case hd=>rfl);(case hg=>rfl);(case hr=>first | (go_simp;done) | (go_simp;rfl));intro gb1 hg w5 hbox hb;have BK1:=a0_ (hbox);have GW1:=a0_ ((by rw [hg];exact (below_size hbw_) : w.heap.size ≤ gb1));have GE1:=a0_ ((by rw [hg];exact (below_size hbw_) : w.heap.size ≤ gb1));replace HB:=a0_ (below_step hbw_ hb);clear hb hbox hg) | ((with_reducible refine gate_dst (N:=3) rfl ?_);refine box_event ?hg (N:=3) ?hd (cs:=#[.string a1_0,.int .i64 a1_1]) (t:=76) ?hr ?_;(case hd=>rfl);(case hg=>rfl);(case hr=>first | (go_simp;done) | (go_simp;rfl));intro gb2 hg w6 hbox hb;have n0_:=kb_ BK1 hb;have n1_:=a0_ (below_step hbw_ hb);have n2_:=a0_ (hbox);have n3_:=a0_ ((by rw [hg];exact (below_size hbw_) : w.heap.size ≤ gb2));have n4_:=a0_ ((by rw [hg];exact (below_size hbw_) : w.heap.size ≤ gb2));have n5_:=a0_ ((by rw [hg];exact Nat.ne_of_lt (blk_lt (bb_ BK1.out)) : gb1 ≠ gb2));have n6_:=a0_ ((by rw [hg];exact Nat.ne_of_gt (blk_lt (bb_ BK1.out)) : gb2 ≠ gb1));clear BK1 HB;have BK1:=n0_;have HB:=n1_;have BK2:=n2_;have GW2:=n3_;have GE2:=n4_;have NB1_2:=n5_;have NB2_1:=n6_;clear n0_ n1_ n2_ n3_ n4_ n5_ n6_;clear hb hbox hg;have hnb7:=NB1_2.out;have hnc7:=NB2_1.out;have hcz8_0 : w6.cell? ⟨gb1,0,none⟩ = some (.string a0_0):=(blk_cell BK1.out 0).trans rfl;have hcz8_1 : w6.cell? ⟨gb1,1,none⟩ = some (.int .i64 a0_1):=(blk_cell BK1.out 1).trans rfl;have hfz8_0:=blk_frozen BK1.out 0;have hfz8_1:=blk_frozen BK1.out 1;have hcz9_0 : w6.cell? ⟨gb2,0,none⟩ = some (.string a1_0):=(blk_cell BK2.out 0).trans rfl;have hcz9_1 : w6.cell? ⟨gb2,1,none⟩ = some (.int .i64 a1_1):=(blk_cell BK2.out 1).trans rfl;have hfz9_0:=blk_frozen BK2.out 0;have hfz9_1:=blk_frozen BK2.out 1))
   go_ret
   exact ⟨by first | rfl | (simp [errW_none,errW_some] <;> rfl) | (simp [*,errW_none,errW_some] <;> rfl),hbw_⟩
  ·rw [if_neg c4] at H
   have c4b0 : (a0_1 == a1_1) = false:=beq_eq_false_iff_ne.mpr c4
   have c4b1 : (a0_1 != a1_1) = true:=bne_iff_ne.mpr c4
   obtain rfl:=Option.some.inj H
   go_enter Try.func53,Try.ntmps53
   go_wp2_with (first | ((with_reducible refine gate_dst (N:=2) rfl ?_);refine box_event ?hg (N:=2) ?hd (cs:=#[.string a0_0,.int .i64 a0_1]) (t:=76) ?hr ?_;(case hd=>rfl);(case hg=>rfl);(case hr=>first | (go_simp;done) | (go_simp;rfl));intro gb1 hg w10 hbox hb;have BK1:=a0_ (hbox);have GW1:=a0_ ((by rw [hg];exact (below_size hbw_) : w.heap.size ≤ gb1));have GE1:=a0_ ((by rw [hg];exact (below_size hbw_) : w.heap.size ≤ gb1));replace HB:=a0_ (below_step hbw_ hb);clear hb hbox hg) | ((with_reducible refine gate_dst (N:=3) rfl ?_);refine box_event ?hg (N:=3) ?hd (cs:=#[.string a1_0,.int .i64 a1_1]) (t:=76) ?hr ?_;(case hd=>rfl);(case hg=>rfl);(case hr=>first | (go_simp;done) | (go_simp;rfl));intro gb2 hg w11 hbox hb;have n0_:=kb_ BK1 hb;have n1_:=a0_ (below_step hbw_ hb);have n2_:=a0_ (hbox);have n3_:=a0_ ((by rw [hg];exact (below_size hbw_) : w.heap.size ≤ gb2));have n4_:=a0_ ((by rw [hg];exact (below_size hbw_) : w.heap.size ≤ gb2));have n5_:=a0_ ((by rw [hg];exact Nat.ne_of_lt (blk_lt (bb_ BK1.out)) : gb1 ≠ gb2));have n6_:=a0_ ((by rw [hg];exact Nat.ne_of_gt (blk_lt (bb_ BK1.out)) : gb2 ≠ gb1));clear BK1 HB;have BK1:=n0_;have HB:=n1_;have BK2:=n2_;have GW2:=n3_;have GE2:=n4_;have NB1_2:=n5_;have NB2_1:=n6_;clear n0_ n1_ n2_ n3_ n4_ n5_ n6_;clear hb hbox hg;have hnb12:=NB1_2.out;have hnc12:=NB2_1.out;have hcz13_0 : w11.cell? ⟨gb1,0,none⟩ = some (.string a0_0):=(blk_cell BK1.out 0).trans rfl;have hcz13_1 : w11.cell? ⟨gb1,1,none⟩ = some (.int .i64 a0_1):=(blk_cell BK1.out 1).trans rfl;have hfz13_0:=blk_frozen BK1.out 0;have hfz13_1:=blk_frozen BK1.out 1;have hcz14_0 : w11.cell? ⟨gb2,0,none⟩ = some (.string a1_0):=(blk_cell BK2.out 0).trans rfl;have hcz14_1 : w11.cell? ⟨gb2,1,none⟩ = some (.int .i64 a1_1):=(blk_cell BK2.out 1).trans rfl;have hfz14_0:=blk_frozen BK2.out 0;have hfz14_1:=blk_frozen BK2.out 1))
   go_ret
   exact ⟨by first | rfl | (simp [errW_none,errW_some] <;> rfl) | (simp [*,errW_none,errW_some] <;> rfl),hbw_⟩
 ·rw [if_neg c3] at H
  have c3b0 : (a0_0.toList == a1_0.toList) = false:=beq_eq_false_iff_ne.mpr c3
  have c3b1 : (a0_0.toList != a1_0.toList) = true:=bne_iff_ne.mpr c3
  obtain rfl:=Option.some.inj H
  go_enter Try.func53,Try.ntmps53
  go_wp2_with (first | ((with_reducible refine gate_dst (N:=2) rfl ?_);refine box_event ?hg (N:=2) ?hd (cs:=#[.string a0_0,.int .i64 a0_1]) (t:=76) ?hr ?_;(case hd=>rfl);(case hg=>rfl);(case hr=>first | (go_simp;done) | (go_simp;rfl));intro gb1 hg w15 hbox hb;have BK1:=a0_ (hbox);have GW1:=a0_ ((by rw [hg];exact (below_size hbw_) : w.heap.size ≤ gb1));have GE1:=a0_ ((by rw [hg];exact (below_size hbw_) : w.heap.size ≤ gb1));replace HB:=a0_ (below_step hbw_ hb);clear hb hbox hg) | ((with_reducible refine gate_dst (N:=3) rfl ?_);refine box_event ?hg (N:=3) ?hd (cs:=#[.string a1_0,.int .i64 a1_1]) (t:=76) ?hr ?_;(case hd=>rfl);(case hg=>rfl);(case hr=>first | (go_simp;done) | (go_simp;rfl));intro gb2 hg w16 hbox hb;have n0_:=kb_ BK1 hb;have n1_:=a0_ (below_step hbw_ hb);have n2_:=a0_ (hbox);have n3_:=a0_ ((by rw [hg];exact (below_size hbw_) : w.heap.size ≤ gb2));have n4_:=a0_ ((by rw [hg];exact (below_size hbw_) : w.heap.size ≤ gb2));have n5_:=a0_ ((by rw [hg];exact Nat.ne_of_lt (blk_lt (bb_ BK1.out)) : gb1 ≠ gb2));have n6_:=a0_ ((by rw [hg];exact Nat.ne_of_gt (blk_lt (bb_ BK1.out)) : gb2 ≠ gb1));clear BK1 HB;have BK1:=n0_;have HB:=n1_;have BK2:=n2_;have GW2:=n3_;have GE2:=n4_;have NB1_2:=n5_;have NB2_1:=n6_;clear n0_ n1_ n2_ n3_ n4_ n5_ n6_;clear hb hbox hg;have hnb17:=NB1_2.out;have hnc17:=NB2_1.out;have hcz18_0 : w16.cell? ⟨gb1,0,none⟩ = some (.string a0_0):=(blk_cell BK1.out 0).trans rfl;have hcz18_1 : w16.cell? ⟨gb1,1,none⟩ = some (.int .i64 a0_1):=(blk_cell BK1.out 1).trans rfl;have hfz18_0:=blk_frozen BK1.out 0;have hfz18_1:=blk_frozen BK1.out 1;have hcz19_0 : w16.cell? ⟨gb2,0,none⟩ = some (.string a1_0):=(blk_cell BK2.out 0).trans rfl;have hcz19_1 : w16.cell? ⟨gb2,1,none⟩ = some (.int .i64 a1_1):=(blk_cell BK2.out 1).trans rfl;have hfz19_0:=blk_frozen BK2.out 0;have hfz19_1:=blk_frozen BK2.out 1))
  go_ret
  exact ⟨by first | rfl | (simp [errW_none,errW_some] <;> rfl) | (simp [*,errW_none,errW_some] <;> rfl),hbw_⟩
end Go.Proofs.Ytjcodcimodnbjaa.P
namespace Go.Proofs.Ytjcodcimodnbjaa.P
open Go.RowKit Go.Proofs.YtjcodcimodnbjaaW.PrintWords Go.Proofs.YtjcodcimodnbjaaW.PrintLast Go.Proofs.YtjcodcimodnbjaaW.PrintMore
attribute [local go_sem] max2_int min2_int max_two min_two max_three min_three max_four min_four
set_option linter.unusedVariables false
set_option linter.unusedSimpArgs false
def laws_eqClassS.l0 : Nat → List (S76) → List (S76) → Int → Option (Bool)
 | 0,_,_,_=>none
 | k + 1,x0,x1,x5=>if x5 < (x0.length : Int) then (if 0 ≤ x5 then (if x5 < (x1.length : Int) then ((laws_eqClass.f ((rd_T76 x0 x5).f0) ((rd_T76 x0 x5).f1) ((rd_T76 x1 x5).f0) ((rd_T76 x1 x5).f1)).bind fun t3=>(if t3 = true then (laws_eqClassS.l0 k x0 x1 (wrap64 (x5 + 1))) else (some false))) else (none)) else (none)) else (some true)
def laws_eqClassS.f (k : Nat) (l0 : List (S76)) (l1 : List (S76)) : Option (Bool):=if (l0.length : Int) = (l1.length : Int) then (laws_eqClassS.l0 k l0 l1 0) else (some false)
theorem laws_eqClassS.mono_l : ∀ k,(∀ y0 y1 y2,LeO (laws_eqClassS.l0 k y0 y1 y2) (laws_eqClassS.l0 (k + 1) y0 y1 y2))
 | 0=>fun _ _ _ r h=>by simp [laws_eqClassS.l0] at h
 | k + 1=>by
  have ih0:=laws_eqClassS.mono_l k
  ·intro y0 y1 y2
   unfold laws_eqClassS.l0
   repeat' first
   | (with_reducible exact ih0 _ _ _)
   | (with_reducible exact LeO.refl _)
   | (with_reducible exact LeO.none _)
   | (with_reducible refine LeO.ite ?_ ?_)
   | (with_reducible refine LeO.bind ?_ (fun _=>?_))
   | exact ih0 _ _ _
   | exact LeO.none _
   | refine LeO.ite ?_ ?_
   | refine LeO.bind ?_ (fun _=>?_)
theorem laws_eqClassS.mono : ∀ a0 a1 k,LeO (laws_eqClassS.f k a0 a1) (laws_eqClassS.f (k + 1) a0 a1):=by
 intro a0 a1 k
 have ih0:=laws_eqClassS.mono_l k
 unfold laws_eqClassS.f
 repeat' first
   | (with_reducible exact ih0 _ _ _)
   | (with_reducible exact LeO.refl _)
   | (with_reducible exact LeO.none _)
   | (with_reducible refine LeO.ite ?_ ?_)
   | (with_reducible refine LeO.bind ?_ (fun _=>?_))
   | exact ih0 _ _ _
   | exact LeO.none _
   | refine LeO.ite ?_ ?_
   | refine LeO.bind ?_ (fun _=>?_)
def laws_eqClassS.T6 : Bool × List (List Nat × List Nat):=(true,[([],[]),([],[]),([0,1],[0,1]),([2],[2]),([],[]),([],[]),([4,5],[4,5]),([6],[6]),([3,7],[3,7]),([8],[8])])
def laws_eqClassS.B6 : List Nat:=[0,0,3,7,0,0,48,112,255,511]
theorem laws_eqClassS.tab6 : rtab .any (opsOf Try.f36 6) = laws_eqClassS.T6:=by kernel_rfl
theorem laws_eqClassS.bits6 : waitsOk laws_eqClassS.T6.2 laws_eqClassS.B6 = true:=by kernel_rfl
set_option maxHeartbeats 8000000 in
set_option maxRecDepth 100000 in
theorem laws_eqClassS.calls (k : Nat) (A0 : Option Addr) (c0 : Nat) (l0 : List (S76)) (A1 : Option Addr) (c1 : Nat) (l1 : List (S76)) (r : Bool) (w : World) (hr0 : Kd.C k76 w A0 l0.length l0) (hc0 : l0.length ≤ c0) (hr1 : Kd.C k76 w A1 l1.length l1) (hc1 : l1.length ≤ c1) (h : laws_eqClassS.f k l0 l1 = some r) :
  Calls Try.prog 36 #[.slice A0 l0.length c0,.slice A1 l1.length c1] w fun e w'=>e = .returned (.bool r) ∧ Below w.heap.size w w':=by
 have hu76:=Try.underlying76
 have HR0:=a0_ hr0
 have HC0:=a0_ hc0
 clear hr0 hc0
 have HR1:=a0_ hr1
 have HC1:=a0_ hc1
 clear hr1 hc1
 have HB:=a0_ (Below.refl w.heap.size w)
 have H : (if (l0.length : Int) = (l1.length : Int) then (laws_eqClassS.l0 k l0 l1 0) else (some false)) = some r:=h
 clear h
 by_cases c3 : (l0.length : Int) = (l1.length : Int)
 ·rw [if_pos c3] at H
  have c3b0 : ((l0.length : Int) == (l1.length : Int)) = true:=beq_iff_eq.mpr c3
  have c3b1 : ((l0.length : Int) != (l1.length : Int)) = false:=bne_eq_false_iff_eq.mpr c3
  have c3b2 : (l0.length == l1.length) = true:=by first | simpa using c3 | (simp at c3 ⊢;omega)
  clear c3
  have H':=a0_ H
  clear H
  go_enter Try.func36,Try.ntmps36
  go_wp2
  go_loopg [5] k (fun kq v5 w'=>∃ (x5_1 : Int),v5 = .int .i64 x5_1 ∧ Aside0 (laws_eqClassS.l0 kq l0 l1 x5_1 = some r) ∧ Aside0 (kq ≤ k) ∧ Aside0 (Below w.heap.size w w'))
  case atStart=>exact ⟨(0),(by first | rfl | (simp;done) | (simp [*];done)),H',⟨Nat.le_refl _⟩,⟨hbw_⟩⟩
  case round =>
   clear H'
   try clear c1
   try clear p2
   try clear c3
   try clear c3b0
   try clear c3b1
   try clear c3b2
   obtain ⟨x5_1,rfl,HA,HK1,HB⟩:=hrel
   cases gk with
   | zero=>exact absurd HA.out (by simp [laws_eqClassS.l0])
   | succ k1 =>
    have H:=HA.out
    clear HA
    simp only [laws_eqClassS.l0] at H
    by_cases c4 : x5_1 < (l0.length : Int)
    ·rw [if_pos c4] at H
     have c4b0 : decide (x5_1 < (l0.length : Int)) = true:=decide_eq_true c4
     clear c4
     by_cases c5 : 0 ≤ x5_1
     ·rw [if_pos c5] at H
      have c5b0 : decide (0 ≤ x5_1) = true:=decide_eq_true c5
      clear c5
      by_cases c6 : x5_1 < (l1.length : Int)
      ·rw [if_pos c6] at H
       have c6b0 : decide (x5_1 < (l1.length : Int)) = true:=decide_eq_true c6
       clear c6
       replace H:=Option.bind_eq_some_iff.mp H
       obtain ⟨t3,A70,H⟩:=H
       try dsimp only at H
       have A7:=a0_ A70
       clear A70
       by_cases c8 : t3 = true
       ·subst c8
        have H1 : (laws_eqClassS.l0 k1 l0 l1 (wrap64 (x5_1 + 1))) = some r:=by rw [if_pos rfl] at H;exact H
        clear H
        have H:=H1
        clear H1
        have H':=a0_ H
        clear H
        try go_wp2
        have n0_:=a0_ (below_drew1 HB.out)
        clear HB
        have HB:=n0_
        clear n0_
        have p1 : 0 ≤ (x5_1 : Int):=of_decide_eq_true (by first | (with_reducible assumption) | assumption)
        have q1 : x5_1 < (l0.length : Int):=of_decide_eq_true (by first | (with_reducible assumption) | assumption)
        obtain ⟨ad1,e1,hx1_0,hx1_1⟩:=at_T76 HR0.out x5_1 p1 q1
        have hw1_1:=hx1_1
        have hw1_0:=hx1_0
        cases e1
        replace hx1_0:=(HB.out.cell (World.block_lt_of_cell? w _ hx1_0)).trans hx1_0
        replace hx1_1:=(HB.out.cell (World.block_lt_of_cell? w _ hx1_1)).trans hx1_1
        replace p1:=eq_true p1
        replace q1:=eq_true q1
        have p2 : 0 ≤ (x5_1 : Int):=of_decide_eq_true (by first | (with_reducible assumption) | assumption)
        have q2 : x5_1 < (l1.length : Int):=of_decide_eq_true (by first | (with_reducible assumption) | assumption)
        obtain ⟨ad2,e2,hx2_0,hx2_1⟩:=at_T76 HR1.out x5_1 p2 q2
        have hw2_1:=hx2_1
        have hw2_0:=hx2_0
        cases e2
        replace hx2_0:=(HB.out.cell (World.block_lt_of_cell? w _ hx2_0)).trans hx2_0
        replace hx2_1:=(HB.out.cell (World.block_lt_of_cell? w _ hx2_1)).trans hx2_1
        replace p2:=eq_true p2
        replace q2:=eq_true q2
        refine start_ (n:=10) (S:=fun w'=>w'.cell? (ad1.add ((x5_1).toNat * 2)) = some (.string ((rd_T76 l0 x5_1).f0)) ∧ w'.cell? ⟨(ad1.add ((x5_1).toNat * 2)).block,(ad1.add ((x5_1).toNat * 2)).off + 1,none⟩ = some (.int .i64 ((rd_T76 l0 x5_1).f1)) ∧ w'.cell? (ad2.add ((x5_1).toNat * 2)) = some (.string ((rd_T76 l1 x5_1).f0)) ∧ w'.cell? ⟨(ad2.add ((x5_1).toNat * 2)).block,(ad2.add ((x5_1).toNat * 2)).off + 1,none⟩ = some (.int .i64 ((rd_T76 l1 x5_1).f1))) (ds:=[]) #[false,false,false,false,false,false,false,false,false,false] (by kernel_rfl) rfl rfl ⟨((HB.out.cell (World.block_lt_of_cell? w _ hw1_0)).trans hw1_0),((HB.out.cell (World.block_lt_of_cell? w _ hw1_1)).trans hw1_1),((HB.out.cell (World.block_lt_of_cell? w _ hw2_0)).trans hw2_0),((HB.out.cell (World.block_lt_of_cell? w _ hw2_1)).trans hw2_1)⟩ (fun hHeld=>?_);refine with_tabW laws_eqClassS.tab6 laws_eqClassS.bits6 (fun HT_ HW_=>?_)
        generalize wr.drew = w9 at HB hx1_0 hx1_1 hx2_0 hx2_1 hHeld ⊢
        refine pure_ (i:=0) (N:=some 17) (v:=?_) (a':=?_) #[true,false,false,false,false,false,false,false,false,false] rfl rfl (any_of HT_.out (by kernel_rfl)) (fun _ _ _ h=>h) (Or.inl ⟨by rfl,?_⟩) ?_ ?_
        rotate_left
        ·intro w'
         go_simp
         with_reducible rfl
        rotate_left
        ·simp only [Act.put,s1_,s2_,s3_,i64_w,i32_w]
         rfl
        refine pure_ (i:=1) (N:=some 18) (v:=?_) (a':=?_) #[true,true,false,false,false,false,false,false,false,false] rfl rfl (any_of HT_.out (by kernel_rfl)) (fun _ _ _ h=>h) (Or.inl ⟨by rfl,?_⟩) ?_ ?_
        rotate_left
        ·intro w'
         go_simp
         with_reducible rfl
        rotate_left
        ·simp only [Act.put,s1_,s2_,s3_,i64_w,i32_w]
         rfl
        refine pure_ (i:=2) (N:=some 19) (v:=?_) (a':=?_) #[true,true,true,false,false,false,false,false,false,false] rfl rfl (any_of HT_.out (by kernel_rfl)) (fun _ _ _ h=>h) (Or.inl ⟨by rfl,?_⟩) ?_ ?_
        rotate_left
        ·intro w'
         go_simp
         with_reducible rfl
        rotate_left
        ·simp only [Act.put,s1_,s2_,s3_,i64_w,i32_w]
         rfl
        refine pure_ (i:=4) (N:=some 21) (v:=?_) (a':=?_) #[true,true,true,false,true,false,false,false,false,false] rfl rfl (any_of HT_.out (by kernel_rfl)) (fun _ _ _ h=>h) (Or.inl ⟨by rfl,?_⟩) ?_ ?_
        rotate_left
        ·intro w'
         go_simp
         with_reducible rfl
        rotate_left
        ·simp only [Act.put,s1_,s2_,s3_,i64_w,i32_w]
         rfl
        refine pure_ (i:=5) (N:=some 22) (v:=?_) (a':=?_) #[true,true,true,false,true,true,false,false,false,false] rfl rfl (any_of HT_.out (by kernel_rfl)) (fun _ _ _ h=>h) (Or.inl ⟨by rfl,?_⟩) ?_ ?_
        rotate_left
        ·intro w'
         go_simp
         with_reducible rfl
        rotate_left
        ·simp only [Act.put,s1_,s2_,s3_,i64_w,i32_w]
         rfl
        refine pure_ (i:=6) (N:=some 23) (v:=?_) (a':=?_) #[true,true,true,false,true,true,true,false,false,false] rfl rfl (any_of HT_.out (by kernel_rfl)) (fun _ _ _ h=>h) (Or.inl ⟨by rfl,?_⟩) ?_ ?_
        rotate_left
        ·intro w'
         go_simp
         with_reducible rfl
        rotate_left
        ·simp only [Act.put,s1_,s2_,s3_,i64_w,i32_w]
         rfl
        refine take_ (i:=3) (N:=some 20) (v:=?_) (a':=?_) #[true,true,true,true,true,true,true,false,false,false] rfl rfl (take_ofW HT_.out HW_.out (by kernel_rfl)) (fun _ _ _ h=>h) (Or.inl ⟨by rfl,?_⟩) hHeld ?_ ?_
        rotate_left
        ·rintro w' ⟨s0,s1,s2,s3⟩
         go_simp
         with_reducible rfl
        rotate_left
        ·simp only [Act.put,s1_,s2_,s3_,i64_w,i32_w]
         rfl
        refine take_ (i:=7) (N:=some 24) (v:=?_) (a':=?_) #[true,true,true,true,true,true,true,true,false,false] rfl rfl (take_ofW HT_.out HW_.out (by kernel_rfl)) (fun _ _ _ h=>h) (Or.inl ⟨by rfl,?_⟩) hHeld ?_ ?_
        rotate_left
        ·rintro w' ⟨s0,s1,s2,s3⟩
         go_simp
         with_reducible rfl
        rotate_left
        ·simp only [Act.put,s1_,s2_,s3_,i64_w,i32_w]
         rfl
        refine one_ (i:=8) (N:=some 25) #[true,true,true,true,true,true,true,true,true,false] rfl rfl (one_of HT_.out (by kernel_rfl)) (by decide) (fun K hK=>?_)
        refine goes_ Try.func53 (by kernel_rfl) rfl #[.agg #[.string ((rd_T76 l0 x5_1).f0),.int .i64 ((rd_T76 l0 x5_1).f1)],.agg #[.string ((rd_T76 l1 x5_1).f0),.int .i64 ((rd_T76 l1 x5_1).f1)]] (by rfl) rfl rfl lm_ ?_
        with_reducible refine (laws_eqClass.calls ((rd_T76 l0 x5_1).f0) ((rd_T76 l0 x5_1).f1) ((rd_T76 l1 x5_1).f0) ((rd_T76 l1 x5_1).f1) true _ A7.out).mono ?_
        rintro e w10 ⟨rfl,hb⟩
        refine ⟨_,rfl,?_⟩
        have n0_:=a0_ (below_step hbw_ hb)
        clear HB
        have HB:=n0_
        clear n0_
        (try clear hb)
        (try clear hb2)
        (try clear hk)
        (try clear hi)
        refine hK.out _ _ ⟨((HB.out.cell (World.block_lt_of_cell? w _ hw1_0)).trans hw1_0),((HB.out.cell (World.block_lt_of_cell? w _ hw1_1)).trans hw1_1),((HB.out.cell (World.block_lt_of_cell? w _ hw2_0)).trans hw2_0),((HB.out.cell (World.block_lt_of_cell? w _ hw2_1)).trans hw2_1)⟩ (fun hHeld=>?_)
        clear hK K
        refine norm_ (a':=?_) ?_ ?_
        rotate_left
        ·show Act.put _ (some 25) _ = _
         simp only [Act.put,s1_,s2_,s3_,i64_w,i32_w]
         rfl
        refine pure_ (i:=9) (N:=some 26) (v:=?_) (a':=?_) #[true,true,true,true,true,true,true,true,true,true] rfl rfl (any_of HT_.out (by kernel_rfl)) (fun _ _ _ h=>h) (Or.inl ⟨by rfl,?_⟩) ?_ ?_
        rotate_left
        ·intro w'
         go_simp
         with_reducible rfl
        rotate_left
        ·simp only [Act.put,s1_,s2_,s3_,i64_w,i32_w]
         rfl
        refine done_ (done_of HT_.out (by kernel_rfl)) ?_
        try go_wp2
        go_roundg k1
        case measure=>have:=HK1.out;omega
        case rel=>exact ⟨(wrap64 (x5_1 + 1)),(by first | rfl | (simp;done) | (simp [*];done)),H',⟨by have:=HK1.out;omega⟩,⟨hbw_⟩⟩
       ·replace c8:=Bool.eq_false_iff.mpr c8
        subst c8
        have H1 : (some false) = some r:=by rw [if_neg (show ¬ (false = true) by decide)] at H;exact H
        clear H
        have H:=H1
        clear H1
        obtain rfl:=Option.some.inj H
        try go_wp2
        have n0_:=a0_ (below_drew1 HB.out)
        clear HB
        have HB:=n0_
        clear n0_
        have p1 : 0 ≤ (x5_1 : Int):=of_decide_eq_true (by first | (with_reducible assumption) | assumption)
        have q1 : x5_1 < (l0.length : Int):=of_decide_eq_true (by first | (with_reducible assumption) | assumption)
        obtain ⟨ad1,e1,hx1_0,hx1_1⟩:=at_T76 HR0.out x5_1 p1 q1
        have hw1_1:=hx1_1
        have hw1_0:=hx1_0
        cases e1
        replace hx1_0:=(HB.out.cell (World.block_lt_of_cell? w _ hx1_0)).trans hx1_0
        replace hx1_1:=(HB.out.cell (World.block_lt_of_cell? w _ hx1_1)).trans hx1_1
        replace p1:=eq_true p1
        replace q1:=eq_true q1
        have p2 : 0 ≤ (x5_1 : Int):=of_decide_eq_true (by first | (with_reducible assumption) | assumption)
        have q2 : x5_1 < (l1.length : Int):=of_decide_eq_true (by first | (with_reducible assumption) | assumption)
        obtain ⟨ad2,e2,hx2_0,hx2_1⟩:=at_T76 HR1.out x5_1 p2 q2
        have hw2_1:=hx2_1
        have hw2_0:=hx2_0
        cases e2
        replace hx2_0:=(HB.out.cell (World.block_lt_of_cell? w _ hx2_0)).trans hx2_0
        replace hx2_1:=(HB.out.cell (World.block_lt_of_cell? w _ hx2_1)).trans hx2_1
        replace p2:=eq_true p2
        replace q2:=eq_true q2
        refine start_ (n:=10) (S:=fun w'=>w'.cell? (ad1.add ((x5_1).toNat * 2)) = some (.string ((rd_T76 l0 x5_1).f0)) ∧ w'.cell? ⟨(ad1.add ((x5_1).toNat * 2)).block,(ad1.add ((x5_1).toNat * 2)).off + 1,none⟩ = some (.int .i64 ((rd_T76 l0 x5_1).f1)) ∧ w'.cell? (ad2.add ((x5_1).toNat * 2)) = some (.string ((rd_T76 l1 x5_1).f0)) ∧ w'.cell? ⟨(ad2.add ((x5_1).toNat * 2)).block,(ad2.add ((x5_1).toNat * 2)).off + 1,none⟩ = some (.int .i64 ((rd_T76 l1 x5_1).f1))) (ds:=[]) #[false,false,false,false,false,false,false,false,false,false] (by kernel_rfl) rfl rfl ⟨((HB.out.cell (World.block_lt_of_cell? w _ hw1_0)).trans hw1_0),((HB.out.cell (World.block_lt_of_cell? w _ hw1_1)).trans hw1_1),((HB.out.cell (World.block_lt_of_cell? w _ hw2_0)).trans hw2_0),((HB.out.cell (World.block_lt_of_cell? w _ hw2_1)).trans hw2_1)⟩ (fun hHeld=>?_);refine with_tabW laws_eqClassS.tab6 laws_eqClassS.bits6 (fun HT_ HW_=>?_)
        generalize wr.drew = w11 at HB hx1_0 hx1_1 hx2_0 hx2_1 hHeld ⊢
        refine pure_ (i:=0) (N:=some 17) (v:=?_) (a':=?_) #[true,false,false,false,false,false,false,false,false,false] rfl rfl (any_of HT_.out (by kernel_rfl)) (fun _ _ _ h=>h) (Or.inl ⟨by rfl,?_⟩) ?_ ?_
        rotate_left
        ·intro w'
         go_simp
         with_reducible rfl
        rotate_left
        ·simp only [Act.put,s1_,s2_,s3_,i64_w,i32_w]
         rfl
        refine pure_ (i:=1) (N:=some 18) (v:=?_) (a':=?_) #[true,true,false,false,false,false,false,false,false,false] rfl rfl (any_of HT_.out (by kernel_rfl)) (fun _ _ _ h=>h) (Or.inl ⟨by rfl,?_⟩) ?_ ?_
        rotate_left
        ·intro w'
         go_simp
         with_reducible rfl
        rotate_left
        ·simp only [Act.put,s1_,s2_,s3_,i64_w,i32_w]
         rfl
        refine pure_ (i:=2) (N:=some 19) (v:=?_) (a':=?_) #[true,true,true,false,false,false,false,false,false,false] rfl rfl (any_of HT_.out (by kernel_rfl)) (fun _ _ _ h=>h) (Or.inl ⟨by rfl,?_⟩) ?_ ?_
        rotate_left
        ·intro w'
         go_simp
         with_reducible rfl
        rotate_left
        ·simp only [Act.put,s1_,s2_,s3_,i64_w,i32_w]
         rfl
        refine pure_ (i:=4) (N:=some 21) (v:=?_) (a':=?_) #[true,true,true,false,true,false,false,false,false,false] rfl rfl (any_of HT_.out (by kernel_rfl)) (fun _ _ _ h=>h) (Or.inl ⟨by rfl,?_⟩) ?_ ?_
        rotate_left
        ·intro w'
         go_simp
         with_reducible rfl
        rotate_left
        ·simp only [Act.put,s1_,s2_,s3_,i64_w,i32_w]
         rfl
        refine pure_ (i:=5) (N:=some 22) (v:=?_) (a':=?_) #[true,true,true,false,true,true,false,false,false,false] rfl rfl (any_of HT_.out (by kernel_rfl)) (fun _ _ _ h=>h) (Or.inl ⟨by rfl,?_⟩) ?_ ?_
        rotate_left
        ·intro w'
         go_simp
         with_reducible rfl
        rotate_left
        ·simp only [Act.put,s1_,s2_,s3_,i64_w,i32_w]
         rfl
        refine pure_ (i:=6) (N:=some 23) (v:=?_) (a':=?_) #[true,true,true,false,true,true,true,false,false,false] rfl rfl (any_of HT_.out (by kernel_rfl)) (fun _ _ _ h=>h) (Or.inl ⟨by rfl,?_⟩) ?_ ?_
        rotate_left
        ·intro w'
         go_simp
         with_reducible rfl
        rotate_left
        ·simp only [Act.put,s1_,s2_,s3_,i64_w,i32_w]
         rfl
        refine take_ (i:=3) (N:=some 20) (v:=?_) (a':=?_) #[true,true,true,true,true,true,true,false,false,false] rfl rfl (take_ofW HT_.out HW_.out (by kernel_rfl)) (fun _ _ _ h=>h) (Or.inl ⟨by rfl,?_⟩) hHeld ?_ ?_
        rotate_left
        ·rintro w' ⟨s0,s1,s2,s3⟩
         go_simp
         with_reducible rfl
        rotate_left
        ·simp only [Act.put,s1_,s2_,s3_,i64_w,i32_w]
         rfl
        refine take_ (i:=7) (N:=some 24) (v:=?_) (a':=?_) #[true,true,true,true,true,true,true,true,false,false] rfl rfl (take_ofW HT_.out HW_.out (by kernel_rfl)) (fun _ _ _ h=>h) (Or.inl ⟨by rfl,?_⟩) hHeld ?_ ?_
        rotate_left
        ·rintro w' ⟨s0,s1,s2,s3⟩
         go_simp
         with_reducible rfl
        rotate_left
        ·simp only [Act.put,s1_,s2_,s3_,i64_w,i32_w]
         rfl
        refine one_ (i:=8) (N:=some 25) #[true,true,true,true,true,true,true,true,true,false] rfl rfl (one_of HT_.out (by kernel_rfl)) (by decide) (fun K hK=>?_)
        refine goes_ Try.func53 (by kernel_rfl) rfl #[.agg #[.string ((rd_T76 l0 x5_1).f0),.int .i64 ((rd_T76 l0 x5_1).f1)],.agg #[.string ((rd_T76 l1 x5_1).f0),.int .i64 ((rd_T76 l1 x5_1).f1)]] (by rfl) rfl rfl lm_ ?_
        with_reducible refine (laws_eqClass.calls ((rd_T76 l0 x5_1).f0) ((rd_T76 l0 x5_1).f1) ((rd_T76 l1 x5_1).f0) ((rd_T76 l1 x5_1).f1) false _ A7.out).mono ?_
        rintro e w12 ⟨rfl,hb⟩
        refine ⟨_,rfl,?_⟩
        have n0_:=a0_ (below_step hbw_ hb)
        clear HB
        have HB:=n0_
        clear n0_
        (try clear hb)
        (try clear hb2)
        (try clear hk)
        (try clear hi)
        refine hK.out _ _ ⟨((HB.out.cell (World.block_lt_of_cell? w _ hw1_0)).trans hw1_0),((HB.out.cell (World.block_lt_of_cell? w _ hw1_1)).trans hw1_1),((HB.out.cell (World.block_lt_of_cell? w _ hw2_0)).trans hw2_0),((HB.out.cell (World.block_lt_of_cell? w _ hw2_1)).trans hw2_1)⟩ (fun hHeld=>?_)
        clear hK K
        refine norm_ (a':=?_) ?_ ?_
        rotate_left
        ·show Act.put _ (some 25) _ = _
         simp only [Act.put,s1_,s2_,s3_,i64_w,i32_w]
         rfl
        refine pure_ (i:=9) (N:=some 26) (v:=?_) (a':=?_) #[true,true,true,true,true,true,true,true,true,true] rfl rfl (any_of HT_.out (by kernel_rfl)) (fun _ _ _ h=>h) (Or.inl ⟨by rfl,?_⟩) ?_ ?_
        rotate_left
        ·intro w'
         go_simp
         with_reducible rfl
        rotate_left
        ·simp only [Act.put,s1_,s2_,s3_,i64_w,i32_w]
         rfl
        refine done_ (done_of HT_.out (by kernel_rfl)) ?_
        try go_wp2
        go_ret
        exact ⟨by first | rfl | (simp [errW_none,errW_some] <;> rfl) | (simp [*,errW_none,errW_some] <;> rfl),hbw_⟩
      ·rw [if_neg c6] at H
       exact absurd H (by simp)
     ·rw [if_neg c5] at H
      exact absurd H (by simp)
    ·rw [if_neg c4] at H
     have c4b0 : decide (x5_1 < (l0.length : Int)) = false:=decide_eq_false c4
     clear c4
     obtain rfl:=Option.some.inj H
     go_wp2
     go_ret
     exact ⟨by first | rfl | (simp [errW_none,errW_some] <;> rfl) | (simp [*,errW_none,errW_some] <;> rfl),hbw_⟩
 ·rw [if_neg c3] at H
  have c3b0 : ((l0.length : Int) == (l1.length : Int)) = false:=beq_eq_false_iff_ne.mpr c3
  have c3b1 : ((l0.length : Int) != (l1.length : Int)) = true:=bne_iff_ne.mpr c3
  have c3b2 : (l0.length == l1.length) = false:=by first | simpa using c3 | (simp at c3 ⊢;omega)
  obtain rfl:=Option.some.inj H
  go_enter Try.func36,Try.ntmps36
  go_wp2
  go_ret
  exact ⟨by first | rfl | (simp [errW_none,errW_some] <;> rfl) | (simp [*,errW_none,errW_some] <;> rfl),hbw_⟩
theorem laws_eqClassS_ev (l : List Cls) (hl : l.length ≤ 9223372036854775807) : Ev (fun k=>laws_eqClassS.f k l l) true:=by
 have h:=st_loop (fun k (_ : Unit) i=>laws_eqClassS.l0 k l l i) l.length (fun _=>()) true (by
  intro k i hi
  simp only [laws_eqClassS.l0,laws_eqClass.f,if_pos,Option.bind_some]
  rw [if_pos (by omega),if_pos (by omega),if_pos (by omega),wrap_succ (i:=(i : Int)) (n:=l.length) (by omega) (by omega) (by omega)]
  rfl) (by
  intro k
  simp only [laws_eqClassS.l0]
  rw [if_neg (by omega)])
 refine Ev.of_mono (laws_eqClassS.mono l l) (K:=l.length + 1) ?_
 unfold laws_eqClassS.f
 rw [if_pos rfl]
 exact h
end Go.Proofs.Ytjcodcimodnbjaa.P
namespace Go.Proofs.Ytjcodcimodnbjaa.P
open Go.RowKit Go.Proofs.YtjcodcimodnbjaaW.PrintWords Go.Proofs.YtjcodcimodnbjaaW.PrintLast Go.Proofs.YtjcodcimodnbjaaW.PrintMore
attribute [local go_sem] max2_int min2_int max_two min_two max_three min_three max_four min_four
set_option linter.unusedVariables false
set_option linter.unusedSimpArgs false
def laws_eqTree.f (k : Nat) (l0_0 : List (S76)) (l1_0 : List (S76)) : Option (Bool):=(laws_eqClassS.f k l0_0 l1_0).bind fun t3=>(if t3 = true then (some true) else (some false))
theorem laws_eqTree.mono : ∀ a0 a1 k,LeO (laws_eqTree.f k a0 a1) (laws_eqTree.f (k + 1) a0 a1):=by
 intro a0 a1 k
 unfold laws_eqTree.f
 repeat' first
   | (with_reducible exact laws_eqClassS.mono _ _ _)
   | (with_reducible exact LeO.refl _)
   | (with_reducible exact LeO.none _)
   | (with_reducible refine LeO.ite ?_ ?_)
   | (with_reducible refine LeO.bind ?_ (fun _=>?_))
   | exact laws_eqClassS.mono _ _ _
   | exact LeO.none _
   | refine LeO.ite ?_ ?_
   | refine LeO.bind ?_ (fun _=>?_)
set_option maxHeartbeats 8000000 in
set_option maxRecDepth 100000 in
theorem laws_eqTree.calls (k : Nat) (A0_0 : Option Addr) (c0_0 : Nat) (l0_0 : List (S76)) (A1_0 : Option Addr) (c1_0 : Nat) (l1_0 : List (S76)) (r : Bool) (w : World) (hr0_0 : Kd.C k76 w A0_0 l0_0.length l0_0) (hc0_0 : l0_0.length ≤ c0_0) (hr1_0 : Kd.C k76 w A1_0 l1_0.length l1_0) (hc1_0 : l1_0.length ≤ c1_0) (h : laws_eqTree.f k l0_0 l1_0 = some r) :
  Calls Try.prog 15 #[.agg #[.slice A0_0 l0_0.length c0_0],.agg #[.slice A1_0 l1_0.length c1_0]] w fun e w'=>e = .returned (.bool r) ∧ Below w.heap.size w w':=by
 have hu35:=Try.underlying35
 have HR0_0:=a0_ hr0_0
 have HC0_0:=a0_ hc0_0
 clear hr0_0 hc0_0
 have HR1_0:=a0_ hr1_0
 have HC1_0:=a0_ hc1_0
 clear hr1_0 hc1_0
 have HB:=a0_ (Below.refl w.heap.size w)
 have H : ((laws_eqClassS.f k l0_0 l1_0).bind fun t3=>(if t3 = true then (some true) else (some false))) = some r:=h
 clear h
 replace H:=Option.bind_eq_some_iff.mp H
 obtain ⟨t3,A30,H⟩:=H
 replace H : (if t3 = true then (some true) else (some false)) = some r:=H
 have A3:=a0_ A30
 clear A30
 by_cases c4 : t3 = true
 ·subst c4
  have H1 : (some true) = some r:=by rw [if_pos rfl] at H;exact H
  clear H
  have H:=H1
  clear H1
  obtain rfl:=Option.some.inj H
  go_enter Try.func15,Try.ntmps15
  go_wp2_with (first | ((with_reducible refine gate_dst (N:=2) rfl ?_);refine box_event ?hg (N:=2) ?hd (cs:=#[.slice A0_0 l0_0.length c0_0]) (t:=35) ?hr ?_;(case hd=>rfl);(case hg=>rfl);(case hr=>first | (go_simp;done) | (go_simp;rfl));intro gb1 hg w5 hbox hb;have BK1:=a0_ (hbox);have GW1:=a0_ ((by rw [hg];exact (below_size hbw_) : w.heap.size ≤ gb1));have GE1:=a0_ ((by rw [hg];exact (below_size hbw_) : w.heap.size ≤ gb1));replace HB:=a0_ (below_step hbw_ hb);clear hb hbox hg) | ((with_reducible refine gate_dst (N:=3) rfl ?_);refine box_event ?hg (N:=3) ?hd (cs:=#[.slice A1_0 l1_0.length c1_0]) (t:=35) ?hr ?_;(case hd=>rfl);(case hg=>rfl);(case hr=>first | (go_simp;done) | (go_simp;rfl));intro gb2 hg w6 hbox hb;have n0_:=kb_ BK1 hb;have n1_:=a0_ (below_step hbw_ hb);have n2_:=a0_ (hbox);have n3_:=a0_ ((by rw [hg];exact (below_size hbw_) : w.heap.size ≤ gb2));have n4_:=a0_ ((by rw [hg];exact (below_size hbw_) : w.heap.size ≤ gb2));have n5_:=a0_ ((by rw [hg];exact Nat.ne_of_lt (blk_lt (bb_ BK1.out)) : gb1 ≠ gb2));have n6_:=a0_ ((by rw [hg];exact Nat.ne_of_gt (blk_lt (bb_ BK1.out)) : gb2 ≠ gb1));clear BK1 HB;have BK1:=n0_;have HB:=n1_;have BK2:=n2_;have GW2:=n3_;have GE2:=n4_;have NB1_2:=n5_;have NB2_1:=n6_;clear n0_ n1_ n2_ n3_ n4_ n5_ n6_;clear hb hbox hg;have hnb7:=NB1_2.out;have hnc7:=NB2_1.out;have hcz8_0 : w6.cell? ⟨gb1,0,none⟩ = some (.slice A0_0 l0_0.length c0_0):=(blk_cell BK1.out 0).trans rfl;have hfz8_0:=blk_frozen BK1.out 0;have hcz9_0 : w6.cell? ⟨gb2,0,none⟩ = some (.slice A1_0 l1_0.length c1_0):=(blk_cell BK2.out 0).trans rfl;have hfz9_0:=blk_frozen BK2.out 0) | ((with_reducible refine gate_callee (f:=36) rfl ?_);refine goesL_ (some 9) rfl rfl Try.func36 (by kernel_rfl) rfl #[.slice A0_0 l0_0.length c0_0,.slice A1_0 l1_0.length c1_0] rfl lm_ ?_;(with_reducible refine (laws_eqClassS.calls k _ _ l0_0 _ _ l1_0 true _ ?side1 ?side2 ?side3 ?side4 A3.out).mono ?_);(case side1=>exact cc_ (Kd.C_below HR0_0.out HB.out));(case side2=>exact HC0_0.out);(case side3=>exact cc_ (Kd.C_below HR1_0.out HB.out));(case side4=>exact HC1_0.out);rintro e w10 ⟨rfl,hb⟩;refine ⟨_,rfl,?_⟩;replace BK1:=kb_ BK1 hb;replace BK2:=kb_ BK2 hb;replace HB:=a0_ (below_step hbw_ hb);(try clear hb);(try clear hb2);(try clear hk);(try clear hi)))
  go_ret
  exact ⟨by first | rfl | (simp [errW_none,errW_some] <;> rfl) | (simp [*,errW_none,errW_some] <;> rfl),hbw_⟩
 ·replace c4:=Bool.eq_false_iff.mpr c4
  subst c4
  have H1 : (some false) = some r:=by rw [if_neg (show ¬ (false = true) by decide)] at H;exact H
  clear H
  have H:=H1
  clear H1
  obtain rfl:=Option.some.inj H
  go_enter Try.func15,Try.ntmps15
  go_wp2_with (first | ((with_reducible refine gate_dst (N:=2) rfl ?_);refine box_event ?hg (N:=2) ?hd (cs:=#[.slice A0_0 l0_0.length c0_0]) (t:=35) ?hr ?_;(case hd=>rfl);(case hg=>rfl);(case hr=>first | (go_simp;done) | (go_simp;rfl));intro gb1 hg w11 hbox hb;have BK1:=a0_ (hbox);have GW1:=a0_ ((by rw [hg];exact (below_size hbw_) : w.heap.size ≤ gb1));have GE1:=a0_ ((by rw [hg];exact (below_size hbw_) : w.heap.size ≤ gb1));replace HB:=a0_ (below_step hbw_ hb);clear hb hbox hg) | ((with_reducible refine gate_dst (N:=3) rfl ?_);refine box_event ?hg (N:=3) ?hd (cs:=#[.slice A1_0 l1_0.length c1_0]) (t:=35) ?hr ?_;(case hd=>rfl);(case hg=>rfl);(case hr=>first | (go_simp;done) | (go_simp;rfl));intro gb2 hg w12 hbox hb;have n0_:=kb_ BK1 hb;have n1_:=a0_ (below_step hbw_ hb);have n2_:=a0_ (hbox);have n3_:=a0_ ((by rw [hg];exact (below_size hbw_) : w.heap.size ≤ gb2));have n4_:=a0_ ((by rw [hg];exact (below_size hbw_) : w.heap.size ≤ gb2));have n5_:=a0_ ((by rw [hg];exact Nat.ne_of_lt (blk_lt (bb_ BK1.out)) : gb1 ≠ gb2));have n6_:=a0_ ((by rw [hg];exact Nat.ne_of_gt (blk_lt (bb_ BK1.out)) : gb2 ≠ gb1));clear BK1 HB;have BK1:=n0_;have HB:=n1_;have BK2:=n2_;have GW2:=n3_;have GE2:=n4_;have NB1_2:=n5_;have NB2_1:=n6_;clear n0_ n1_ n2_ n3_ n4_ n5_ n6_;clear hb hbox hg;have hnb13:=NB1_2.out;have hnc13:=NB2_1.out;have hcz14_0 : w12.cell? ⟨gb1,0,none⟩ = some (.slice A0_0 l0_0.length c0_0):=(blk_cell BK1.out 0).trans rfl;have hfz14_0:=blk_frozen BK1.out 0;have hcz15_0 : w12.cell? ⟨gb2,0,none⟩ = some (.slice A1_0 l1_0.length c1_0):=(blk_cell BK2.out 0).trans rfl;have hfz15_0:=blk_frozen BK2.out 0) | ((with_reducible refine gate_callee (f:=36) rfl ?_);refine goesL_ (some 9) rfl rfl Try.func36 (by kernel_rfl) rfl #[.slice A0_0 l0_0.length c0_0,.slice A1_0 l1_0.length c1_0] rfl lm_ ?_;(with_reducible refine (laws_eqClassS.calls k _ _ l0_0 _ _ l1_0 false _ ?side1 ?side2 ?side3 ?side4 A3.out).mono ?_);(case side1=>exact cc_ (Kd.C_below HR0_0.out HB.out));(case side2=>exact HC0_0.out);(case side3=>exact cc_ (Kd.C_below HR1_0.out HB.out));(case side4=>exact HC1_0.out);rintro e w16 ⟨rfl,hb⟩;refine ⟨_,rfl,?_⟩;replace BK1:=kb_ BK1 hb;replace BK2:=kb_ BK2 hb;replace HB:=a0_ (below_step hbw_ hb);(try clear hb);(try clear hb2);(try clear hk);(try clear hi)))
  go_ret
  exact ⟨by first | rfl | (simp [errW_none,errW_some] <;> rfl) | (simp [*,errW_none,errW_some] <;> rfl),hbw_⟩
theorem laws_eqTree_ev (l : List Cls) (hl : l.length ≤ 9223372036854775807) : Ev (fun k=>laws_eqTree.f k l l) true :=
 Ev.bind (laws_eqClassS_ev l hl) (Ev.pos rfl (Ev.const rfl))
end Go.Proofs.Ytjcodcimodnbjaa.P
namespace Go.Proofs.Ytjcodcimodnbjaa.P
open Go.RowKit Go.Proofs.YtjcodcimodnbjaaW.PrintWords Go.Proofs.YtjcodcimodnbjaaW.PrintLast Go.Proofs.YtjcodcimodnbjaaW.PrintMore
attribute [local go_sem] max2_int min2_int max_two min_two max_three min_three max_four min_four
set_option linter.unusedVariables false
set_option linter.unusedSimpArgs false
def laws_markText.l0 : Nat → Int → ByteArray → Option (ByteArray)
 | 0,_,_=>none
 | k + 1,x0,x3=>if x0 > 0 then ((some (([(wrap64 (48 + (Int.tmod x0 10))) % 256] : List Int) : List Int)).bind fun y1=>(if (strOfNums y1).size + x3.size ≤ 9223372036854775807 then (laws_markText.l0 k (wrap64 (Int.tdiv x0 10)) ((strOfNums y1) ++ x3)) else (none))) else (if 1 + x3.size ≤ 9223372036854775807 then (some ((⟨#[109]⟩ : ByteArray) ++ x3)) else (none))
def laws_markText.f (k : Nat) (a0 : Int) : Option (ByteArray):=if a0 ≤ 0 then (some (⟨#[109,48]⟩ : ByteArray)) else (laws_markText.l0 k a0 (⟨#[]⟩ : ByteArray))
theorem laws_markText.mono_l : ∀ k,(∀ y0 y1,LeO (laws_markText.l0 k y0 y1) (laws_markText.l0 (k + 1) y0 y1))
 | 0=>fun _ _ r h=>by simp [laws_markText.l0] at h
 | k + 1=>by
  have ih0:=laws_markText.mono_l k
  ·intro y0 y1
   unfold laws_markText.l0
   repeat' first
   | (with_reducible exact ih0 _ _)
   | (with_reducible exact LeO.refl _)
   | (with_reducible exact LeO.none _)
   | (with_reducible refine LeO.ite ?_ ?_)
   | (with_reducible refine LeO.bind ?_ (fun _=>?_))
   | exact ih0 _ _
   | exact LeO.none _
   | refine LeO.ite ?_ ?_
   | refine LeO.bind ?_ (fun _=>?_)
theorem laws_markText.mono : ∀ a0 k,LeO (laws_markText.f k a0) (laws_markText.f (k + 1) a0):=by
 intro a0 k
 have ih0:=laws_markText.mono_l k
 unfold laws_markText.f
 repeat' first
   | (with_reducible exact ih0 _ _)
   | (with_reducible exact LeO.refl _)
   | (with_reducible exact LeO.none _)
   | (with_reducible refine LeO.ite ?_ ?_)
   | (with_reducible refine LeO.bind ?_ (fun _=>?_))
   | exact ih0 _ _
   | exact LeO.none _
   | refine LeO.ite ?_ ?_
   | refine LeO.bind ?_ (fun _=>?_)
set_option maxHeartbeats 8000000 in
set_option maxRecDepth 100000 in
theorem laws_markText.calls (k : Nat) (a0 : Int) (r : ByteArray) (w : World) (h : laws_markText.f k a0 = some r) :
  Calls Try.prog 54 #[.int .i64 a0] w fun e w'=>e = .returned (.string r) ∧ Below w.heap.size w w':=by
 have HB:=a0_ (Below.refl w.heap.size w)
 have H : (if a0 ≤ 0 then (some (⟨#[109,48]⟩ : ByteArray)) else (laws_markText.l0 k a0 (⟨#[]⟩ : ByteArray))) = some r:=h
 clear h
 by_cases c2 : a0 ≤ 0
 ·rw [if_pos c2] at H
  have c2b0 : decide (a0 ≤ 0) = true:=decide_eq_true c2
  clear c2
  obtain rfl:=Option.some.inj H
  go_enter Try.func54,Try.ntmps54
  go_wp2
  go_ret
  exact ⟨by first | rfl | (simp [errW_none,errW_some] <;> rfl) | (simp [*,errW_none,errW_some] <;> rfl),hbw_⟩
 ·rw [if_neg c2] at H
  have c2b0 : decide (a0 ≤ 0) = false:=decide_eq_false c2
  clear c2
  have H':=a0_ H
  clear H
  go_enter Try.func54,Try.ntmps54
  go_wp2
  go_loopg [0,3] k (fun kq v0 v3 w'=>∃ (x0_1 : Int) (x3_1 : ByteArray),v0 = .int .i64 x0_1 ∧ v3 = .string x3_1 ∧ Aside0 (laws_markText.l0 kq x0_1 x3_1 = some r) ∧ Aside0 (kq ≤ k) ∧ Aside0 (Below w.heap.size w w'))
  case atStart=>exact ⟨(a0),((⟨#[]⟩ : ByteArray)),(by first | rfl | (simp;done) | (simp [*];done)),(by first | rfl | (simp;done) | (simp [*];done)),H',⟨Nat.le_refl _⟩,⟨hbw_⟩⟩
  case round =>
   clear H'
   try clear c2
   try clear c2b0
   try clear p2
   obtain ⟨x0_1,x3_1,rfl,rfl,HA,HK1,HB⟩:=hrel
   cases gk with
   | zero=>exact absurd HA.out (by simp [laws_markText.l0])
   | succ k1 =>
    have H:=HA.out
    clear HA
    simp only [laws_markText.l0] at H
    by_cases c3 : x0_1 > 0
    ·rw [if_pos c3] at H
     have c3b0 : decide (0 < x0_1) = true:=decide_eq_true c3
     clear c3
     obtain ⟨y1,hy1⟩ : ∃ y_ : List Int,y_ = (([(wrap64 (48 + (Int.tmod x0_1 10))) % 256] : List Int)):=⟨_,rfl⟩
     replace H : (if (strOfNums y1).size + x3_1.size ≤ 9223372036854775807 then (laws_markText.l0 k1 (wrap64 (Int.tdiv x0_1 10)) ((strOfNums y1) ++ x3_1)) else (none)) = some r:=by first | (rw [hy1];with_reducible exact H) | (have H2_:=(Option.bind_some _ _).symm.trans H;rw [hy1];with_reducible exact H2_) | (have H2_:=(Option.bind_some _ _).symm.trans H;with_reducible exact H2_) | with_reducible exact H | (rw [hy1];exact H) | exact H
     have Ny1:=a0_ hy1
     clear hy1
     by_cases c4 : (strOfNums y1).size + x3_1.size ≤ 9223372036854775807
     ·rw [if_pos c4] at H
      have c4b0:=eq_true c4
      have c4b1 : decide ((strOfNums y1).size + x3_1.size ≤ 9223372036854775807) = true:=decide_eq_true c4
      try have c4b2 : (9223372036854775807 < (strOfNums y1).size + x3_1.size) = False:=eq_false (Nat.not_lt.2 c4)
      have H':=a0_ H
      clear H
      go_wp2_with (first | ((with_reducible refine gate_dst (N:=12) rfl ?_);refine Kd.R_lit (Kd.int .u8) _ 5 ?hg (N:=12) ?hd (xs:=([(wrap64 (48 + (Int.tmod x0_1 10))) % 256] : List Int)) (inner:=[.int .u8 ((wrap64 (48 + (Int.tmod x0_1 10))) % 256)]) (ok:=fun _=>True) (okp:=fun _=>True) ?hr ?hp (fun _ hk=>hk) trivial (Below.refl _ _) (Nat.le_refl _) (by simp) ?_;(case hd=>rfl);(case hg=>rfl);(case hr=>first | (go_simp;done) | (go_simp;rfl));(case hp=>exact (Reps.one (show Kd.M (Kd.int .u8) _ _ _ ((wrap64 (48 + (Int.tmod x0_1 10))) % 256) [.int .u8 ((wrap64 (48 + (Int.tmod x0_1 10))) % 256)] from rfl) (Reps.none _ _)));intro v2 w5 ho6 hb hg_ hnew_;clear hg_ hnew_;(first | rw [← Ny1.out] at ho6 | (simp only [Int.reduceToNat] at ho6;rw [← Ny1.out] at ho6));have HO3:=a0_ (Kd.R_lower ho6 (below_size hbw_));replace HB:=a0_ (below_step hbw_ hb);clear hb ho6;have hcv7:=own_string (P:=Try.prog) Try.underlying104 Try.underlying5 Try.underlying9 (Kd.own_of_R HO3.out)))
      go_roundg k1
      case measure=>have:=HK1.out;omega
      case rel=>exact ⟨(wrap64 (Int.tdiv x0_1 10)),((strOfNums y1) ++ x3_1),(by first | rfl | (simp;done) | (simp [*];done)),(by first | rfl | (simp;done) | (simp [*];done)),H',⟨by have:=HK1.out;omega⟩,⟨hbw_⟩⟩
     ·rw [if_neg c4] at H
      exact absurd H (by simp)
    ·rw [if_neg c3] at H
     have c3b0 : decide (0 < x0_1) = false:=decide_eq_false c3
     clear c3
     by_cases c8 : 1 + x3_1.size ≤ 9223372036854775807
     ·rw [if_pos c8] at H
      have c8b0:=eq_true c8
      have c8b1 : decide (1 + x3_1.size ≤ 9223372036854775807) = true:=decide_eq_true c8
      try have c8b2 : (9223372036854775807 < 1 + x3_1.size) = False:=eq_false (Nat.not_lt.2 c8)
      obtain rfl:=Option.some.inj H
      go_wp2
      go_ret
      exact ⟨by first | rfl | (simp [errW_none,errW_some] <;> rfl) | (simp [*,errW_none,errW_some] <;> rfl),hbw_⟩
     ·rw [if_neg c8] at H
      exact absurd H (by simp)
theorem laws_markText_l0 : ∀ (n : Nat) (a : Int) (out : ByteArray),0 ≤ a → a < (n : Int) → out.size + n ≤ 9223372036854775807 → ∃ s,laws_markText.l0 n a out = some s:=by
 intro n
 induction n with
 | zero=>intro a out h0 h;omega
 | succ n ih =>
  intro a out h0 h hs
  simp only [laws_markText.l0]
  by_cases hp : a > 0
  ·rw [if_pos hp]
   simp only [Option.bind_some]
   rw [if_pos (by rw [strOfNums_size];simp;omega)]
   have hd : Int.tdiv a 10 = a / 10:=Int.tdiv_eq_ediv_of_nonneg h0
   rw [hd,wrap_in (by omega) (by omega)]
   exact ih _ _ (by omega) (by omega) (by rw [ByteArray.size_append,strOfNums_size];simp;omega)
  ·rw [if_neg hp,if_pos (by omega)]
   exact ⟨_,rfl⟩
theorem laws_markText_ev (a : Int) (ha : a ≤ 4611686018427387904) : ∃ s,Ev (fun k=>laws_markText.f k a) s:=by
 by_cases h : a ≤ 0
 ·exact ⟨_,Ev.pos h (Ev.const rfl)⟩
 ·obtain ⟨s,hs⟩:=laws_markText_l0 (a.toNat + 1) a ⟨#[]⟩ (by omega) (by omega) (by show 0 + _ ≤ _;omega)
  refine ⟨s,Ev.of_mono (laws_markText.mono a) (K:=a.toNat + 1) ?_⟩
  unfold laws_markText.f
  rw [if_neg h]
  exact hs
end Go.Proofs.Ytjcodcimodnbjaa.P
namespace Go.Proofs.Ytjcodcimodnbjaa.P
open Go.RowKit Go.Proofs.YtjcodcimodnbjaaW.PrintWords Go.Proofs.YtjcodcimodnbjaaW.PrintLast Go.Proofs.YtjcodcimodnbjaaW.PrintMore
attribute [local go_sem] max2_int min2_int max_two min_two max_three min_three max_four min_four
set_option linter.unusedVariables false
set_option linter.unusedSimpArgs false
def laws_markClassS.l0 : Nat → List (S76) → Int → Int → Option (Int × (List (S76)))
 | 0,_,_,_=>none
 | k + 1,x0,x1,x5=>if x5 < (x0.length : Int) then ((laws_markText.f k x1).bind fun t1=>(if 0 ≤ x5 then ((some (x0.set (x5 : Int).toNat (⟨t1,(rd_T76 x0 x5).f1⟩ : S76) : List (S76))).bind fun y2=>(laws_markClassS.l0 k (y2.set (x5 : Int).toNat (⟨(rd_T76 y2 x5).f0,wrap64 (x1 + 1)⟩ : S76)) (wrap64 ((wrap64 (x1 + 1)) + 1)) (wrap64 (x5 + 1)))) else (none))) else (some (x1,x0))
def laws_markClassS.f (k : Nat) (l0 : List (S76)) (a1 : Int) : Option (Int × (List (S76))):=laws_markClassS.l0 k l0 a1 0
theorem laws_markClassS.mono_l : ∀ k,(∀ y0 y1 y2,LeO (laws_markClassS.l0 k y0 y1 y2) (laws_markClassS.l0 (k + 1) y0 y1 y2))
 | 0=>fun _ _ _ r h=>by simp [laws_markClassS.l0] at h
 | k + 1=>by
  have ih0:=laws_markClassS.mono_l k
  ·intro y0 y1 y2
   unfold laws_markClassS.l0
   repeat' first
   | (with_reducible exact ih0 _ _ _)
   | (with_reducible exact laws_markText.mono _ _)
   | (with_reducible exact LeO.refl _)
   | (with_reducible exact LeO.none _)
   | (with_reducible refine LeO.ite ?_ ?_)
   | (with_reducible refine LeO.bind ?_ (fun _=>?_))
   | exact ih0 _ _ _
   | exact laws_markText.mono _ _
   | exact LeO.none _
   | refine LeO.ite ?_ ?_
   | refine LeO.bind ?_ (fun _=>?_)
theorem laws_markClassS.mono : ∀ a0 a1 k,LeO (laws_markClassS.f k a0 a1) (laws_markClassS.f (k + 1) a0 a1):=by
 intro a0 a1 k
 have ih0:=laws_markClassS.mono_l k
 unfold laws_markClassS.f
 repeat' first
   | (with_reducible exact ih0 _ _ _)
   | (with_reducible exact laws_markText.mono _ _)
   | (with_reducible exact LeO.refl _)
   | (with_reducible exact LeO.none _)
   | (with_reducible refine LeO.ite ?_ ?_)
   | (with_reducible refine LeO.bind ?_ (fun _=>?_))
   | exact ih0 _ _ _
   | exact laws_markText.mono _ _
   | exact LeO.none _
   | refine LeO.ite ?_ ?_
   | refine LeO.bind ?_ (fun _=>?_)
set_option maxHeartbeats 8000000 in
set_option maxRecDepth 100000 in
theorem laws_markClassS.calls (k : Nat) (P0_ : Nat → Prop) (u9000_ : Value) (l0 : List (S76)) (a1 : Int) (r1 : Int) (r2 : List (S76)) (w0 w : World) (hB : Below w0.heap.size w0 w) (ho0 : Kd.R k76 76 w w0.heap.size P0_ u9000_ l0) (h : laws_markClassS.f k l0 a1 = some (r1,r2)) :
  Calls Try.prog 37 #[u9000_,.int .i64 a1] w fun e w'=>e = .returned (.int .i64 r1) ∧ Kd.R k76 76 w' w0.heap.size (fun k_=>(P0_ k_ ∨ w.heap.size ≤ k_)) u9000_ r2 ∧ Below w0.heap.size w0 w' ∧ Kept w w' (fun k_=>P0_ k_):=by
 have HO0:=a0_ (show Kd.R k76 76 w w0.heap.size (fun k_=>(P0_ k_ ∨ w.heap.size ≤ k_)) u9000_ l0 from Kd.R_mono ho0 (fun k_ hk=>(.inl hk)))
 have HK:=a0_ (Kept.refl w (fun k_=>P0_ k_))
 have HW0:=a0_ hB.size
 have HB:=a0_ hB
 clear hB
 have H : (laws_markClassS.l0 k l0 a1 0) = some (r1,r2):=h
 clear h
 have H':=a0_ H
 clear H
 go_enter Try.func37,Try.ntmps37
 go_wp2
 go_loopg [1,5] k (fun kq v1 v5 w'=>∃ (x0_1 : List (S76)) (x1_1 : Int) (x5_1 : Int),v1 = .int .i64 x1_1 ∧ v5 = .int .i64 x5_1 ∧ Aside0 (laws_markClassS.l0 kq x0_1 x1_1 x5_1 = some (r1,r2)) ∧ Aside0 (kq ≤ k) ∧ Aside0 (Kd.R k76 76 w' w0.heap.size (fun k_=>(P0_ k_ ∨ w.heap.size ≤ k_)) u9000_ x0_1) ∧ Aside0 (Kept w w' (fun k_=>P0_ k_)) ∧ Aside0 (Below w0.heap.size w0 w'))
 case atStart=>exact ⟨(l0),(a1),(0),(by first | rfl | (simp;done) | (simp [*];done)),(by first | rfl | (simp;done) | (simp [*];done)),H',⟨Nat.le_refl _⟩,⟨by (with_reducible repeat (first | apply Kd.R_alloc | apply Kd.R_drewN | apply Kd.R_drew));exact HO0.out⟩,⟨by repeat (first | (with_reducible first | exact HK.out | apply Kept.alloc | apply Kept.drewN | apply Kept.drew) | exact HK.out)⟩,⟨hbw_⟩⟩
 case round =>
  clear H'
  try clear p2
  obtain ⟨x0_1,x1_1,x5_1,rfl,rfl,HA,HK1,HO_0,HK,HB⟩:=hrel
  cases gk with
  | zero=>exact absurd HA.out (by simp [laws_markClassS.l0])
  | succ k1 =>
   have H:=HA.out
   clear HA
   simp only [laws_markClassS.l0] at H
   by_cases c3 : x5_1 < (x0_1.length : Int)
   ·rw [if_pos c3] at H
    have c3b0 : decide (x5_1 < (x0_1.length : Int)) = true:=decide_eq_true c3
    clear c3
    replace H:=Option.bind_eq_some_iff.mp H
    obtain ⟨t1,A40,H⟩:=H
    try dsimp only at H
    have A4:=a0_ A40
    clear A40
    by_cases c5 : 0 ≤ x5_1
    ·rw [if_pos c5] at H
     have c5b0 : decide (0 ≤ x5_1) = true:=decide_eq_true c5
     clear c5
     obtain ⟨y2,hy2⟩ : ∃ y_ : List (S76),y_ = (x0_1.set (x5_1 : Int).toNat (⟨t1,(rd_T76 x0_1 x5_1).f1⟩ : S76)):=⟨_,rfl⟩
     replace H : (laws_markClassS.l0 k1 (y2.set (x5_1 : Int).toNat (⟨(rd_T76 y2 x5_1).f0,wrap64 (x1_1 + 1)⟩ : S76)) (wrap64 ((wrap64 (x1_1 + 1)) + 1)) (wrap64 (x5_1 + 1))) = some (r1,r2):=by first | (rw [hy2];with_reducible exact H) | (have H2_:=(Option.bind_some _ _).symm.trans H;rw [hy2];with_reducible exact H2_) | (have H2_:=(Option.bind_some _ _).symm.trans H;with_reducible exact H2_) | with_reducible exact H | (rw [hy2];exact H) | exact H
     have Ny2:=a0_ hy2
     clear hy2
     obtain ⟨y3,hy3⟩ : ∃ y_ : List (S76),y_ = (y2.set (x5_1 : Int).toNat (⟨(rd_T76 y2 x5_1).f0,wrap64 (x1_1 + 1)⟩ : S76)):=⟨_,rfl⟩
     replace H : (laws_markClassS.l0 k1 y3 (wrap64 ((wrap64 (x1_1 + 1)) + 1)) (wrap64 (x5_1 + 1))) = some (r1,r2):=by first | (rw [hy3];with_reducible exact H) | (have H2_:=(Option.bind_some _ _).symm.trans H;rw [hy3];with_reducible exact H2_) | (have H2_:=(Option.bind_some _ _).symm.trans H;with_reducible exact H2_) | with_reducible exact H | (rw [hy3];exact H) | exact H
     have Ny3:=a0_ hy3
     clear hy3
     have H':=a0_ H
     clear H
     obtain ⟨Ao8,co8,eo8⟩:=Kd.R_slice HO_0.out
     subst eo8
     go_wp2_with (first | ((with_reducible refine gate_callee (f:=54) rfl ?_);refine goesL_ (some 15) rfl rfl Try.func54 (by kernel_rfl) rfl #[.int .i64 x1_1] rfl lm_ ?_;(with_reducible refine (laws_markText.calls k1 x1_1 t1 _ A4.out).mono ?_);rintro e w9 ⟨rfl,hb⟩;refine ⟨_,rfl,?_⟩;replace HO_0:=rb_ HO_0 hb;replace HK:=a0_ (Kept.below (S:=(fun k_=>P0_ k_)) (by repeat (first | (with_reducible first | exact HK.out | apply Kept.alloc | apply Kept.drewN | apply Kept.drew) | exact HK.out)) hb);replace HB:=a0_ (below_step hbw_ hb);(try clear hb);have p6 : 0 ≤ (x5_1 : Int):=of_decide_eq_true (by first | (with_reducible assumption) | assumption);have q6 : (x5_1 : Int) < ((x0_1.length : Int) : Int):=of_decide_eq_true (by first | (with_reducible assumption) | assumption);obtain ⟨go6,co6,eo6,gb6,gl6,cl6,HG6⟩:=Kd.R_form HO_0.out (by omega);(first | cases eo6 | (injection eo6 with ea_ en_ ec_;(first | subst ea_ | (injection ea_ with ea_;subst ea_));subst ec_;clear en_));have GB6:=a0_ gb6;have GG6:=a0_ HG6;clear gb6 gl6 HG6;have HMgo6:=a0_ (show (P0_ go6 ∨ w.heap.size ≤ go6) from (HO_0.out.1 _ rfl));obtain ⟨ce6,hcl6,hM6,hcc6,hfr6⟩:=Kd.R_elem HO_0.out z76 (x5_1 : Int) p6 q6;obtain rfl:=k76_openM hM6;have hx6_0 : w9.cell? ⟨go6,(x5_1 : Int).toNat * 2,none⟩ = some (.string ((rd_T76 x0_1 x5_1).f0)):=hcc6 0 _ rfl;have hx6_1 : w9.cell? ⟨go6,(x5_1 : Int).toNat * 2 + 1,none⟩ = some (.int .i64 ((rd_T76 x0_1 x5_1).f1)):=hcc6 1 _ rfl;have hf6_0 : w9.frozen? ⟨go6,(x5_1 : Int).toNat * 2,none⟩ = false:=hfr6 0;have hf6_1 : w9.frozen? ⟨go6,(x5_1 : Int).toNat * 2 + 1,none⟩ = false:=hfr6 1;clear hcl6 hcc6 hfr6 hM6;replace p6:=eq_true p6;replace q6:=eq_true q6;have HX10:=a0_ (show Kd.R k76 76 w9 w0.heap.size (fun k_=>(P0_ k_ ∨ w.heap.size ≤ k_)) (.slice (some ⟨go6,0,none⟩) x0_1.length co8) x0_1 from (rr_ HO_0.out));obtain ⟨ce10,hcl10,hM10,hcc10,hfr10⟩:=Kd.R_elem HX10.out z76 (x5_1 : Int) (of_decide_eq_true (by first | (with_reducible assumption) | assumption)) (by have h_ : (x5_1 : Int) < ((x0_1.length : Int) : Int):=of_decide_eq_true (by first | (with_reducible assumption) | assumption);first | exact h_ | (have e_:=(Kd.R_reads' HO_0.out).1;omega) | simpa using h_);obtain rfl:=k76_openM hM10;have HP10:=Kd.R_seg HX10.out (x5_1 : Int) (of_decide_eq_true (by first | (with_reducible assumption) | assumption)) (by have h_ : (x5_1 : Int) < ((x0_1.length : Int) : Int):=of_decide_eq_true (by first | (with_reducible assumption) | assumption);first | exact h_ | (have e_:=(Kd.R_reads' HO_0.out).1;omega) | simpa using h_) (seg:=[.string t1]) (j:=0) hcl10 hcc10 (show 1 ≤ 2 from by decide) (x':=(⟨t1,(rd_T76 x0_1 x5_1).f1⟩ : S76)) (k76_mkM _ _ _ (⟨t1,(rd_T76 x0_1 x5_1).f1⟩ : S76) ) (fun _ hk=>hk);have hx10_0:=hcc10 0 _ rfl;(try simp only [show (k76).sz = 2 from rfl,Nat.mul_one,Nat.add_zero] at hx10_0);have hf10_0:=hfr10 0;(try simp only [show (k76).sz = 2 from rfl,Nat.mul_one,Nat.add_zero] at hf10_0);clear hcl10 hcc10 hfr10 hM10) | ((with_reducible refine gate_store (t:=9) (p:=17) rfl ?_);refine store_event (t:=9) (p:=17) (v:=?vo_w11) (w1:=(w9.setCell ⟨go6,(x5_1 : Int).toNat * 2,none⟩ (.string t1))) ?hg ?ho ?hn ?hr ?_;(case ho=>rfl);(case hg=>rfl);(case hn=>rfl);(case hr=>first | (go_simp;done) | (go_simp;rfl));intro w11 hw;have hg : w9.grownBy w11 (some go6):=(by rw [hw];exact HP10.2);have hp_ : Kd.R k76 76 w11 w0.heap.size (fun k_=>(P0_ k_ ∨ w.heap.size ≤ k_)) (.slice (some ⟨go6,0,none⟩) x0_1.length co8) y2:=(by rw [hw,Ny2.out];exact HP10.1);clear HP10;have n0_:=a0_ (hp_);have n1_:=a0_ ((by rw [hw];exact below_set (HB.out) GB6.out : Below w0.heap.size w0 w11));have n2_:=a0_ (Kept.of_grown (S:=(fun k_=>P0_ k_)) hg (by repeat (first | (with_reducible first | exact HK.out | apply Kept.alloc | apply Kept.drewN | apply Kept.drew) | exact HK.out)) (fun k_ e_=>(HO_0.out.1 k_ e_)));clear HO_0 HB HK;have HO_0:=n0_;have HB:=n1_;have HK:=n2_;clear n0_ n1_ n2_;clear hg hw hp_;have p7 : 0 ≤ (x5_1 : Int):=of_decide_eq_true (by first | (with_reducible assumption) | assumption);have q7 : (x5_1 : Int) < ((x0_1.length : Int) : Int):=of_decide_eq_true (by first | (with_reducible assumption) | assumption);obtain ⟨ce7,hcl7,hM7,hcc7,hfr7⟩:=Kd.R_elem HO_0.out z76 (x5_1 : Int) p7 q7;obtain rfl:=k76_openM hM7;have hx7_0 : w11.cell? ⟨go6,(x5_1 : Int).toNat * 2,none⟩ = some (.string ((rd_T76 y2 x5_1).f0)):=hcc7 0 _ rfl;have hx7_1 : w11.cell? ⟨go6,(x5_1 : Int).toNat * 2 + 1,none⟩ = some (.int .i64 ((rd_T76 y2 x5_1).f1)):=hcc7 1 _ rfl;have hf7_0 : w11.frozen? ⟨go6,(x5_1 : Int).toNat * 2,none⟩ = false:=hfr7 0;have hf7_1 : w11.frozen? ⟨go6,(x5_1 : Int).toNat * 2 + 1,none⟩ = false:=hfr7 1;clear hcl7 hcc7 hfr7 hM7;replace p7:=eq_true p7;replace q7:=eq_true q7;have HX12:=a0_ (show Kd.R k76 76 w11 w0.heap.size (fun k_=>(P0_ k_ ∨ w.heap.size ≤ k_)) (.slice (some ⟨go6,0,none⟩) x0_1.length co8) y2 from (rr_ HO_0.out));obtain ⟨ce12,hcl12,hM12,hcc12,hfr12⟩:=Kd.R_elem HX12.out z76 (x5_1 : Int) (of_decide_eq_true (by first | (with_reducible assumption) | assumption)) (by have h_ : (x5_1 : Int) < ((x0_1.length : Int) : Int):=of_decide_eq_true (by first | (with_reducible assumption) | assumption);first | exact h_ | (have e_:=(Kd.R_reads' HO_0.out).1;omega) | simpa using h_);obtain rfl:=k76_openM hM12;have HP12:=Kd.R_seg HX12.out (x5_1 : Int) (of_decide_eq_true (by first | (with_reducible assumption) | assumption)) (by have h_ : (x5_1 : Int) < ((x0_1.length : Int) : Int):=of_decide_eq_true (by first | (with_reducible assumption) | assumption);first | exact h_ | (have e_:=(Kd.R_reads' HO_0.out).1;omega) | simpa using h_) (seg:=[.int .i64 (wrap64 (x1_1 + 1))]) (j:=1) hcl12 hcc12 (show 2 ≤ 2 from by decide) (x':=(⟨(rd_T76 y2 x5_1).f0,wrap64 (x1_1 + 1)⟩ : S76)) (k76_mkM _ _ _ (⟨(rd_T76 y2 x5_1).f0,wrap64 (x1_1 + 1)⟩ : S76) ) (fun _ hk=>hk);have hx12_1:=hcc12 1 _ rfl;(try simp only [show (k76).sz = 2 from rfl,Nat.mul_one,Nat.add_zero] at hx12_1);have hf12_1:=hfr12 1;(try simp only [show (k76).sz = 2 from rfl,Nat.mul_one,Nat.add_zero] at hf12_1);clear hcl12 hcc12 hfr12 hM12) | ((with_reducible refine gate_store (t:=3) (p:=24) rfl ?_);refine store_event (t:=3) (p:=24) (v:=?vo_w13) (w1:=(w11.setCell ⟨go6,(x5_1 : Int).toNat * 2 + 1,none⟩ (.int .i64 (wrap64 (x1_1 + 1))))) ?hg ?ho ?hn ?hr ?_;(case ho=>rfl);(case hg=>rfl);(case hn=>rfl);(case hr=>first | (go_simp;done) | (go_simp;rfl));intro w13 hw;have hg : w11.grownBy w13 (some go6):=(by rw [hw];exact HP12.2);have hp_ : Kd.R k76 76 w13 w0.heap.size (fun k_=>(P0_ k_ ∨ w.heap.size ≤ k_)) (.slice (some ⟨go6,0,none⟩) x0_1.length co8) y3:=(by rw [hw,Ny3.out];exact HP12.1);clear HP12;have n0_:=a0_ (hp_);have n1_:=a0_ ((by rw [hw];exact below_set (HB.out) GB6.out : Below w0.heap.size w0 w13));have n2_:=a0_ (Kept.of_grown (S:=(fun k_=>P0_ k_)) hg (by repeat (first | (with_reducible first | exact HK.out | apply Kept.alloc | apply Kept.drewN | apply Kept.drew) | exact HK.out)) (fun k_ e_=>(HO_0.out.1 k_ e_)));clear HO_0 HB HK;have HO_0:=n0_;have HB:=n1_;have HK:=n2_;clear n0_ n1_ n2_;clear hg hw hp_))
     go_roundg k1
     case measure=>have:=HK1.out;omega
     case rel=>exact ⟨(y3),(wrap64 ((wrap64 (x1_1 + 1)) + 1)),(wrap64 (x5_1 + 1)),(by first | rfl | (simp;done) | (simp [*];done)),(by first | rfl | (simp;done) | (simp [*];done)),H',⟨by have:=HK1.out;omega⟩,⟨by (with_reducible repeat (first | apply Kd.R_alloc | apply Kd.R_drewN | apply Kd.R_drew));exact HO_0.out⟩,⟨by repeat (first | (with_reducible first | exact HK.out | apply Kept.alloc | apply Kept.drewN | apply Kept.drew) | exact HK.out)⟩,⟨hbw_⟩⟩
    ·rw [if_neg c5] at H
     exact absurd H (by simp)
   ·rw [if_neg c3] at H
    have c3b0 : decide (x5_1 < (x0_1.length : Int)) = false:=decide_eq_false c3
    clear c3
    simp only [Option.some.injEq,Prod.mk.injEq] at H
    obtain ⟨rfl,rfl⟩:=H
    obtain ⟨Ao14,co14,eo14⟩:=Kd.R_slice HO_0.out
    subst eo14
    go_wp2
    go_ret
    exact ⟨by first | rfl | (simp [errW_none,errW_some] <;> rfl) | (simp [*,errW_none,errW_some] <;> rfl),by (with_reducible repeat (first | apply Kd.R_alloc | apply Kd.R_drewN | apply Kd.R_drew));exact HO_0.out,hbw_,by repeat (first | (with_reducible first | exact HK.out | apply Kept.alloc | apply Kept.drewN | apply Kept.drew) | exact HK.out)⟩
theorem laws_markClassS_ev (l : List Cls) (a : Int) (h0 : 0 ≤ a) (hl : a + 2 * l.length ≤ 4611686018427387904) : ∃ l',Ev (fun k=>laws_markClassS.f k l a) (a + 2 * l.length,l'):=by
 have key : ∀ d i (a : Int) (l : List Cls),0 ≤ a → i + d = l.length → l.length ≤ 4611686018427387904 → a + 2 * d ≤ 4611686018427387904 → ∃ l',Ev (fun k=>laws_markClassS.l0 k l a (i : Int)) (a + 2 * d,l'):=by
  intro d
  induction d with
  | zero =>
   intro i a l h0 hi hll ha
   refine ⟨l,Ev.succ (Ev.congr (Ev.const rfl) (fun k=>?_))⟩
   simp only [laws_markClassS.l0]
   rw [if_neg (by omega)]
   simp
  | succ d ih =>
   intro i a l h0 hi hll ha
   obtain ⟨s,hs⟩:=laws_markText_ev a (by omega)
   obtain ⟨l',hl'⟩:=ih (i + 1) (a + 1 + 1) ((l.set i ⟨s,(rd_T76 l i).f1⟩).set i ⟨(rd_T76 (l.set i ⟨s,(rd_T76 l i).f1⟩) i).f0,a + 1⟩) (by omega) (by simp;omega) (by simp;omega) (by omega)
   refine ⟨l',Ev.succ (Ev.congr (F:=fun k=>(laws_markText.f k a).bind fun s=>laws_markClassS.l0 k ((l.set i ⟨s,(rd_T76 l i).f1⟩).set i ⟨(rd_T76 (l.set i ⟨s,(rd_T76 l i).f1⟩) i).f0,a + 1⟩) (a + 1 + 1) ((i + 1 : Nat) : Int)) ?_ (fun k=>?_))⟩
   ·rw [show a + 2 * ((d + 1 : Nat) : Int) = a + 1 + 1 + 2 * d by omega]
    exact Ev.bind hs hl'
   ·simp only [laws_markClassS.l0]
    rw [if_pos (by omega)]
    congr 1
    funext s
    rw [if_pos (by omega),wrap_in (i:=a + 1) (by omega) (by omega),wrap_in (i:=a + 1 + 1) (by omega) (by omega),wrap_succ (i:=(i : Int)) (n:=l.length) (by omega) (by omega) (by omega)]
    rfl
 obtain ⟨l',h⟩:=key l.length 0 a l h0 (by omega) (by omega) hl
 exact ⟨l',h⟩
end Go.Proofs.Ytjcodcimodnbjaa.P
namespace Go.Proofs.Ytjcodcimodnbjaa.P
open Go.RowKit Go.Proofs.YtjcodcimodnbjaaW.PrintWords Go.Proofs.YtjcodcimodnbjaaW.PrintLast Go.Proofs.YtjcodcimodnbjaaW.PrintMore
attribute [local go_sem] max2_int min2_int max_two min_two max_three min_three max_four min_four
set_option linter.unusedVariables false
set_option linter.unusedSimpArgs false
def laws_markTree.f (k : Nat) (l0_0 : List (S76)) (a1 : Int) : Option (Int × (List (S76))):=(laws_markClassS.f k l0_0 a1).bind fun bt2=>(some (bt2.1,bt2.2))
theorem laws_markTree.mono : ∀ a0 a1 k,LeO (laws_markTree.f k a0 a1) (laws_markTree.f (k + 1) a0 a1):=by
 intro a0 a1 k
 unfold laws_markTree.f
 repeat' first
   | (with_reducible exact laws_markClassS.mono _ _ _)
   | (with_reducible exact LeO.refl _)
   | (with_reducible exact LeO.none _)
   | (with_reducible refine LeO.ite ?_ ?_)
   | (with_reducible refine LeO.bind ?_ (fun _=>?_))
   | exact laws_markClassS.mono _ _ _
   | exact LeO.none _
   | refine LeO.ite ?_ ?_
   | refine LeO.bind ?_ (fun _=>?_)
set_option maxHeartbeats 8000000 in
set_option maxRecDepth 100000 in
theorem laws_markTree.calls (k : Nat) (P0_0_ : Nat → Prop) (u9000_ : Value) (l0_0 : List (S76)) (a1 : Int) (r1 : Int) (r2 : List (S76)) (w0 w : World) (hB : Below w0.heap.size w0 w) (ho0_0 : Kd.R k76 76 w w0.heap.size P0_0_ u9000_ l0_0) (h : laws_markTree.f k l0_0 a1 = some (r1,r2)) :
  Calls Try.prog 16 #[.agg #[u9000_],.int .i64 a1] w fun e w'=>e = .returned (.int .i64 r1) ∧ Kd.R k76 76 w' w0.heap.size (fun k_=>(P0_0_ k_ ∨ w.heap.size ≤ k_)) u9000_ r2 ∧ Below w0.heap.size w0 w' ∧ Kept w w' (fun k_=>P0_0_ k_):=by
 have hu35:=Try.underlying35
 have HO0_0:=a0_ (show Kd.R k76 76 w w0.heap.size (fun k_=>(P0_0_ k_ ∨ w.heap.size ≤ k_)) u9000_ l0_0 from Kd.R_mono ho0_0 (fun k_ hk=>(.inl hk)))
 have HK:=a0_ (Kept.refl w (fun k_=>P0_0_ k_))
 have HW0:=a0_ hB.size
 have HB:=a0_ hB
 clear hB
 have H : ((laws_markClassS.f k l0_0 a1).bind fun bt2=>(some (bt2.1,bt2.2))) = some (r1,r2):=h
 clear h
 replace H:=Option.bind_eq_some_iff.mp H
 obtain ⟨⟨t2,t3⟩,A30,H⟩:=H
 replace H : (some (t2,t3)) = some (r1,r2):=H
 have A3:=a0_ A30
 clear A30
 simp only [Option.some.injEq,Prod.mk.injEq] at H
 obtain ⟨rfl,rfl⟩:=H
 obtain ⟨Ao4,co4,eo4⟩:=Kd.R_slice HO0_0.out
 subst eo4
 go_enter Try.func16,Try.ntmps16
 go_wp2_with (first | ((with_reducible refine gate_dst (N:=2) rfl ?_);refine box_event ?hg (N:=2) ?hd (cs:=#[.slice Ao4 l0_0.length co4]) (t:=35) ?hr ?_;(case hd=>rfl);(case hg=>rfl);(case hr=>first | (go_simp;done) | (go_simp;rfl));intro gb1 hg w5 hbox hb;have n0_:=rb_ HO0_0 hb;have n1_:=a0_ (Kept.below (S:=(fun k_=>P0_0_ k_)) (by repeat (first | (with_reducible first | exact HK.out | apply Kept.alloc | apply Kept.drewN | apply Kept.drew) | exact HK.out)) hb);have n2_:=a0_ (below_step hbw_ hb);have n3_:=a0_ (hbox);have n4_:=a0_ ((by rw [hg];exact (by first | exact HK.out.1 | exact (show Kept w _ (fun k_=>P0_0_ k_) from by repeat (first | (with_reducible first | exact HK.out | apply Kept.alloc | apply Kept.drewN | apply Kept.drew) | exact HK.out)).1) : w.heap.size ≤ gb1));have n5_:=a0_ ((by rw [hg];exact (below_size hbw_) : w0.heap.size ≤ gb1));clear HO0_0 HK HB;have HO0_0:=n0_;have HK:=n1_;have HB:=n2_;have BK1:=n3_;have GW1:=n4_;have GE1:=n5_;clear n0_ n1_ n2_ n3_ n4_ n5_;clear hb hbox hg;have hcz6_0 : w5.cell? ⟨gb1,0,none⟩ = some (.slice Ao4 l0_0.length co4):=(blk_cell BK1.out 0).trans rfl;have hfz6_0:=blk_frozen BK1.out 0) | ((with_reducible refine gate_callee (f:=37) rfl ?_);refine goesL_ (some 8) rfl rfl Try.func37 (by kernel_rfl) rfl #[.slice Ao4 l0_0.length co4,.int .i64 a1] rfl lm_ ?_;(with_reducible refine (laws_markClassS.calls k (fun k_=>some k_ = (.slice Ao4 l0_0.length co4 : Value).ownBlock) (.slice Ao4 l0_0.length co4) l0_0 a1 t2 t3 w0 _ ?side1 ?side2 A3.out).mono ?_);(case side1=>exact hbw_);(case side2=>exact Kd.R_tight rfl HO0_0.out);rintro e w7 ⟨rfl,hy0,hb,hkp⟩;refine ⟨_,rfl,?_⟩;have n0_:=a0_ (Kd.R_reok rfl hy0 (fun k_ e_=>HO0_0.out.1 k_ e_));have n1_:=a0_ (blk_kept (bb_ BK1.out) hkp (fun hs_=>(fun e_=>(Kd.R_ne HO0_0.out BK1.out (by decide)) e_) hs_));have n2_:=a0_ (Kept.then_ (S:=(fun k_=>P0_0_ k_)) (by repeat (first | (with_reducible first | exact HK.out | apply Kept.alloc | apply Kept.drewN | apply Kept.drew | refine Kept.setCell ?_ (.inr GW1.out) _) | exact HK.out)) hkp (fun k_ hs_=>(fun e_=>(HO0_0.out.1 k_ e_.symm)) hs_));have n3_:=a0_ (hb);clear HO0_0 BK1;clear HK HB;have HO0_0:=n0_;have BK1:=n1_;have HK:=n2_;have HB:=n3_;clear n0_ n1_ n2_ n3_;(try clear hb);(try clear hkp);(try clear hy0)))
 go_ret
 exact ⟨by first | rfl | (simp [errW_none,errW_some] <;> rfl) | (simp [*,errW_none,errW_some] <;> rfl),by (with_reducible repeat (first | apply Kd.R_alloc | apply Kd.R_drewN | apply Kd.R_drew));exact HO0_0.out,hbw_,by repeat (first | (with_reducible first | exact HK.out | apply Kept.alloc | apply Kept.drewN | apply Kept.drew | refine Kept.setCell ?_ (.inr GW1.out) _) | exact HK.out)⟩
theorem laws_markTree_ev (l : List Cls) (a : Int) (h0 : 0 ≤ a) (hl : a + 2 * l.length ≤ 4611686018427387904) : ∃ l',Ev (fun k=>laws_markTree.f k l a) (a + 2 * l.length,l'):=by
 obtain ⟨l',h⟩:=laws_markClassS_ev l a h0 hl
 exact ⟨l',Ev.bind h (Ev.const rfl)⟩
end Go.Proofs.Ytjcodcimodnbjaa.P
namespace Go.Proofs.Ytjcodcimodnbjaa.P
open Go.RowKit Go.Proofs.YtjcodcimodnbjaaW.PrintWords Go.Proofs.YtjcodcimodnbjaaW.PrintLast Go.Proofs.YtjcodcimodnbjaaW.PrintMore
attribute [local go_sem] max2_int min2_int max_two min_two max_three min_three max_four min_four
set_option linter.unusedVariables false
set_option linter.unusedSimpArgs false
theorem mark_at {β : Type} (f : Nat → β) (l : List β) (i : Nat) (hi : i < l.length) : ((List.range i).map f ++ l.drop i).set i (f i) = (List.range (i + 1)).map f ++ l.drop (i + 1):=by
 rw [List.range_succ,List.map_append,List.set_append_right _ _ (by simp),List.append_assoc]
 simp only [List.length_map,List.length_range,Nat.sub_self]
 rw [List.drop_eq_getElem_cons hi,s2_]
 rfl
end Go.Proofs.Ytjcodcimodnbjaa.P
namespace Go.Proofs.Ytjcodcimodnbjaa.P
open Go.RowKit Go.Proofs.YtjcodcimodnbjaaW.PrintWords Go.Proofs.YtjcodcimodnbjaaW.PrintLast Go.Proofs.YtjcodcimodnbjaaW.PrintMore
attribute [local go_sem] max2_int min2_int max_two min_two max_three min_three max_four min_four
set_option linter.unusedVariables false
set_option linter.unusedSimpArgs false
def mkExit (a : Int) : S38:=⟨a,a + 1,a + 1 + 1⟩
def marksExit (a : Int) (n : Nat) : List S38:=(List.range n).map (fun i : Nat=>mkExit (a + 3 * (i : Int)))
theorem marksExit_len (a : Int) (n : Nat) : (marksExit a n).length = n:=by simp [marksExit]
end Go.Proofs.Ytjcodcimodnbjaa.P
namespace Go.Proofs.Ytjcodcimodnbjaa.P
open Go.RowKit Go.Proofs.YtjcodcimodnbjaaW.PrintWords Go.Proofs.YtjcodcimodnbjaaW.PrintLast Go.Proofs.YtjcodcimodnbjaaW.PrintMore
attribute [local go_sem] max2_int min2_int max_two min_two max_three min_three max_four min_four
set_option linter.unusedVariables false
set_option linter.unusedSimpArgs false
def laws_markExitS.l0 : Nat → List (S38) → Int → Int → Option (Int × (List (S38)))
 | 0,_,_,_=>none
 | k + 1,x0,x1,x5=>if x5 < (x0.length : Int) then (if 0 ≤ x5 then ((some (x0.set (x5 : Int).toNat (⟨x1,(rd_T38 x0 x5).f1,(rd_T38 x0 x5).f2⟩ : S38) : List (S38))).bind fun y1=>((some (y1.set (x5 : Int).toNat (⟨(rd_T38 y1 x5).f0,wrap64 (x1 + 1),(rd_T38 y1 x5).f2⟩ : S38) : List (S38))).bind fun y2=>(laws_markExitS.l0 k (y2.set (x5 : Int).toNat (⟨(rd_T38 y2 x5).f0,(rd_T38 y2 x5).f1,wrap64 ((wrap64 (x1 + 1)) + 1)⟩ : S38)) (wrap64 ((wrap64 ((wrap64 (x1 + 1)) + 1)) + 1)) (wrap64 (x5 + 1))))) else (none)) else (some (x1,x0))
def laws_markExitS.f (k : Nat) (l0 : List (S38)) (a1 : Int) : Option (Int × (List (S38))):=laws_markExitS.l0 k l0 a1 0
theorem laws_markExitS.mono_l : ∀ k,(∀ y0 y1 y2,LeO (laws_markExitS.l0 k y0 y1 y2) (laws_markExitS.l0 (k + 1) y0 y1 y2))
 | 0=>fun _ _ _ r h=>by simp [laws_markExitS.l0] at h
 | k + 1=>by
  have ih0:=laws_markExitS.mono_l k
  ·intro y0 y1 y2
   unfold laws_markExitS.l0
   repeat' first
   | (with_reducible exact ih0 _ _ _)
   | (with_reducible exact LeO.refl _)
   | (with_reducible exact LeO.none _)
   | (with_reducible refine LeO.ite ?_ ?_)
   | (with_reducible refine LeO.bind ?_ (fun _=>?_))
   | exact ih0 _ _ _
   | exact LeO.none _
   | refine LeO.ite ?_ ?_
   | refine LeO.bind ?_ (fun _=>?_)
theorem laws_markExitS.mono : ∀ a0 a1 k,LeO (laws_markExitS.f k a0 a1) (laws_markExitS.f (k + 1) a0 a1):=by
 intro a0 a1 k
 have ih0:=laws_markExitS.mono_l k
 unfold laws_markExitS.f
 repeat' first
   | (with_reducible exact ih0 _ _ _)
   | (with_reducible exact LeO.refl _)
   | (with_reducible exact LeO.none _)
   | (with_reducible refine LeO.ite ?_ ?_)
   | (with_reducible refine LeO.bind ?_ (fun _=>?_))
   | exact ih0 _ _ _
   | exact LeO.none _
   | refine LeO.ite ?_ ?_
   | refine LeO.bind ?_ (fun _=>?_)
set_option maxHeartbeats 8000000 in
set_option maxRecDepth 100000 in
theorem laws_markExitS.calls (k : Nat) (P0_ : Nat → Prop) (u9000_ : Value) (l0 : List (S38)) (a1 : Int) (r1 : Int) (r2 : List (S38)) (w0 w : World) (hB : Below w0.heap.size w0 w) (ho0 : Kd.R k38 38 w w0.heap.size P0_ u9000_ l0) (h : laws_markExitS.f k l0 a1 = some (r1,r2)) :
  Calls Try.prog 17 #[u9000_,.int .i64 a1] w fun e w'=>e = .returned (.int .i64 r1) ∧ Kd.R k38 38 w' w0.heap.size (fun k_=>(P0_ k_ ∨ w.heap.size ≤ k_)) u9000_ r2 ∧ Below w0.heap.size w0 w' ∧ Kept w w' (fun k_=>P0_ k_):=by
 have HO0:=a0_ (show Kd.R k38 38 w w0.heap.size (fun k_=>(P0_ k_ ∨ w.heap.size ≤ k_)) u9000_ l0 from Kd.R_mono ho0 (fun k_ hk=>(.inl hk)))
 have HK:=a0_ (Kept.refl w (fun k_=>P0_ k_))
 have HW0:=a0_ hB.size
 have HB:=a0_ hB
 clear hB
 have H : (laws_markExitS.l0 k l0 a1 0) = some (r1,r2):=h
 clear h
 have H':=a0_ H
 clear H
 go_enter Try.func17,Try.ntmps17
 go_wp2
 go_loopg [1,5] k (fun kq v1 v5 w'=>∃ (x0_1 : List (S38)) (x1_1 : Int) (x5_1 : Int),v1 = .int .i64 x1_1 ∧ v5 = .int .i64 x5_1 ∧ Aside0 (laws_markExitS.l0 kq x0_1 x1_1 x5_1 = some (r1,r2)) ∧ Aside0 (kq ≤ k) ∧ Aside0 (Kd.R k38 38 w' w0.heap.size (fun k_=>(P0_ k_ ∨ w.heap.size ≤ k_)) u9000_ x0_1) ∧ Aside0 (Kept w w' (fun k_=>P0_ k_)) ∧ Aside0 (Below w0.heap.size w0 w'))
 case atStart=>exact ⟨(l0),(a1),(0),(by first | rfl | (simp;done) | (simp [*];done)),(by first | rfl | (simp;done) | (simp [*];done)),H',⟨Nat.le_refl _⟩,⟨by (with_reducible repeat (first | apply Kd.R_alloc | apply Kd.R_drewN | apply Kd.R_drew));exact HO0.out⟩,⟨by repeat (first | (with_reducible first | exact HK.out | apply Kept.alloc | apply Kept.drewN | apply Kept.drew) | exact HK.out)⟩,⟨hbw_⟩⟩
 case round =>
  clear H'
  try clear c1
  try clear p2
  obtain ⟨x0_1,x1_1,x5_1,rfl,rfl,HA,HK1,HO_0,HK,HB⟩:=hrel
  cases gk with
  | zero=>exact absurd HA.out (by simp [laws_markExitS.l0])
  | succ k1 =>
   have H:=HA.out
   clear HA
   simp only [laws_markExitS.l0] at H
   by_cases c3 : x5_1 < (x0_1.length : Int)
   ·rw [if_pos c3] at H
    have c3b0 : decide (x5_1 < (x0_1.length : Int)) = true:=decide_eq_true c3
    clear c3
    by_cases c4 : 0 ≤ x5_1
    ·rw [if_pos c4] at H
     have c4b0 : decide (0 ≤ x5_1) = true:=decide_eq_true c4
     clear c4
     obtain ⟨y1,hy1⟩ : ∃ y_ : List (S38),y_ = (x0_1.set (x5_1 : Int).toNat (⟨x1_1,(rd_T38 x0_1 x5_1).f1,(rd_T38 x0_1 x5_1).f2⟩ : S38)):=⟨_,rfl⟩
     replace H : ((some (y1.set (x5_1 : Int).toNat (⟨(rd_T38 y1 x5_1).f0,wrap64 (x1_1 + 1),(rd_T38 y1 x5_1).f2⟩ : S38) : List (S38))).bind fun y2=>(laws_markExitS.l0 k1 (y2.set (x5_1 : Int).toNat (⟨(rd_T38 y2 x5_1).f0,(rd_T38 y2 x5_1).f1,wrap64 ((wrap64 (x1_1 + 1)) + 1)⟩ : S38)) (wrap64 ((wrap64 ((wrap64 (x1_1 + 1)) + 1)) + 1)) (wrap64 (x5_1 + 1)))) = some (r1,r2):=by first | (rw [hy1];with_reducible exact H) | (have H2_:=(Option.bind_some _ _).symm.trans H;rw [hy1];with_reducible exact H2_) | (have H2_:=(Option.bind_some _ _).symm.trans H;with_reducible exact H2_) | with_reducible exact H | (rw [hy1];exact H) | exact H
     have Ny1:=a0_ hy1
     clear hy1
     obtain ⟨y2,hy2⟩ : ∃ y_ : List (S38),y_ = (y1.set (x5_1 : Int).toNat (⟨(rd_T38 y1 x5_1).f0,wrap64 (x1_1 + 1),(rd_T38 y1 x5_1).f2⟩ : S38)):=⟨_,rfl⟩
     replace H : (laws_markExitS.l0 k1 (y2.set (x5_1 : Int).toNat (⟨(rd_T38 y2 x5_1).f0,(rd_T38 y2 x5_1).f1,wrap64 ((wrap64 (x1_1 + 1)) + 1)⟩ : S38)) (wrap64 ((wrap64 ((wrap64 (x1_1 + 1)) + 1)) + 1)) (wrap64 (x5_1 + 1))) = some (r1,r2):=by first | (rw [hy2];with_reducible exact H) | (have H2_:=(Option.bind_some _ _).symm.trans H;rw [hy2];with_reducible exact H2_) | (have H2_:=(Option.bind_some _ _).symm.trans H;with_reducible exact H2_) | with_reducible exact H | (rw [hy2];exact H) | exact H
     have Ny2:=a0_ hy2
     clear hy2
     obtain ⟨y3,hy3⟩ : ∃ y_ : List (S38),y_ = (y2.set (x5_1 : Int).toNat (⟨(rd_T38 y2 x5_1).f0,(rd_T38 y2 x5_1).f1,wrap64 ((wrap64 (x1_1 + 1)) + 1)⟩ : S38)):=⟨_,rfl⟩
     replace H : (laws_markExitS.l0 k1 y3 (wrap64 ((wrap64 ((wrap64 (x1_1 + 1)) + 1)) + 1)) (wrap64 (x5_1 + 1))) = some (r1,r2):=by first | (rw [hy3];with_reducible exact H) | (have H2_:=(Option.bind_some _ _).symm.trans H;rw [hy3];with_reducible exact H2_) | (have H2_:=(Option.bind_some _ _).symm.trans H;with_reducible exact H2_) | with_reducible exact H | (rw [hy3];exact H) | exact H
     have Ny3:=a0_ hy3
     clear hy3
     have H':=a0_ H
     clear H
     obtain ⟨Ao8,co8,eo8⟩:=Kd.R_slice HO_0.out
     subst eo8
     have p5 : 0 ≤ (x5_1 : Int):=of_decide_eq_true (by first | (with_reducible assumption) | assumption)
     have q5 : (x5_1 : Int) < ((x0_1.length : Int) : Int):=of_decide_eq_true (by first | (with_reducible assumption) | assumption)
     obtain ⟨go5,co5,eo5,gb5,gl5,cl5,HG5⟩:=Kd.R_form HO_0.out (by omega)
     (first | cases eo5 | (injection eo5 with ea_ en_ ec_;(first | subst ea_ | (injection ea_ with ea_;subst ea_));subst ec_;clear en_))
     have GB5:=a0_ gb5
     have GG5:=a0_ HG5
     clear gb5 gl5 HG5
     have HMgo5:=a0_ (show (P0_ go5 ∨ w.heap.size ≤ go5) from (HO_0.out.1 _ rfl))
     obtain ⟨ce5,hcl5,hM5,hcc5,hfr5⟩:=Kd.R_elem HO_0.out z38 (x5_1 : Int) p5 q5
     obtain rfl:=k38_openM hM5
     have hx5_0 : wr.cell? ⟨go5,(x5_1 : Int).toNat * 3,none⟩ = some (.int .i64 ((rd_T38 x0_1 x5_1).f0)):=hcc5 0 _ rfl
     have hx5_1 : wr.cell? ⟨go5,(x5_1 : Int).toNat * 3 + 1,none⟩ = some (.int .i64 ((rd_T38 x0_1 x5_1).f1)):=hcc5 1 _ rfl
     have hx5_2 : wr.cell? ⟨go5,(x5_1 : Int).toNat * 3 + 2,none⟩ = some (.int .i64 ((rd_T38 x0_1 x5_1).f2)):=hcc5 2 _ rfl
     have hf5_0 : wr.frozen? ⟨go5,(x5_1 : Int).toNat * 3,none⟩ = false:=hfr5 0
     have hf5_1 : wr.frozen? ⟨go5,(x5_1 : Int).toNat * 3 + 1,none⟩ = false:=hfr5 1
     have hf5_2 : wr.frozen? ⟨go5,(x5_1 : Int).toNat * 3 + 2,none⟩ = false:=hfr5 2
     clear hcl5 hcc5 hfr5 hM5
     replace p5:=eq_true p5
     replace q5:=eq_true q5
     have HX9:=a0_ (show Kd.R k38 38 wr w0.heap.size (fun k_=>(P0_ k_ ∨ w.heap.size ≤ k_)) (.slice (some ⟨go5,0,none⟩) x0_1.length co8) x0_1 from (rr_ HO_0.out))
     obtain ⟨ce9,hcl9,hM9,hcc9,hfr9⟩:=Kd.R_elem HX9.out z38 (x5_1 : Int) (of_decide_eq_true (by first | (with_reducible assumption) | assumption)) (by have h_ : (x5_1 : Int) < ((x0_1.length : Int) : Int):=of_decide_eq_true (by first | (with_reducible assumption) | assumption);first | exact h_ | (have e_:=(Kd.R_reads' HO_0.out).1;omega) | simpa using h_)
     obtain rfl:=k38_openM hM9
     have HP9:=Kd.R_seg HX9.out (x5_1 : Int) (of_decide_eq_true (by first | (with_reducible assumption) | assumption)) (by have h_ : (x5_1 : Int) < ((x0_1.length : Int) : Int):=of_decide_eq_true (by first | (with_reducible assumption) | assumption);first | exact h_ | (have e_:=(Kd.R_reads' HO_0.out).1;omega) | simpa using h_) (seg:=[.int .i64 x1_1]) (j:=0) hcl9 hcc9 (show 1 ≤ 3 from by decide) (x':=(⟨x1_1,(rd_T38 x0_1 x5_1).f1,(rd_T38 x0_1 x5_1).f2⟩ : S38)) (k38_mkM _ _ _ (⟨x1_1,(rd_T38 x0_1 x5_1).f1,(rd_T38 x0_1 x5_1).f2⟩ : S38) ) (fun _ hk=>hk)
     have hx9_0:=hcc9 0 _ rfl
     (try simp only [show (k38).sz = 3 from rfl,Nat.mul_one,Nat.add_zero] at hx9_0)
     have hf9_0:=hfr9 0
     (try simp only [show (k38).sz = 3 from rfl,Nat.mul_one,Nat.add_zero] at hf9_0)
     clear hcl9 hcc9 hfr9 hM9
     go_wp2_with (first | ((with_reducible refine gate_store (t:=3) (p:=16) rfl ?_);refine store_event (t:=3) (p:=16) (v:=?vo_w10) (w1:=(wr.setCell ⟨go5,(x5_1 : Int).toNat * 3,none⟩ (.int .i64 x1_1))) ?hg ?ho ?hn ?hr ?_;(case ho=>rfl);(case hg=>rfl);(case hn=>rfl);(case hr=>first | (go_simp;done) | (go_simp;rfl));intro w10 hw;have hg : wr.grownBy w10 (some go5):=(by rw [hw];exact HP9.2);have hp_ : Kd.R k38 38 w10 w0.heap.size (fun k_=>(P0_ k_ ∨ w.heap.size ≤ k_)) (.slice (some ⟨go5,0,none⟩) x0_1.length co8) y1:=(by rw [hw,Ny1.out];exact HP9.1);clear HP9;have n0_:=a0_ (hp_);have n1_:=a0_ ((by rw [hw];exact below_set (HB.out) GB5.out : Below w0.heap.size w0 w10));have n2_:=a0_ (Kept.of_grown (S:=(fun k_=>P0_ k_)) hg (by repeat (first | (with_reducible first | exact HK.out | apply Kept.alloc | apply Kept.drewN | apply Kept.drew) | exact HK.out)) (fun k_ e_=>(HO_0.out.1 k_ e_)));clear HO_0 HB HK;have HO_0:=n0_;have HB:=n1_;have HK:=n2_;clear n0_ n1_ n2_;clear hg hw hp_;have p6 : 0 ≤ (x5_1 : Int):=of_decide_eq_true (by first | (with_reducible assumption) | assumption);have q6 : (x5_1 : Int) < ((x0_1.length : Int) : Int):=of_decide_eq_true (by first | (with_reducible assumption) | assumption);obtain ⟨ce6,hcl6,hM6,hcc6,hfr6⟩:=Kd.R_elem HO_0.out z38 (x5_1 : Int) p6 q6;obtain rfl:=k38_openM hM6;have hx6_0 : w10.cell? ⟨go5,(x5_1 : Int).toNat * 3,none⟩ = some (.int .i64 ((rd_T38 y1 x5_1).f0)):=hcc6 0 _ rfl;have hx6_1 : w10.cell? ⟨go5,(x5_1 : Int).toNat * 3 + 1,none⟩ = some (.int .i64 ((rd_T38 y1 x5_1).f1)):=hcc6 1 _ rfl;have hx6_2 : w10.cell? ⟨go5,(x5_1 : Int).toNat * 3 + 2,none⟩ = some (.int .i64 ((rd_T38 y1 x5_1).f2)):=hcc6 2 _ rfl;have hf6_0 : w10.frozen? ⟨go5,(x5_1 : Int).toNat * 3,none⟩ = false:=hfr6 0;have hf6_1 : w10.frozen? ⟨go5,(x5_1 : Int).toNat * 3 + 1,none⟩ = false:=hfr6 1;have hf6_2 : w10.frozen? ⟨go5,(x5_1 : Int).toNat * 3 + 2,none⟩ = false:=hfr6 2;clear hcl6 hcc6 hfr6 hM6;replace p6:=eq_true p6;replace q6:=eq_true q6;have HX11:=a0_ (show Kd.R k38 38 w10 w0.heap.size (fun k_=>(P0_ k_ ∨ w.heap.size ≤ k_)) (.slice (some ⟨go5,0,none⟩) x0_1.length co8) y1 from (rr_ HO_0.out));obtain ⟨ce11,hcl11,hM11,hcc11,hfr11⟩:=Kd.R_elem HX11.out z38 (x5_1 : Int) (of_decide_eq_true (by first | (with_reducible assumption) | assumption)) (by have h_ : (x5_1 : Int) < ((x0_1.length : Int) : Int):=of_decide_eq_true (by first | (with_reducible assumption) | assumption);first | exact h_ | (have e_:=(Kd.R_reads' HO_0.out).1;omega) | simpa using h_);obtain rfl:=k38_openM hM11;have HP11:=Kd.R_seg HX11.out (x5_1 : Int) (of_decide_eq_true (by first | (with_reducible assumption) | assumption)) (by have h_ : (x5_1 : Int) < ((x0_1.length : Int) : Int):=of_decide_eq_true (by first | (with_reducible assumption) | assumption);first | exact h_ | (have e_:=(Kd.R_reads' HO_0.out).1;omega) | simpa using h_) (seg:=[.int .i64 (wrap64 (x1_1 + 1))]) (j:=1) hcl11 hcc11 (show 2 ≤ 3 from by decide) (x':=(⟨(rd_T38 y1 x5_1).f0,wrap64 (x1_1 + 1),(rd_T38 y1 x5_1).f2⟩ : S38)) (k38_mkM _ _ _ (⟨(rd_T38 y1 x5_1).f0,wrap64 (x1_1 + 1),(rd_T38 y1 x5_1).f2⟩ : S38) ) (fun _ hk=>hk);have hx11_1:=hcc11 1 _ rfl;(try simp only [show (k38).sz = 3 from rfl,Nat.mul_one,Nat.add_zero] at hx11_1);have hf11_1:=hfr11 1;(try simp only [show (k38).sz = 3 from rfl,Nat.mul_one,Nat.add_zero] at hf11_1);clear hcl11 hcc11 hfr11 hM11) | ((with_reducible refine gate_store (t:=3) (p:=23) rfl ?_);refine store_event (t:=3) (p:=23) (v:=?vo_w12) (w1:=(w10.setCell ⟨go5,(x5_1 : Int).toNat * 3 + 1,none⟩ (.int .i64 (wrap64 (x1_1 + 1))))) ?hg ?ho ?hn ?hr ?_;(case ho=>rfl);(case hg=>rfl);(case hn=>rfl);(case hr=>first | (go_simp;done) | (go_simp;rfl));intro w12 hw;have hg : w10.grownBy w12 (some go5):=(by rw [hw];exact HP11.2);have hp_ : Kd.R k38 38 w12 w0.heap.size (fun k_=>(P0_ k_ ∨ w.heap.size ≤ k_)) (.slice (some ⟨go5,0,none⟩) x0_1.length co8) y2:=(by rw [hw,Ny2.out];exact HP11.1);clear HP11;have n0_:=a0_ (hp_);have n1_:=a0_ ((by rw [hw];exact below_set (HB.out) GB5.out : Below w0.heap.size w0 w12));have n2_:=a0_ (Kept.of_grown (S:=(fun k_=>P0_ k_)) hg (by repeat (first | (with_reducible first | exact HK.out | apply Kept.alloc | apply Kept.drewN | apply Kept.drew) | exact HK.out)) (fun k_ e_=>(HO_0.out.1 k_ e_)));clear HO_0 HB HK;have HO_0:=n0_;have HB:=n1_;have HK:=n2_;clear n0_ n1_ n2_;clear hg hw hp_;have p7 : 0 ≤ (x5_1 : Int):=of_decide_eq_true (by first | (with_reducible assumption) | assumption);have q7 : (x5_1 : Int) < ((x0_1.length : Int) : Int):=of_decide_eq_true (by first | (with_reducible assumption) | assumption);obtain ⟨ce7,hcl7,hM7,hcc7,hfr7⟩:=Kd.R_elem HO_0.out z38 (x5_1 : Int) p7 q7;obtain rfl:=k38_openM hM7;have hx7_0 : w12.cell? ⟨go5,(x5_1 : Int).toNat * 3,none⟩ = some (.int .i64 ((rd_T38 y2 x5_1).f0)):=hcc7 0 _ rfl;have hx7_1 : w12.cell? ⟨go5,(x5_1 : Int).toNat * 3 + 1,none⟩ = some (.int .i64 ((rd_T38 y2 x5_1).f1)):=hcc7 1 _ rfl;have hx7_2 : w12.cell? ⟨go5,(x5_1 : Int).toNat * 3 + 2,none⟩ = some (.int .i64 ((rd_T38 y2 x5_1).f2)):=hcc7 2 _ rfl;have hf7_0 : w12.frozen? ⟨go5,(x5_1 : Int).toNat * 3,none⟩ = false:=hfr7 0;have hf7_1 : w12.frozen? ⟨go5,(x5_1 : Int).toNat * 3 + 1,none⟩ = false:=hfr7 1;have hf7_2 : w12.frozen? ⟨go5,(x5_1 : Int).toNat * 3 + 2,none⟩ = false:=hfr7 2;clear hcl7 hcc7 hfr7 hM7;replace p7:=eq_true p7;replace q7:=eq_true q7;have HX13:=a0_ (show Kd.R k38 38 w12 w0.heap.size (fun k_=>(P0_ k_ ∨ w.heap.size ≤ k_)) (.slice (some ⟨go5,0,none⟩) x0_1.length co8) y2 from (rr_ HO_0.out));obtain ⟨ce13,hcl13,hM13,hcc13,hfr13⟩:=Kd.R_elem HX13.out z38 (x5_1 : Int) (of_decide_eq_true (by first | (with_reducible assumption) | assumption)) (by have h_ : (x5_1 : Int) < ((x0_1.length : Int) : Int):=of_decide_eq_true (by first | (with_reducible assumption) | assumption);first | exact h_ | (have e_:=(Kd.R_reads' HO_0.out).1;omega) | simpa using h_);obtain rfl:=k38_openM hM13;have HP13:=Kd.R_seg HX13.out (x5_1 : Int) (of_decide_eq_true (by first | (with_reducible assumption) | assumption)) (by have h_ : (x5_1 : Int) < ((x0_1.length : Int) : Int):=of_decide_eq_true (by first | (with_reducible assumption) | assumption);first | exact h_ | (have e_:=(Kd.R_reads' HO_0.out).1;omega) | simpa using h_) (seg:=[.int .i64 (wrap64 ((wrap64 (x1_1 + 1)) + 1))]) (j:=2) hcl13 hcc13 (show 3 ≤ 3 from by decide) (x':=(⟨(rd_T38 y2 x5_1).f0,(rd_T38 y2 x5_1).f1,wrap64 ((wrap64 (x1_1 + 1)) + 1)⟩ : S38)) (k38_mkM _ _ _ (⟨(rd_T38 y2 x5_1).f0,(rd_T38 y2 x5_1).f1,wrap64 ((wrap64 (x1_1 + 1)) + 1)⟩ : S38) ) (fun _ hk=>hk);have hx13_2:=hcc13 2 _ rfl;(try simp only [show (k38).sz = 3 from rfl,Nat.mul_one,Nat.add_zero] at hx13_2);have hf13_2:=hfr13 2;(try simp only [show (k38).sz = 3 from rfl,Nat.mul_one,Nat.add_zero] at hf13_2);clear hcl13 hcc13 hfr13 hM13) | ((with_reducible refine gate_store (t:=3) (p:=30) rfl ?_);refine store_event (t:=3) (p:=30) (v:=?vo_w14) (w1:=(w12.setCell ⟨go5,(x5_1 : Int).toNat * 3 + 2,none⟩ (.int .i64 (wrap64 ((wrap64 (x1_1 + 1)) + 1))))) ?hg ?ho ?hn ?hr ?_;(case ho=>rfl);(case hg=>rfl);(case hn=>rfl);(case hr=>first | (go_simp;done) | (go_simp;rfl));intro w14 hw;have hg : w12.grownBy w14 (some go5):=(by rw [hw];exact HP13.2);have hp_ : Kd.R k38 38 w14 w0.heap.size (fun k_=>(P0_ k_ ∨ w.heap.size ≤ k_)) (.slice (some ⟨go5,0,none⟩) x0_1.length co8) y3:=(by rw [hw,Ny3.out];exact HP13.1);clear HP13;have n0_:=a0_ (hp_);have n1_:=a0_ ((by rw [hw];exact below_set (HB.out) GB5.out : Below w0.heap.size w0 w14));have n2_:=a0_ (Kept.of_grown (S:=(fun k_=>P0_ k_)) hg (by repeat (first | (with_reducible first | exact HK.out | apply Kept.alloc | apply Kept.drewN | apply Kept.drew) | exact HK.out)) (fun k_ e_=>(HO_0.out.1 k_ e_)));clear HO_0 HB HK;have HO_0:=n0_;have HB:=n1_;have HK:=n2_;clear n0_ n1_ n2_;clear hg hw hp_))
     go_roundg k1
     case measure=>have:=HK1.out;omega
     case rel=>exact ⟨(y3),(wrap64 ((wrap64 ((wrap64 (x1_1 + 1)) + 1)) + 1)),(wrap64 (x5_1 + 1)),(by first | rfl | (simp;done) | (simp [*];done)),(by first | rfl | (simp;done) | (simp [*];done)),H',⟨by have:=HK1.out;omega⟩,⟨by (with_reducible repeat (first | apply Kd.R_alloc | apply Kd.R_drewN | apply Kd.R_drew));exact HO_0.out⟩,⟨by repeat (first | (with_reducible first | exact HK.out | apply Kept.alloc | apply Kept.drewN | apply Kept.drew) | exact HK.out)⟩,⟨hbw_⟩⟩
    ·rw [if_neg c4] at H
     exact absurd H (by simp)
   ·rw [if_neg c3] at H
    have c3b0 : decide (x5_1 < (x0_1.length : Int)) = false:=decide_eq_false c3
    clear c3
    simp only [Option.some.injEq,Prod.mk.injEq] at H
    obtain ⟨rfl,rfl⟩:=H
    obtain ⟨Ao15,co15,eo15⟩:=Kd.R_slice HO_0.out
    subst eo15
    go_wp2
    go_ret
    exact ⟨by first | rfl | (simp [errW_none,errW_some] <;> rfl) | (simp [*,errW_none,errW_some] <;> rfl),by (with_reducible repeat (first | apply Kd.R_alloc | apply Kd.R_drewN | apply Kd.R_drew));exact HO_0.out,hbw_,by repeat (first | (with_reducible first | exact HK.out | apply Kept.alloc | apply Kept.drewN | apply Kept.drew) | exact HK.out)⟩
theorem laws_markExitS_ev (l : List S38) (a : Int) (h0 : 0 ≤ a) (hl : a + 3 * l.length ≤ 4611686018427387904) : Ev (fun k=>laws_markExitS.f k l a) (a + 3 * l.length,marksExit a l.length):=by
 have h:=st_loop (fun k (s : List S38 × Int) i=>laws_markExitS.l0 k s.1 s.2 i) l.length (fun i=>((List.range i).map (fun j : Nat=>mkExit (a + 3 * (j : Int))) ++ l.drop i,a + 3 * (i : Int))) (a + 3 * l.length,marksExit a l.length) (by
  intro k i hi
  have hlen : ((List.range i).map (fun j : Nat=>mkExit (a + 3 * (j : Int))) ++ l.drop i).length = l.length:=by simp;omega
  have hset:=mark_at (fun j : Nat=>mkExit (a + 3 * (j : Int))) l i hi
  rw [← hset]
  generalize ((List.range i).map (fun j : Nat=>mkExit (a + 3 * (j : Int))) ++ l.drop i) = X at hlen ⊢
  have hr : ∀ v,rd_T38 (X.set i v) (i : Int) = v:=by
   intro v
   have : i < X.length:=by omega
   simp [rd_T38,this]
  simp only [laws_markExitS.l0,Option.bind_some,Int.toNat_natCast,List.set_set,hr]
  rw [hlen,if_pos (by omega),if_pos (by omega),wrap_succ (i:=(i : Int)) (n:=l.length) (by omega) (by omega) (by omega)]
  generalize hb : a + 3 * (i : Int) = b
  have hb2 : a + 3 * ((i + 1 : Nat) : Int) = b + 1 + 1 + 1:=by omega
  rw [wrap_in (i:=b + 1) (by omega) (by omega),wrap_in (i:=b + 1 + 1) (by omega) (by omega),wrap_in (i:=b + 1 + 1 + 1) (by omega) (by omega),hb2]
  rfl) (by
  intro k
  simp only [laws_markExitS.l0]
  rw [if_neg (by simp)]
  simp [marksExit])
 refine Ev.of_mono (laws_markExitS.mono l a) (K:=l.length + 1) ?_
 unfold laws_markExitS.f
 simpa using h
end Go.Proofs.Ytjcodcimodnbjaa.P
namespace Go.Proofs.Ytjcodcimodnbjaa.P
open Go.RowKit Go.Proofs.YtjcodcimodnbjaaW.PrintWords Go.Proofs.YtjcodcimodnbjaaW.PrintLast Go.Proofs.YtjcodcimodnbjaaW.PrintMore
attribute [local go_sem] max2_int min2_int max_two min_two max_three min_three max_four min_four
set_option linter.unusedVariables false
set_option linter.unusedSimpArgs false
def clss (t : List Cls) : List Int:=(List.range t.length).map (fun i : Nat=>(i : Int))
def fil (t : List Cls) (p : Int → Bool) : List Int:=(clss t).filter p
theorem clss_take (t : List Cls) (n : Nat) (hn : n ≤ t.length) : (clss t).take n = (List.range n).map (fun i : Nat=>(i : Int)):=by
 unfold clss
 rw [← List.map_take,List.take_range,Nat.min_eq_left hn]
theorem clss_len (t : List Cls) : (clss t).length = t.length:=by simp [clss]
theorem fil_step (t : List Cls) (p : Int → Bool) (n : Nat) : ((List.range (n + 1)).map (fun i : Nat=>(i : Int))).filter p = ((List.range n).map (fun i : Nat=>(i : Int))).filter p ++ (if p (n : Int) then [(n : Int)] else []):=by
 rw [List.range_succ,List.map_append,List.filter_append]
 congr 1
 cases h : p (n : Int) <;> simp [h]
theorem fil_len (p : Int → Bool) (n : Nat) : (((List.range n).map (fun i : Nat=>(i : Int))).filter p).length ≤ n:=by
 have:=List.length_filter_le p ((List.range n).map (fun i : Nat=>(i : Int)))
 simpa using this
def caughtBy (t : List Cls) (l : List Int) : List Int:=fil t (fun a=>l.any (isA t a))
def okCat (t : List Cls) (l : List Int) : Bool:=vT t && (decide (l.length ≤ 6) && l.all (hasC t))
theorem okCat_parts {t : List Cls} {l : List Int} (h : okCat t l = true) : vT t = true ∧ l.length ≤ 6 ∧ ∀ x ∈ l,0 ≤ x ∧ x < (t.length : Int):=by
 unfold okCat at h
 simp only [Bool.and_eq_true,decide_eq_true_eq,List.all_eq_true] at h
 refine ⟨h.1,h.2.1,fun x hx=>?_⟩
 have:=h.2.2 x hx
 unfold hasC at this
 simpa using this
def caughtP (t : List Cls) (l : List Int) : List Int:=if okCat t l = true then caughtBy t l else []
theorem caughtP_len (t : List Cls) (l : List Int) : (caughtP t l).length ≤ t.length:=by
 unfold caughtP
 split
 ·exact fil_len _ _
 ·simp
def leastP (t : List Cls) (l : List Int) : List Int:=if okCat t l = true then fil t (fun a=>l.contains a && !(l.any fun b=>!decide (b = a) && isA t a b)) else []
theorem leastP_len (t : List Cls) (l : List Int) : (leastP t l).length ≤ t.length:=by
 unfold leastP
 split
 ·exact fil_len _ _
 ·simp
def belowP (t : List Cls) (a : Int) : List Int:=if (vT t && hasC t a) = true then fil t (fun b=>isA t b a) else []
end Go.Proofs.Ytjcodcimodnbjaa.P
namespace Go.Proofs.Ytjcodcimodnbjaa.P
open Go.RowKit Go.Proofs.YtjcodcimodnbjaaW.PrintWords Go.Proofs.YtjcodcimodnbjaaW.PrintLast Go.Proofs.YtjcodcimodnbjaaW.PrintMore
attribute [local go_sem] max2_int min2_int max_two min_two max_three min_three max_four min_four
set_option linter.unusedVariables false
set_option linter.unusedSimpArgs false
abbrev Ext:=S38
def okX (t : List Cls) (x : Ext) : Bool:=if x.f0 = 0 ∨ x.f0 = 1 then ((decide (0 ≤ x.f1) && decide (x.f1 ≤ 99)) && (x.f2 == 0)) else if x.f0 = 2 then (hasC t x.f1 && (x.f2 == 0)) else if x.f0 = 3 then (hasC t x.f1 && (decide (0 ≤ x.f2) && decide (x.f2 ≤ 99))) else false
def vX (t : List Cls) (l : List Ext) : Bool:=vT t && (decide ((l.length : Int) ≤ 8) && l.all (okX t))
theorem vX_len {t : List Cls} {l : List Ext} (h : vX t l = true) : l.length ≤ 8:=by
 unfold vX at h
 simp only [Bool.and_eq_true,decide_eq_true_eq] at h
 omega
theorem vX_tree {t : List Cls} {l : List Ext} (h : vX t l = true) : vT t = true:=by
 unfold vX at h
 simp only [Bool.and_eq_true,decide_eq_true_eq] at h
 exact h.1
end Go.Proofs.Ytjcodcimodnbjaa.P
namespace Go.Proofs.Ytjcodcimodnbjaa.P
open Go.RowKit Go.Proofs.YtjcodcimodnbjaaW.PrintWords Go.Proofs.YtjcodcimodnbjaaW.PrintLast Go.Proofs.YtjcodcimodnbjaaW.PrintMore
attribute [local go_sem] max2_int min2_int max_two min_two max_three min_three max_four min_four
set_option linter.unusedVariables false
set_option linter.unusedSimpArgs false
def exOk (t : List Cls) (x : S38) : Prop:=(x.f0 = 3 → 0 ≤ x.f1 ∧ x.f1 < (t.length : Int))
def psB (t : List Cls) (a : Int) (l : List (S38)) : Bool:=l.all (fun x=>!(decide (x.f0 = 3) || (decide (x.f0 = 2) && isA t a x.f1)))
theorem psB_snoc (t : List Cls) (a : Int) (l : List (S38)) (x : S38) : psB t a (l ++ [x]) = (psB t a l && !(decide (x.f0 = 3) || (decide (x.f0 = 2) && isA t a x.f1))):=by simp [psB]
def escP (t : List Cls) (l : List (S38)) : List Int:=if vX t l = true then fil t (fun a=>psB t a l) else []
theorem vX_ok {t : List Cls} {l : List (S38)} (h : vX t l = true) : ∀ x ∈ l,exOk t x:=by
 intro x hx h3
 unfold vX at h
 simp only [Bool.and_eq_true,List.all_eq_true] at h
 have hk:=h.2.2 x hx
 unfold okX at hk
 rw [if_neg (by omega),if_neg (by omega),if_pos h3] at hk
 simp only [Bool.and_eq_true,hasC,decide_eq_true_eq] at hk
 omega
theorem escP_len (t : List Cls) (l : List (S38)) : (escP t l).length ≤ t.length:=by
 unfold escP
 split
 ·exact fil_len _ _
 ·simp
theorem psB_cons (t : List Cls) (a : Int) (x : S38) (l : List (S38)) : psB t a (x :: l) = (!(decide (x.f0 = 3) || (decide (x.f0 = 2) && isA t a x.f1)) && psB t a l):=by simp [psB]
end Go.Proofs.Ytjcodcimodnbjaa.P
namespace Go.Proofs.Ytjcodcimodnbjaa.P
open Go.RowKit Go.Proofs.YtjcodcimodnbjaaW.PrintWords Go.Proofs.YtjcodcimodnbjaaW.PrintLast Go.Proofs.YtjcodcimodnbjaaW.PrintMore
attribute [local go_sem] max2_int min2_int max_two min_two max_three min_three max_four min_four
set_option linter.unusedVariables false
set_option linter.unusedSimpArgs false
def spec_inRange.f (a0 : Int) (a1 : Int) (a2 : Int) : Option (Bool):=if a1 ≤ a0 then (some (decide (a0 ≤ a2))) else (some false)
set_option maxHeartbeats 8000000 in
set_option maxRecDepth 100000 in
theorem spec_inRange.calls (a0 : Int) (a1 : Int) (a2 : Int) (r : Bool) (w : World) (h : spec_inRange.f a0 a1 a2 = some r) :
  Calls Try.prog 60 #[.int .i64 a0,.int .i64 a1,.int .i64 a2] w fun e w'=>e = .returned (.bool r) ∧ Drawn0 w w':=by
 have H : (if a1 ≤ a0 then (some (decide (a0 ≤ a2))) else (some false)) = some r:=h
 clear h
 by_cases c4 : a1 ≤ a0
 ·rw [if_pos c4] at H
  have c4b0 : decide (a1 ≤ a0) = true:=decide_eq_true c4
  clear c4
  obtain rfl:=Option.some.inj H
  go_enter Try.func60,Try.ntmps60
  go_wp2
  go_ret
  exact ⟨by first | rfl | (simp;done) | (simp [*];done),by repeat (first | exact Drawn0.refl _ | apply Drawn0.step)⟩
 ·rw [if_neg c4] at H
  have c4b0 : decide (a1 ≤ a0) = false:=decide_eq_false c4
  clear c4
  obtain rfl:=Option.some.inj H
  go_enter Try.func60,Try.ntmps60
  go_wp2
  go_ret
  exact ⟨by first | rfl | (simp;done) | (simp [*];done),by repeat (first | exact Drawn0.refl _ | apply Drawn0.step)⟩
theorem spec_inRange_ev (a b c : Int) : spec_inRange.f a b c = some (decide (b ≤ a) && decide (a ≤ c)):=by
 unfold spec_inRange.f
 by_cases h : b ≤ a
 ·rw [if_pos h];simp [h]
 ·rw [if_neg h];simp [h]
end Go.Proofs.Ytjcodcimodnbjaa.P
namespace Go.Proofs.Ytjcodcimodnbjaa.P
open Go.RowKit Go.Proofs.YtjcodcimodnbjaaW.PrintWords Go.Proofs.YtjcodcimodnbjaaW.PrintLast Go.Proofs.YtjcodcimodnbjaaW.PrintMore
attribute [local go_sem] max2_int min2_int max_two min_two max_three min_three max_four min_four
set_option linter.unusedVariables false
set_option linter.unusedSimpArgs false
def spec_hasClass.f (l0_0 : List (S76)) (a1 : Int) : Option (Bool):=(spec_inRange.f a1 0 (wrap64 ((l0_0.length : Int) - 1))).bind fun t2=>(some t2)
set_option maxHeartbeats 8000000 in
set_option maxRecDepth 100000 in
theorem spec_hasClass.calls (A0_0 : Option Addr) (c0_0 : Nat) (l0_0 : List (S76)) (a1 : Int) (r : Bool) (w : World) (hr0_0 : Kd.C k76 w A0_0 l0_0.length l0_0) (hc0_0 : l0_0.length ≤ c0_0) (h : spec_hasClass.f l0_0 a1 = some r) :
  Calls Try.prog 61 #[.agg #[.slice A0_0 l0_0.length c0_0],.int .i64 a1] w fun e w'=>e = .returned (.bool r) ∧ Below w.heap.size w w':=by
 have hu35:=Try.underlying35
 have HR0_0:=a0_ hr0_0
 have HC0_0:=a0_ hc0_0
 clear hr0_0 hc0_0
 have HB:=a0_ (Below.refl w.heap.size w)
 have H : ((spec_inRange.f a1 0 (wrap64 ((l0_0.length : Int) - 1))).bind fun t2=>(some t2)) = some r:=h
 clear h
 replace H:=Option.bind_eq_some_iff.mp H
 obtain ⟨t2,A30,H⟩:=H
 replace H : (some t2) = some r:=H
 have A3:=a0_ A30
 clear A30
 obtain rfl:=Option.some.inj H
 go_enter Try.func61,Try.ntmps61
 go_wp2_with (first | ((with_reducible refine gate_dst (N:=2) rfl ?_);refine box_event ?hg (N:=2) ?hd (cs:=#[.slice A0_0 l0_0.length c0_0]) (t:=35) ?hr ?_;(case hd=>rfl);(case hg=>rfl);(case hr=>first | (go_simp;done) | (go_simp;rfl));intro gb1 hg w4 hbox hb;have BK1:=a0_ (hbox);have GW1:=a0_ ((by rw [hg];exact (below_size hbw_) : w.heap.size ≤ gb1));have GE1:=a0_ ((by rw [hg];exact (below_size hbw_) : w.heap.size ≤ gb1));replace HB:=a0_ (below_step hbw_ hb);clear hb hbox hg;have hcz5_0 : w4.cell? ⟨gb1,0,none⟩ = some (.slice A0_0 l0_0.length c0_0):=(blk_cell BK1.out 0).trans rfl;have hfz5_0:=blk_frozen BK1.out 0) | ((with_reducible refine gate_callee (f:=60) rfl ?_);refine goesL_ (some 10) rfl rfl Try.func60 (by kernel_rfl) rfl #[.int .i64 a1,.int .i64 0,.int .i64 (wrap64 ((l0_0.length : Int) - 1))] rfl lm_ ?_;(with_reducible refine (spec_inRange.calls a1 0 (wrap64 ((l0_0.length : Int) - 1)) t2 _ A3.out).mono ?_);rintro e w' ⟨rfl,⟨nd,rfl⟩⟩;refine ⟨_,rfl,?_⟩))
 go_ret
 exact ⟨by first | rfl | (simp [errW_none,errW_some] <;> rfl) | (simp [*,errW_none,errW_some] <;> rfl),hbw_⟩
theorem spec_hasClass_ev (t : List Cls) (a : Int) (hl : t.length ≤ 9223372036854775807) : spec_hasClass.f t a = some (hasC t a):=by
 unfold spec_hasClass.f spec_inRange.f hasC
 rw [wrap_pred (by omega) (by omega)]
 by_cases h0 : 0 ≤ a
 ·rw [if_pos h0]
  simp only [Option.bind_some,Option.some.injEq,decide_eq_true h0,Bool.true_and]
  by_cases h1 : a < (t.length : Int)
  ·rw [decide_eq_true h1,decide_eq_true (by omega)]
  ·rw [decide_eq_false h1,decide_eq_false (by omega)]
 ·rw [if_neg h0]
  simp [decide_eq_false h0]
end Go.Proofs.Ytjcodcimodnbjaa.P
namespace Go.Proofs.Ytjcodcimodnbjaa.P
open Go.RowKit Go.Proofs.YtjcodcimodnbjaaW.PrintWords Go.Proofs.YtjcodcimodnbjaaW.PrintLast Go.Proofs.YtjcodcimodnbjaaW.PrintMore
attribute [local go_sem] max2_int min2_int max_two min_two max_three min_three max_four min_four
set_option linter.unusedVariables false
set_option linter.unusedSimpArgs false
def spec_validExit.j0 : Nat → Int → Bool → List (S76) → Int → Int → Int → Option (Bool)
 | 0,_,_,_,_,_,_=>none
 | k + 1,x6,x7,x2000,x3000,x3001,x3002=>if x7 = true then ((spec_inRange.f x3001 0 99).bind fun t3=>(if t3 = true then (some (x3002 == 0)) else (some false))) else (if x6 = 2 then ((spec_hasClass.f x2000 x3001).bind fun t4=>(if t4 = true then (some (x3002 == 0)) else (some false))) else (if x6 = 3 then ((spec_hasClass.f x2000 x3001).bind fun t5=>(if t5 = true then ((spec_inRange.f x3002 0 99).bind fun t6=>(some t6)) else (some false))) else (some false)))
def spec_validExit.f (k : Nat) (l0_0 : List (S76)) (a1_0 : Int) (a1_1 : Int) (a1_2 : Int) : Option (Bool):=if a1_0 = 0 then (spec_validExit.j0 k a1_0 (a1_0 == 0) l0_0 a1_0 a1_1 a1_2) else (spec_validExit.j0 k a1_0 (a1_0 == 1) l0_0 a1_0 a1_1 a1_2)
theorem spec_validExit.mono_l : ∀ k,(∀ y0 y1 y2 y3 y4 y5,LeO (spec_validExit.j0 k y0 y1 y2 y3 y4 y5) (spec_validExit.j0 (k + 1) y0 y1 y2 y3 y4 y5))
 | 0=>fun _ _ _ _ _ _ r h=>by simp [spec_validExit.j0] at h
 | k + 1=>by
  have ih0:=spec_validExit.mono_l k
  ·intro y0 y1 y2 y3 y4 y5
   unfold spec_validExit.j0
   repeat' first
   | (with_reducible exact ih0 _ _ _ _ _ _)
   | (with_reducible exact LeO.refl _)
   | (with_reducible exact LeO.none _)
   | (with_reducible refine LeO.ite ?_ ?_)
   | (with_reducible refine LeO.bind ?_ (fun _=>?_))
   | exact ih0 _ _ _ _ _ _
   | exact LeO.none _
   | refine LeO.ite ?_ ?_
   | refine LeO.bind ?_ (fun _=>?_)
theorem spec_validExit.mono : ∀ a0 a1 a2 a3 k,LeO (spec_validExit.f k a0 a1 a2 a3) (spec_validExit.f (k + 1) a0 a1 a2 a3):=by
 intro a0 a1 a2 a3 k
 have ih0:=spec_validExit.mono_l k
 unfold spec_validExit.f
 repeat' first
   | (with_reducible exact ih0 _ _ _ _ _ _)
   | (with_reducible exact LeO.refl _)
   | (with_reducible exact LeO.none _)
   | (with_reducible refine LeO.ite ?_ ?_)
   | (with_reducible refine LeO.bind ?_ (fun _=>?_))
   | exact ih0 _ _ _ _ _ _
   | exact LeO.none _
   | refine LeO.ite ?_ ?_
   | refine LeO.bind ?_ (fun _=>?_)
set_option maxHeartbeats 8000000 in
set_option maxRecDepth 100000 in
theorem spec_validExit.calls (k : Nat) (A0_0 : Option Addr) (c0_0 : Nat) (l0_0 : List (S76)) (a1_0 : Int) (a1_1 : Int) (a1_2 : Int) (r : Bool) (w : World) (hr0_0 : Kd.C k76 w A0_0 l0_0.length l0_0) (hc0_0 : l0_0.length ≤ c0_0) (h : spec_validExit.f k l0_0 a1_0 a1_1 a1_2 = some r) :
  Calls Try.prog 46 #[.agg #[.slice A0_0 l0_0.length c0_0],.agg #[.int .i64 a1_0,.int .i64 a1_1,.int .i64 a1_2]] w fun e w'=>e = .returned (.bool r) ∧ Below w.heap.size w w':=by
 have hu35:=Try.underlying35
 have hu38:=Try.underlying38
 have HR0_0:=a0_ hr0_0
 have HC0_0:=a0_ hc0_0
 clear hr0_0 hc0_0
 have HB:=a0_ (Below.refl w.heap.size w)
 have H : (if a1_0 = 0 then (spec_validExit.j0 k a1_0 (a1_0 == 0) l0_0 a1_0 a1_1 a1_2) else (spec_validExit.j0 k a1_0 (a1_0 == 1) l0_0 a1_0 a1_1 a1_2)) = some r:=h
 clear h
 have HC3:=a0_ H
 clear H
 go_enter Try.func46,Try.ntmps46
 go_upto_if 7 with (first | ((with_reducible refine gate_dst (N:=2) rfl ?_);refine box_event ?hg (N:=2) ?hd (cs:=#[.slice A0_0 l0_0.length c0_0]) (t:=35) ?hr ?_;(case hd=>rfl);(case hg=>rfl);(case hr=>first | (go_simp;done) | (go_simp;rfl));intro gb1 hg w4 hbox hb;have BK1:=a0_ (hbox);have GW1:=a0_ ((by rw [hg];exact (below_size hbw_) : w.heap.size ≤ gb1));have GE1:=a0_ ((by rw [hg];exact (below_size hbw_) : w.heap.size ≤ gb1));replace HB:=a0_ (below_step hbw_ hb);clear hb hbox hg) | ((with_reducible refine gate_dst (N:=3) rfl ?_);refine box_event ?hg (N:=3) ?hd (cs:=#[.int .i64 a1_0,.int .i64 a1_1,.int .i64 a1_2]) (t:=38) ?hr ?_;(case hd=>rfl);(case hg=>rfl);(case hr=>first | (go_simp;done) | (go_simp;rfl));intro gb2 hg w5 hbox hb;have n0_:=kb_ BK1 hb;have n1_:=a0_ (below_step hbw_ hb);have n2_:=a0_ (hbox);have n3_:=a0_ ((by rw [hg];exact (below_size hbw_) : w.heap.size ≤ gb2));have n4_:=a0_ ((by rw [hg];exact (below_size hbw_) : w.heap.size ≤ gb2));have n5_:=a0_ ((by rw [hg];exact Nat.ne_of_lt (blk_lt (bb_ BK1.out)) : gb1 ≠ gb2));have n6_:=a0_ ((by rw [hg];exact Nat.ne_of_gt (blk_lt (bb_ BK1.out)) : gb2 ≠ gb1));clear BK1 HB;have BK1:=n0_;have HB:=n1_;have BK2:=n2_;have GW2:=n3_;have GE2:=n4_;have NB1_2:=n5_;have NB2_1:=n6_;clear n0_ n1_ n2_ n3_ n4_ n5_ n6_;clear hb hbox hg;have hnb6:=NB2_1.out;have hnc6:=NB1_2.out;have hcz7_0 : w5.cell? ⟨gb2,0,none⟩ = some (.int .i64 a1_0):=(blk_cell BK2.out 0).trans rfl;have hcz7_1 : w5.cell? ⟨gb2,1,none⟩ = some (.int .i64 a1_1):=(blk_cell BK2.out 1).trans rfl;have hcz7_2 : w5.cell? ⟨gb2,2,none⟩ = some (.int .i64 a1_2):=(blk_cell BK2.out 2).trans rfl;have hfz7_0:=blk_frozen BK2.out 0;have hfz7_1:=blk_frozen BK2.out 1;have hfz7_2:=blk_frozen BK2.out 2))
 (try simp only [Act.put,s1_,s2_,s3_])
 go_cut [7] (fun v7 wc=>∃ (kq : Nat) (x7_2 : Bool),v7 = .bool x7_2 ∧ Aside0 (spec_validExit.j0 kq a1_0 x7_2 l0_0 a1_0 a1_1 a1_2 = some r) ∧ Aside0 (kq ≤ k) ∧ Aside0 (wc.heap[gb1]? = some (.cells #[(.slice A0_0 l0_0.length c0_0)] 35 (0,0))) ∧ Aside0 (wc.heap[gb2]? = some (.cells #[.int .i64 a1_0,.int .i64 a1_1,.int .i64 a1_2] 38 (0,0))) ∧ Aside0 (Below w.heap.size w wc))
 case first =>
  have H:=HC3.out
  clear HC3
  by_cases c8 : a1_0 = 0
  ·rw [if_pos c8] at H
   have c8b0 : (a1_0 == 0) = true:=beq_iff_eq.mpr c8
   have c8b1 : (a1_0 != 0) = false:=bne_eq_false_iff_eq.mpr c8
   clear c8
   (first | rw [c8b0] | (simp only [i64_w,i32_w];rw [c8b0]) | skip)
   have H':=a0_ H
   clear H
   go_wp2
   go_meet
   case rel=>exact ⟨_,((a1_0 == 0)),(by first | rfl | (simp;done) | (simp [*];done)),H',⟨by first | omega | exact Nat.le_refl _⟩,⟨by (with_reducible repeat (first | refine blk_drewN ?_ _ | refine blk_drew ?_ | refine blk_alloc ?_ _));exact BK1.out⟩,⟨by (with_reducible repeat (first | refine blk_drewN ?_ _ | refine blk_drew ?_ | refine blk_alloc ?_ _));exact BK2.out⟩,⟨hbw_⟩⟩
  ·rw [if_neg c8] at H
   have c8b0 : (a1_0 == 0) = false:=beq_eq_false_iff_ne.mpr c8
   have c8b1 : (a1_0 != 0) = true:=bne_iff_ne.mpr c8
   (first | rw [c8b0] | (simp only [i64_w,i32_w];rw [c8b0]) | skip)
   have H':=a0_ H
   clear H
   go_wp2
   go_meet
   case rel=>exact ⟨_,((a1_0 == 1)),(by first | rfl | (simp;done) | (simp [*];done)),H',⟨by first | omega | exact Nat.le_refl _⟩,⟨by (with_reducible repeat (first | refine blk_drewN ?_ _ | refine blk_drew ?_ | refine blk_alloc ?_ _));exact BK1.out⟩,⟨by (with_reducible repeat (first | refine blk_drewN ?_ _ | refine blk_drew ?_ | refine blk_alloc ?_ _));exact BK2.out⟩,⟨hbw_⟩⟩
 case rest =>
  clear HC3
  try clear p2
  try clear c4
  try clear c6
  try clear c8
  try clear c8b0
  try clear c8b1
  try clear hcz7_0
  try clear hcz7_1
  try clear hcz7_2
  try clear hfz7_0
  try clear hfz7_1
  try clear hfz7_2
  obtain ⟨kq,x7_2,rfl,HA,HJ2,BK1,BK2,HB⟩:=hcut
  cases kq with
  | zero=>exact absurd HA.out (by simp [spec_validExit.j0])
  | succ kj2 =>
   have H:=HA.out
   clear HA
   simp only [spec_validExit.j0] at H
   by_cases c9 : x7_2 = true
   ·subst c9
    have H1 : ((spec_inRange.f a1_1 0 99).bind fun t3=>(if t3 = true then (some (a1_2 == 0)) else (some false))) = some r:=by rw [if_pos rfl] at H;exact H
    clear H
    have H:=H1
    clear H1
    replace H:=Option.bind_eq_some_iff.mp H
    obtain ⟨t3,A100,H⟩:=H
    try dsimp only at H
    have A10:=a0_ A100
    clear A100
    by_cases c11 : t3 = true
    ·subst c11
     have H1 : (some (a1_2 == 0)) = some r:=by rw [if_pos rfl] at H;exact H
     clear H
     have H:=H1
     clear H1
     obtain rfl:=Option.some.inj H
     have hnb12:=NB2_1.out
     have hnc12:=NB1_2.out
     have hcz13_0 : wc.cell? ⟨gb2,0,none⟩ = some (.int .i64 a1_0):=(blk_cell BK2.out 0).trans rfl
     have hcz13_1 : wc.cell? ⟨gb2,1,none⟩ = some (.int .i64 a1_1):=(blk_cell BK2.out 1).trans rfl
     have hcz13_2 : wc.cell? ⟨gb2,2,none⟩ = some (.int .i64 a1_2):=(blk_cell BK2.out 2).trans rfl
     have hfz13_0:=blk_frozen BK2.out 0
     have hfz13_1:=blk_frozen BK2.out 1
     have hfz13_2:=blk_frozen BK2.out 2
     go_wp2_with (first | ((with_reducible refine gate_callee (f:=60) rfl ?_);refine goesL_ (some 12) rfl rfl Try.func60 (by kernel_rfl) rfl #[.int .i64 a1_1,.int .i64 0,.int .i64 99] rfl lm_ ?_;(with_reducible refine (spec_inRange.calls a1_1 0 99 true _ A10.out).mono ?_);rintro e w' ⟨rfl,⟨nd,rfl⟩⟩;refine ⟨_,rfl,?_⟩))
     go_ret
     exact ⟨by first | rfl | (simp [errW_none,errW_some] <;> rfl) | (simp [*,errW_none,errW_some] <;> rfl),hbw_⟩
    ·replace c11:=Bool.eq_false_iff.mpr c11
     subst c11
     have H1 : (some false) = some r:=by rw [if_neg (show ¬ (false = true) by decide)] at H;exact H
     clear H
     have H:=H1
     clear H1
     obtain rfl:=Option.some.inj H
     have hnb14:=NB2_1.out
     have hnc14:=NB1_2.out
     have hcz15_0 : wc.cell? ⟨gb2,0,none⟩ = some (.int .i64 a1_0):=(blk_cell BK2.out 0).trans rfl
     have hcz15_1 : wc.cell? ⟨gb2,1,none⟩ = some (.int .i64 a1_1):=(blk_cell BK2.out 1).trans rfl
     have hcz15_2 : wc.cell? ⟨gb2,2,none⟩ = some (.int .i64 a1_2):=(blk_cell BK2.out 2).trans rfl
     have hfz15_0:=blk_frozen BK2.out 0
     have hfz15_1:=blk_frozen BK2.out 1
     have hfz15_2:=blk_frozen BK2.out 2
     go_wp2_with (first | ((with_reducible refine gate_callee (f:=60) rfl ?_);refine goesL_ (some 12) rfl rfl Try.func60 (by kernel_rfl) rfl #[.int .i64 a1_1,.int .i64 0,.int .i64 99] rfl lm_ ?_;(with_reducible refine (spec_inRange.calls a1_1 0 99 false _ A10.out).mono ?_);rintro e w' ⟨rfl,⟨nd,rfl⟩⟩;refine ⟨_,rfl,?_⟩))
     go_ret
     exact ⟨by first | rfl | (simp [errW_none,errW_some] <;> rfl) | (simp [*,errW_none,errW_some] <;> rfl),hbw_⟩
   ·replace c9:=Bool.eq_false_iff.mpr c9
    subst c9
    have H1 : (if a1_0 = 2 then ((spec_hasClass.f l0_0 a1_1).bind fun t4=>(if t4 = true then (some (a1_2 == 0)) else (some false))) else (if a1_0 = 3 then ((spec_hasClass.f l0_0 a1_1).bind fun t5=>(if t5 = true then ((spec_inRange.f a1_2 0 99).bind fun t6=>(some t6)) else (some false))) else (some false))) = some r:=by rw [if_neg (show ¬ (false = true) by decide)] at H;exact H
    clear H
    have H:=H1
    clear H1
    by_cases c16 : a1_0 = 2
    ·rw [if_pos c16] at H
     have c16b0 : (a1_0 == 2) = true:=beq_iff_eq.mpr c16
     have c16b1 : (a1_0 != 2) = false:=bne_eq_false_iff_eq.mpr c16
     clear c16
     replace H:=Option.bind_eq_some_iff.mp H
     obtain ⟨t4,A170,H⟩:=H
     try dsimp only at H
     have A17:=a0_ A170
     clear A170
     by_cases c18 : t4 = true
     ·subst c18
      have H1 : (some (a1_2 == 0)) = some r:=by rw [if_pos rfl] at H;exact H
      clear H
      have H:=H1
      clear H1
      obtain rfl:=Option.some.inj H
      have hnb19:=NB1_2.out
      have hnc19:=NB2_1.out
      have hcz20_0 : wc.cell? ⟨gb1,0,none⟩ = some (.slice A0_0 l0_0.length c0_0):=(blk_cell BK1.out 0).trans rfl
      have hfz20_0:=blk_frozen BK1.out 0
      have hcz21_0 : wc.cell? ⟨gb2,0,none⟩ = some (.int .i64 a1_0):=(blk_cell BK2.out 0).trans rfl
      have hcz21_1 : wc.cell? ⟨gb2,1,none⟩ = some (.int .i64 a1_1):=(blk_cell BK2.out 1).trans rfl
      have hcz21_2 : wc.cell? ⟨gb2,2,none⟩ = some (.int .i64 a1_2):=(blk_cell BK2.out 2).trans rfl
      have hfz21_0:=blk_frozen BK2.out 0
      have hfz21_1:=blk_frozen BK2.out 1
      have hfz21_2:=blk_frozen BK2.out 2
      go_wp2_with (first | ((with_reducible refine gate_callee (f:=61) rfl ?_);refine goesL_ (some 23) rfl rfl Try.func61 (by kernel_rfl) rfl #[.agg #[.slice A0_0 l0_0.length c0_0],.int .i64 a1_1] rfl lm_ ?_;(with_reducible refine (spec_hasClass.calls _ _ l0_0 a1_1 true _ ?side1 ?side2 A17.out).mono ?_);(case side1=>exact cc_ (Kd.C_below HR0_0.out HB.out));(case side2=>exact HC0_0.out);rintro e w22 ⟨rfl,hb⟩;refine ⟨_,rfl,?_⟩;replace BK1:=kb_ BK1 hb;replace BK2:=kb_ BK2 hb;replace HB:=a0_ (below_step hbw_ hb);(try clear hb);have hcz23_0 : w22.cell? ⟨gb2,0,none⟩ = some (.int .i64 a1_0):=(blk_cell BK2.out 0).trans rfl;have hcz23_1 : w22.cell? ⟨gb2,1,none⟩ = some (.int .i64 a1_1):=(blk_cell BK2.out 1).trans rfl;have hcz23_2 : w22.cell? ⟨gb2,2,none⟩ = some (.int .i64 a1_2):=(blk_cell BK2.out 2).trans rfl;have hfz23_0:=blk_frozen BK2.out 0;have hfz23_1:=blk_frozen BK2.out 1;have hfz23_2:=blk_frozen BK2.out 2))
      go_ret
      exact ⟨by first | rfl | (simp [errW_none,errW_some] <;> rfl) | (simp [*,errW_none,errW_some] <;> rfl),hbw_⟩
     ·replace c18:=Bool.eq_false_iff.mpr c18
      subst c18
      have H1 : (some false) = some r:=by rw [if_neg (show ¬ (false = true) by decide)] at H;exact H
      clear H
      have H:=H1
      clear H1
      obtain rfl:=Option.some.inj H
      have hnb24:=NB1_2.out
      have hnc24:=NB2_1.out
      have hcz25_0 : wc.cell? ⟨gb1,0,none⟩ = some (.slice A0_0 l0_0.length c0_0):=(blk_cell BK1.out 0).trans rfl
      have hfz25_0:=blk_frozen BK1.out 0
      have hcz26_0 : wc.cell? ⟨gb2,0,none⟩ = some (.int .i64 a1_0):=(blk_cell BK2.out 0).trans rfl
      have hcz26_1 : wc.cell? ⟨gb2,1,none⟩ = some (.int .i64 a1_1):=(blk_cell BK2.out 1).trans rfl
      have hcz26_2 : wc.cell? ⟨gb2,2,none⟩ = some (.int .i64 a1_2):=(blk_cell BK2.out 2).trans rfl
      have hfz26_0:=blk_frozen BK2.out 0
      have hfz26_1:=blk_frozen BK2.out 1
      have hfz26_2:=blk_frozen BK2.out 2
      go_wp2_with (first | ((with_reducible refine gate_callee (f:=61) rfl ?_);refine goesL_ (some 23) rfl rfl Try.func61 (by kernel_rfl) rfl #[.agg #[.slice A0_0 l0_0.length c0_0],.int .i64 a1_1] rfl lm_ ?_;(with_reducible refine (spec_hasClass.calls _ _ l0_0 a1_1 false _ ?side1 ?side2 A17.out).mono ?_);(case side1=>exact cc_ (Kd.C_below HR0_0.out HB.out));(case side2=>exact HC0_0.out);rintro e w27 ⟨rfl,hb⟩;refine ⟨_,rfl,?_⟩;replace BK1:=kb_ BK1 hb;replace BK2:=kb_ BK2 hb;replace HB:=a0_ (below_step hbw_ hb);(try clear hb);(try clear hb2);(try clear hk);(try clear hi)))
      go_ret
      exact ⟨by first | rfl | (simp [errW_none,errW_some] <;> rfl) | (simp [*,errW_none,errW_some] <;> rfl),hbw_⟩
    ·rw [if_neg c16] at H
     have c16b0 : (a1_0 == 2) = false:=beq_eq_false_iff_ne.mpr c16
     have c16b1 : (a1_0 != 2) = true:=bne_iff_ne.mpr c16
     by_cases c28 : a1_0 = 3
     ·rw [if_pos c28] at H
      have c28b0 : (a1_0 == 3) = true:=beq_iff_eq.mpr c28
      have c28b1 : (a1_0 != 3) = false:=bne_eq_false_iff_eq.mpr c28
      clear c28
      replace H:=Option.bind_eq_some_iff.mp H
      obtain ⟨t5,A290,H⟩:=H
      try dsimp only at H
      have A29:=a0_ A290
      clear A290
      by_cases c30 : t5 = true
      ·subst c30
       have H1 : ((spec_inRange.f a1_2 0 99).bind fun t6=>(some t6)) = some r:=by rw [if_pos rfl] at H;exact H
       clear H
       have H:=H1
       clear H1
       replace H:=Option.bind_eq_some_iff.mp H
       obtain ⟨t6,A310,H⟩:=H
       replace H : (some t6) = some r:=H
       have A31:=a0_ A310
       clear A310
       obtain rfl:=Option.some.inj H
       have hnb32:=NB1_2.out
       have hnc32:=NB2_1.out
       have hcz33_0 : wc.cell? ⟨gb1,0,none⟩ = some (.slice A0_0 l0_0.length c0_0):=(blk_cell BK1.out 0).trans rfl
       have hfz33_0:=blk_frozen BK1.out 0
       have hcz34_0 : wc.cell? ⟨gb2,0,none⟩ = some (.int .i64 a1_0):=(blk_cell BK2.out 0).trans rfl
       have hcz34_1 : wc.cell? ⟨gb2,1,none⟩ = some (.int .i64 a1_1):=(blk_cell BK2.out 1).trans rfl
       have hcz34_2 : wc.cell? ⟨gb2,2,none⟩ = some (.int .i64 a1_2):=(blk_cell BK2.out 2).trans rfl
       have hfz34_0:=blk_frozen BK2.out 0
       have hfz34_1:=blk_frozen BK2.out 1
       have hfz34_2:=blk_frozen BK2.out 2
       go_wp2_with (first | ((with_reducible refine gate_callee (f:=61) rfl ?_);refine goesL_ (some 34) rfl rfl Try.func61 (by kernel_rfl) rfl #[.agg #[.slice A0_0 l0_0.length c0_0],.int .i64 a1_1] rfl lm_ ?_;(with_reducible refine (spec_hasClass.calls _ _ l0_0 a1_1 true _ ?side1 ?side2 A29.out).mono ?_);(case side1=>exact cc_ (Kd.C_below HR0_0.out HB.out));(case side2=>exact HC0_0.out);rintro e w35 ⟨rfl,hb⟩;refine ⟨_,rfl,?_⟩;replace BK1:=kb_ BK1 hb;replace BK2:=kb_ BK2 hb;replace HB:=a0_ (below_step hbw_ hb);(try clear hb);have hcz36_0 : w35.cell? ⟨gb2,0,none⟩ = some (.int .i64 a1_0):=(blk_cell BK2.out 0).trans rfl;have hcz36_1 : w35.cell? ⟨gb2,1,none⟩ = some (.int .i64 a1_1):=(blk_cell BK2.out 1).trans rfl;have hcz36_2 : w35.cell? ⟨gb2,2,none⟩ = some (.int .i64 a1_2):=(blk_cell BK2.out 2).trans rfl;have hfz36_0:=blk_frozen BK2.out 0;have hfz36_1:=blk_frozen BK2.out 1;have hfz36_2:=blk_frozen BK2.out 2) | (go_at_call 60;(with_reducible refine (spec_inRange.calls a1_2 0 99 t6 _ A31.out).mono ?_);rintro e w' ⟨rfl,⟨nd,rfl⟩⟩))
       go_ret
       exact ⟨by first | rfl | (simp [errW_none,errW_some] <;> rfl) | (simp [*,errW_none,errW_some] <;> rfl),hbw_⟩
      ·replace c30:=Bool.eq_false_iff.mpr c30
       subst c30
       have H1 : (some false) = some r:=by rw [if_neg (show ¬ (false = true) by decide)] at H;exact H
       clear H
       have H:=H1
       clear H1
       obtain rfl:=Option.some.inj H
       have hnb37:=NB1_2.out
       have hnc37:=NB2_1.out
       have hcz38_0 : wc.cell? ⟨gb1,0,none⟩ = some (.slice A0_0 l0_0.length c0_0):=(blk_cell BK1.out 0).trans rfl
       have hfz38_0:=blk_frozen BK1.out 0
       have hcz39_0 : wc.cell? ⟨gb2,0,none⟩ = some (.int .i64 a1_0):=(blk_cell BK2.out 0).trans rfl
       have hcz39_1 : wc.cell? ⟨gb2,1,none⟩ = some (.int .i64 a1_1):=(blk_cell BK2.out 1).trans rfl
       have hcz39_2 : wc.cell? ⟨gb2,2,none⟩ = some (.int .i64 a1_2):=(blk_cell BK2.out 2).trans rfl
       have hfz39_0:=blk_frozen BK2.out 0
       have hfz39_1:=blk_frozen BK2.out 1
       have hfz39_2:=blk_frozen BK2.out 2
       go_wp2_with (first | ((with_reducible refine gate_callee (f:=61) rfl ?_);refine goesL_ (some 34) rfl rfl Try.func61 (by kernel_rfl) rfl #[.agg #[.slice A0_0 l0_0.length c0_0],.int .i64 a1_1] rfl lm_ ?_;(with_reducible refine (spec_hasClass.calls _ _ l0_0 a1_1 false _ ?side1 ?side2 A29.out).mono ?_);(case side1=>exact cc_ (Kd.C_below HR0_0.out HB.out));(case side2=>exact HC0_0.out);rintro e w40 ⟨rfl,hb⟩;refine ⟨_,rfl,?_⟩;replace BK1:=kb_ BK1 hb;replace BK2:=kb_ BK2 hb;replace HB:=a0_ (below_step hbw_ hb);(try clear hb);(try clear hb2);(try clear hk);(try clear hi)))
       go_ret
       exact ⟨by first | rfl | (simp [errW_none,errW_some] <;> rfl) | (simp [*,errW_none,errW_some] <;> rfl),hbw_⟩
     ·rw [if_neg c28] at H
      have c28b0 : (a1_0 == 3) = false:=beq_eq_false_iff_ne.mpr c28
      have c28b1 : (a1_0 != 3) = true:=bne_iff_ne.mpr c28
      obtain rfl:=Option.some.inj H
      go_wp2
      go_ret
      exact ⟨by first | rfl | (simp [errW_none,errW_some] <;> rfl) | (simp [*,errW_none,errW_some] <;> rfl),hbw_⟩
theorem spec_validExit_ev (t : List Cls) (x : Ext) (ht : t.length ≤ 9223372036854775807) : Ev (fun k=>spec_validExit.f k t x.f0 x.f1 x.f2) (okX t x):=by
 obtain ⟨a,b,c⟩:=x
 have key : ∀ q : Bool,(q = true ↔ (a = 0 ∨ a = 1)) → Ev (fun k=>spec_validExit.j0 k a q t a b c) (okX t ⟨a,b,c⟩):=by
  intro q hq
  refine Ev.succ ?_
  simp only [spec_validExit.j0]
  unfold okX
  simp only
  cases q with
  | true =>
   rw [if_pos (hq.1 rfl)]
   refine Ev.pos rfl (Ev.bind (Ev.const (spec_inRange_ev b 0 99)) ?_)
   cases (decide (0 ≤ b) && decide (b ≤ 99)) with
   | true=>exact Ev.pos rfl (Ev.const rfl)
   | false=>exact Ev.neg (by simp) (Ev.const rfl)
  | false =>
   have hn : ¬ (a = 0 ∨ a = 1):=fun h=>by have:=hq.2 h;cases this
   rw [if_neg hn]
   refine Ev.neg (by simp) ?_
   by_cases h2 : a = 2
   ·refine Ev.pos h2 ?_
    rw [if_pos h2]
    refine Ev.bind (Ev.const (spec_hasClass_ev t b ht)) ?_
    cases hasC t b with
    | true=>exact Ev.pos rfl (Ev.const rfl)
    | false=>exact Ev.neg (by simp) (Ev.const rfl)
   ·refine Ev.neg h2 ?_
    rw [if_neg h2]
    by_cases h3 : a = 3
    ·refine Ev.pos h3 ?_
     rw [if_pos h3]
     refine Ev.bind (Ev.const (spec_hasClass_ev t b ht)) ?_
     cases hasC t b with
     | true=>exact Ev.pos rfl (Ev.bind (Ev.const (spec_inRange_ev c 0 99)) (Ev.const rfl))
     | false=>exact Ev.neg (by simp) (Ev.const rfl)
    ·refine Ev.neg h3 ?_
     rw [if_neg h3]
     exact Ev.const rfl
 unfold spec_validExit.f
 by_cases h0 : a = 0
 ·exact Ev.pos h0 (key (a == 0) (by simp [h0]))
 ·exact Ev.neg h0 (key (a == 1) (by simp [h0]))
end Go.Proofs.Ytjcodcimodnbjaa.P
